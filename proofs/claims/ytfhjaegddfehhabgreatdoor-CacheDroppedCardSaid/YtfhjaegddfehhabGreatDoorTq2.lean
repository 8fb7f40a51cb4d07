/- Lists of strings; rows of five integers. -/
import Derived.Test.YtfhjaegddfehhabGreatDoorLd2
import Derived.ProofKit
import Derived.OpenShut
import Derived.Stop.LaidErr
import Derived.Test.YtfhjaegddfehhabGreatDoorRows
set_option linter.unusedVariables false
set_option linter.unusedSimpArgs false
namespace Go.Proofs.YtfhjaegddfehhabGreatDoor
open Go.Proofs.Tryz
open Go Go.RowKit Gw
set_option maxRecDepth 100000
attribute [local irreducible] Gw.At Gw.Nx Gw.Ops
structure Qn where
 a:Int
 b:Int
 c:Int
 d:Int
 e:Int
def uU(n:Int):Prop:=-9223372036854775808<=n/\n<=9223372036854775807
def Qn.fits(z:Qn):Prop:=uU z.a/\uU z.b/\uU z.c/\uU z.d/\uU z.e
def Qn.q(z:Qn):QM:=Fz z.a z.b z.c z.d z.e
theorem Qn.ok(z:Qn):BF z.q:=Sz _ _ _ _ _
def YK(M:List A9)(v:A3)(ys:List Qn):Prop:=∃p cap,v= .slice p ys.length cap/\(ys.length<=maxLen/\ys.length<=cap)/\∀(i:Nat) (z:Qn),ys[i]?=some z->z.fits/\∃g off cur T zz,p=some ⟨g,off,none⟩/\(g,Obj.cells cur T zz)∈M/\off+i*5+5<=cur.size/\cur.extract (off+i*5) (off+i*5+5)=#[I4 z.a,I4 z.b,I4 z.c,I4 z.d,I4 z.e]
end Go.Proofs.YtfhjaegddfehhabGreatDoor
namespace Go.Proofs.YtfhjaegddfehhabGreatDoor
open Go.Proofs.Tryz
open Go Go.RowKit Gw
set_option maxRecDepth 100000
attribute [local irreducible] Gw.At Gw.Nx Gw.Ops
open Go.ChangeShapes Go.WideShapes Go.Deep
theorem ra(g:Addr):g.add 0=g:=by simp [Addr.add]
theorem wM{w:AD}{a:Addr}{v:A3}(h:w.cell? a=some v):a=⟨a.block,a.off,none⟩:=by
 cases a with|mk b o s=>
 cases s with
 |none=>rfl
 |some s=>
  simp only [World.cell?]at h;split at h<;>simp at h
theorem WX{w:AD}{g i:Nat}{v:A3}(h:w.cell? ⟨g,i,none⟩=some v):∃cur T z,w.heap[g]?=some (.cells cur T z)/\cur[i]?=some v:=by
 unfold World.cell? at h;simp only at h;split at h
 · rename_i c T z hc
   exact ⟨c,T,z,hc,by simpa using h⟩
 · cases h
section
variable{H:Type}{enc:AK×A3->H}{P:Program}{w:AD}{base:Nat}{held:Bool}
end
def X3(w:AD):List A9:=(List.range w.heap.size).filterMap fun b=>(w.heap[b]?).map fun o=>(b,o)
theorem W9{w:AD}{b:Nat}{o:Obj}:(b,o)∈X3 w↔w.heap[b]?=some o:=by
 unfold X3;rw [ar];constructor
 · rintro ⟨a,_,m⟩
   obtain ⟨o',g,h2⟩:=od.1 m;injection h2 with e1 e2
   subst e1 e2;exact g
 · intro h
   refine ⟨b,?_,by rw [h];rfl⟩;rw [LL];rcases E4 b w.heap.size with g|g
   · exact g
   · simp [IF g]at h
theorem dO(w:AD):((X3 w).map (·.1)).Nodup:=by
 have:∀l:List Nat,((l.filterMap fun b=>(w.heap[b]?).map fun o=>(b,o)).map (·.1)).Sublist l:=by
  intro l;induction l with
  |nil=>simp
  |cons a l ih=>
   rw [mN];cases h:w.heap[a]?with
   |none=>simp only [Option.map_none];exact ih.cons a
   |some o=>simp only [NX,Ek];exact ih.cons_cons a
 exact List.Nodup.sublist (this _) jz
def Oy(w:AD)(ks:List Nat):List A9:=(X3 w).filter fun c=>!ks.contains c.1
theorem PP{w:AD}{g:List Nat}{b:Nat}{o:Obj}(h:w.heap[b]?=some o)(m:b∉g):(b,o)∈Oy w g:=by
 unfold Oy;rw [FF];exact ⟨W9.2 h,by simp [m]⟩
theorem nM{P:Program}{f:FuncId}{args:AH}{v:A3}{w:AD}(L:List A9)(X:∀c∈L,w.heap[c.1]?=some c.2)(hn:(L.map (·.1)).Nodup){H:Hp}(B:H.flatten=L++Oy w (L.map (·.1)))(h:BB P f args H v):
 Calls P f args w fun e U=>e= .returned v/\Below w.heap.size w U:=by
 have O:Sat w (H++[]) w:=by
  refine ⟨V,V,V,?_,?_⟩
  · rw [DG,B,C2,HA]
    refine ⟨hn,?_,?_⟩;· exact List.Nodup.sublist (Up.map _) (dO w)
    · intro a ha b hb e
      subst e;obtain ⟨c,hc,rfl⟩:=C3.1 hb;unfold Oy at hc;have:=(FF.1 hc).2
      simp only [TX,List.contains_eq_mem,N5]at this;exact this ha
  · intro p I
    rw [DG,B,Bm]at I;rcases I with I|I
    · exact X p I
    · exact W9.1 (FF.1 I).1
 refine Calls.mono (h w [] w O) fun e U he=>?_;rcases he with⟨v',H',rfl,⟨rfl,rfl⟩,m⟩|⟨_,_,_,hf,_⟩
 · refine ⟨rfl,m.os,m.tape,m.output,?_,?_⟩
   · rcases RC w.heap.size with h0|h0
     · omega
     · have Z:w.heap.size -1<w.heap.size:=by omega
       have J:w.heap[w.heap.size -1]?=some w.heap[w.heap.size -1]:=HQ Z;have:U.heap[w.heap.size -1]?=some w.heap[w.heap.size -1]:=by
        by_cases G:(w.heap.size -1)∈L.map (·.1)
        · obtain ⟨c,hc,G⟩:=C3.1 G
          have g:=m.get c (by rw [DG,B];exact E7 _ hc);have h2:=X c hc
          rw [G]at g h2;rw [g,<-h2,J]
        · exact m.get (_,_) (by rw [DG,B];exact GB _ (PP J G))
       rcases E4 (w.heap.size -1) U.heap.size with g|g
       · omega
       · rw [IF g]at this;cases this
   · intro k G
     have J:w.heap[k]?=some w.heap[k]:=HQ G;by_cases hm:k∈L.map (·.1)
     · obtain ⟨c,hc,rfl⟩:=C3.1 hm
       have g:=m.get c (by rw [DG,B];exact E7 _ hc);rw [g,X c hc]
     · rw [J]
       exact m.get (_,_) (by rw [DG,B];exact GB _ (PP J hm))
 · exact hf.elim
theorem YR{P:Program}{w:AD}{n:String}{g:Nat}{cs:AH}(m:P.globalNamed n=some g)(h:w.var? P n=some cs):∃T z,w.heap[g]?=some (.cells cs T z):=by
 unfold World.var? at h;rw [m,KK]at h;split at h
 · rename_i c T z hc
   injection h with e
   subst e;exact ⟨T,z,hc⟩
 · cases h
theorem uk:Tryz.prog.globalNamed "cachetier/digest.round"=some 2:=by kernel_rfl
theorem tA:(Tryz.prog.globals[2]?).map (·.type)=some 418:=by kernel_rfl
theorem c32:Tryz.prog.cellsOf 291=1:=by kernel_rfl
theorem zI:Tryz.prog.cellsOf 418=64:=by kernel_rfl
theorem qu:Tryz.prog.globalNamed "internal/strconv.uint64pow10"=some 1:=by kernel_rfl
theorem yd:(Tryz.prog.globals[1]?).map (·.type)=some 357:=by kernel_rfl
theorem c64:Tryz.prog.cellsOf 293=1:=by kernel_rfl
theorem zK:Tryz.prog.cellsOf 357=20:=by kernel_rfl
def rA:List Int:=Er.map fun x=>(x.toNat:Int)
theorem eT:(Rows.laid_cachetier_digest_round:DataW Unit)=Lib.tabData .u32 rA:=by kernel_rfl
theorem Yv:(rA.map fun z=>Value.int .u32 z).toArray=(Er.map Ct).toArray:=by kernel_rfl
theorem rZ:(Rows.laid_internal_strconv_uint64pow10:DataW Unit)=Lib.tabData .u64 Lib.pow10Tab:=by kernel_rfl
def UW(W:AD)(Tg:AK)(zg:Nat×Nat)(Tp:AK)(zp:Nat×Nat):Prop:=W.heap[2]?=some (.cells (Er.map Ct).toArray Tg zg)/\W.heap[1]?=some (.cells (Lib.pow10Tab.map fun z=>Value.int .u64 z).toArray Tp zp)
theorem tF{a b:String×DataW Unit}{r:List (String×DataW Unit)}{W:AD}(h:laidMet prog (a::b::("internal/strconv.uint64pow10",Rows.laid_internal_strconv_uint64pow10)::("cachetier/digest.round",Rows.laid_cachetier_digest_round)::r) W):
 ∃Tg zg Tp zp,UW W Tg zg Tp zp:=by
 have h1:=h.tail.tail;have h3:=h1.tail
 rw [rZ]at h1;rw [eT]at h3;have h2:=Lib.tabIs_of_head qu yd underlying357 Wr c64 zK h1
 have h5:=Lib.tabIs_of_head uk tA W0 Tl c32 zI h3;unfold Lib.TabIs at h2 h5;rw [Yv]at h5;obtain ⟨Tg,zg,hb⟩:=YR uk h5;obtain ⟨Tp,zp,hc⟩:=YR qu h2;exact ⟨Tg,zg,Tp,zp,hb,hc⟩
def uQ:A3->Bool
 | .string _=>true
 | .slice _ _ _=>true
 | .bool _=>true
 | .int .i64 _=>true
 |_=>false
theorem ah{W:AD}{J O:AK}{U X:Nat×Nat}(G:UW W J U O X)
 {g i:Nat}{cur:AH}{T:AK}{z:Nat×Nat}(B:W.heap[g]?=some (.cells cur T z)){y:A3}(hc:cur[i]?=some y)(I:uQ y=true):g∉ [2,1]:=by
 intro m;simp only [DB,RR,PF]at m;rcases m with m|m
 · subst m
   rw [G.1]at B;injection B with e
   injection e with e1 _ _
   subst e1;rw [j8,E0]at hc;obtain ⟨u,_,rfl⟩:=od.1 hc;simp [Ct,uQ]at I
 · subst m
   rw [G.2]at B;injection B with e
   injection e with e1 _ _
   subst e1;rw [j8,E0]at hc;obtain ⟨u,_,rfl⟩:=od.1 hc;simp [uQ]at I
theorem yF{f:FuncId}{args:AH}{v:A3}{W:AD}{g m:AK}{B G:Nat×Nat}(I:UW W g B m G)
 (h:BB prog f args [[(2,.cells (Er.map Ct).toArray g B)],[(1,.cells (Lib.pow10Tab.map fun z=>Value.int .u64 z).toArray m G)],Oy W [2,1]] v):
 Calls prog f args W fun e J=>e= .returned v/\Below W.heap.size W J:=
 nM [(2,.cells (Er.map Ct).toArray g B),(1,.cells (Lib.pow10Tab.map fun z=>Value.int .u64 z).toArray m G)] (by
  intro c hc;simp only [DB,RR,PF]at hc;rcases hc with rfl|rfl
  · exact I.1
  · exact I.2) B4 B4 h
theorem Jm{α:Type}:∀(n:Nat) (p:Nat->α->Prop),(∀i,i<n->∃o,p i o)->∃os:List α,os.length=n/\∀i o,os[i]?=some o->p i o
 |0,_,_=>⟨[],rfl,fun i o h=>by cases h⟩
 |n+1,p,h=>by
  obtain ⟨os,g,h2⟩:=Jm n p (fun i hi=>h i (by omega));obtain ⟨o,m⟩:=h n (by omega);refine ⟨os++[o],by simp [g],fun i o' hi=>?_⟩;rw [p6]at hi;split at hi;· exact h2 i o' hi
  · rename_i hlt
    have:i=n:=by
     have:=(C4.1 hi).1;simp at this;omega
    subst this;rw [g,Wf]at hi;simp only [ao,WD]at hi;subst hi;exact m
section
variable{H:Type}{enc:AK×A3->H}{P:Program}{W:AD}{base:Nat}{held:Bool}
theorem Tc{t e:AK}{s I:Nat}{cs:List A3}{x:DataW H×List MemPlace}(ht:P.underlying t=some (.slice e))(hc:P.cellsOf e=s)(hs:0<s)(h:DataW.trod enc P W base (fun _=>true) held I t cs=some x):
 ∃p len cap,cs=[.slice p len cap]/\(len<=maxLen/\len<=cap)/\∀i,i<len->∃B n z,B.length=s/\DataW.trod enc P W base (fun _=>true) held n e B=some z/\
  ∃g o cur T zz,p=some ⟨g,o,none⟩/\W.heap[g]?=some (.cells cur T zz)/\∀j,j<s->cur[o+i*s+j]?=B[j]?:=by
 rcases open_slice ht h with⟨rfl,_⟩|⟨a,len,cap,m,n,D,Pl,rfl,_,hl,hm,hmm,_,hel⟩
 · exact ⟨none,0,0,rfl,⟨C5 _,D2 _⟩,fun i hi=>by omega⟩
 · simp only [Hj]at hmm
   subst hmm;refine ⟨some a,len,m,V,⟨by omega,hl⟩,fun i hi=>?_⟩;have G:a=⟨a.block,a.off,none⟩:=by
    obtain ⟨cs0,g1,_⟩:=hel 0 A1;rw [hc]at g1;obtain ⟨_,af,gg⟩:=World.cells?_some g1;have g9:=gg 0 hs
    rw [B7 (l:=cs0) (i:=0) A1,eL,ra,ra]at g9;exact wM g9
   obtain ⟨B,h1,h2⟩:=hel i A1;rw [hc]at h1;obtain ⟨_,O,hg⟩:=World.cells?_some h1;refine ⟨B,n,_,O,h2,?_⟩;have h9:=hg 0 hs
   rw [B7 (l:=B) (i:=0) A1,G,CW,CW]at h9;obtain ⟨cur,T,zz,hb,_⟩:=WX h9;refine ⟨a.block,a.off,cur,T,zz,by rw [<-G],hb,fun j hj=>?_⟩;have U:=hg j hj
   rw [B7 (l:=B) (i:=j) A1]at U⊢;rw [G,CW,CW]at U;obtain ⟨Z,T2,ax,J,X⟩:=WX U;rw [hb]at J;injection J with e
   injection e with e1 _ _
   rw [e1];exact X
end
theorem rS:Tryz.prog.cellsOf 3=1:=by kernel_rfl
theorem zJ:Tryz.prog.cellsOf 70=6:=by kernel_rfl
theorem ZV{H:Type}{enc:AK×A3->H}{W:AD}{base:Nat}{held:Bool}{Tg Tp:AK}{zg zp:Nat×Nat}(h4:UW W Tg zg Tp zp){I:Nat}{cs:List A3}{x:DataW H×List MemPlace}(h:DataW.trod enc prog W base (fun _=>true) held I 22 cs=some x):
 ∃v xs,cs=[v]/\Wm (Oy W [2,1]) v xs:=by
 obtain ⟨p,len,cap,rfl,hl,Z⟩:=Tc eV zJ AW h;obtain ⟨xs,h1,h2⟩:=Jm len (fun i (z:List Int)=>z.length=6/\(∀n∈z,-9223372036854775808<=n/\n<=9223372036854775807)/\∃g o cur T zz,p=some ⟨g,o,none⟩/\(g,Obj.cells cur T zz)∈Oy W [2,1]/\∀(j:Nat) (n:Int),z[j]?=some n->cur[o+i*6+j]?=some (I4 n)) (fun i hi=>by
  obtain ⟨B,n,z,cu,ht,g,o,cur,T,zz,hp,hb,hc⟩:=Z i hi;obtain ⟨ys,m,_,_,_,d9,hf⟩:=DataW.trod_array i6 ht;obtain ⟨ns,bn,X⟩:=Jm 6 (fun j (n:Int)=>(-9223372036854775808<=n/\n<=9223372036854775807)/\B[j]?=some (I4 n)) (fun j G=>by
   have f:=hf j G;rw [rS,Mz,B7 A1]at f;have O:j<B.length:=by omega
   have e:(B.drop j).take 1=[B[j]]:=by rw [S8 O];rfl
   rw [e]at f;obtain ⟨k,hk,_,af⟩:=DataW.trod_int CM f;injection hk with hk _
   exact ⟨k,bounds_i64 af,by rw [B7 O,hk]⟩)
  have J:∀(j:Nat) (n:Int),ns[j]?=some n->cur[o+i*6+j]?=some (I4 n):=fun j n G=>by
   have cO:=(C4.1 G).1;rw [hc j A1];exact (X j n G).2
  obtain ⟨n0,ax⟩:∃n,ns[0]?=some n:=⟨_,B7 A1⟩;exact ⟨ns,bn,fun n U=>by
   obtain ⟨j,G⟩:=HE U;exact (X j n G).1,g,o,cur,T,zz,hp,PP hb (ah h4 hb (J 0 n0 ax) V),J⟩)
 subst h1;exact ⟨_,xs,V,p,cap,V,hl,h2⟩
open Go.ChangeShapes Go.WideShapes Go.Deep
theorem xj:Tryz.prog.cellsOf 40=5:=by kernel_rfl
theorem nI{l:List A3}(h:l.length=5):∃a b c d e,l=[a,b,c,d,e]:=by
 match l,h with
 |[a,b,c,d,e],_=>exact ⟨a,b,c,d,e,rfl⟩
theorem mW{H:Type}{enc:AK×A3->H}{W:AD}{base:Nat}{held:Bool}{B:Nat}{l:List A3}{x:DataW H×List MemPlace}(h:DataW.trod enc prog W base (fun _=>true) held B 40 l=some x)(hl:l.length=5):
 ∃a b c d e:Int,l=[I4 a,I4 b,I4 c,I4 d,I4 e]/\(-9223372036854775808<=a/\a<=9223372036854775807)/\(-9223372036854775808<=b/\b<=9223372036854775807)/\(-9223372036854775808<=c/\c<=9223372036854775807)/\(-9223372036854775808<=d/\d<=9223372036854775807)/\(-9223372036854775808<=e/\e<=9223372036854775807):=by
 obtain ⟨ys,m,_,_,_,ax,hf⟩:=DataW.trod_array N0 h;have g:∀j,j<5->∃n:Int,l[j]?=some (I4 n)/\-9223372036854775808<=n/\n<=9223372036854775807:=fun j g=>by
  have f:=hf j g;rw [rS,Mz,B7 A1]at f;have G:j<l.length:=by omega
  have e:(l.drop j).take 1=[l[j]]:=by rw [S8 G];rfl
  rw [e]at f;obtain ⟨k,Z,_,af⟩:=DataW.trod_int CM f;injection Z with Z _
  exact ⟨k,by rw [B7 G,Z],bounds_i64 af⟩
 obtain ⟨v0,v1,v2,v3,v4,rfl⟩:=nI hl;obtain ⟨a,ha,I⟩:=g 0 AW;obtain ⟨b,hb,J⟩:=g 1 AW;obtain ⟨c,hc,O⟩:=g 2 AW;obtain ⟨d,hd,U⟩:=g 3 AW;obtain ⟨e,he,X⟩:=g 4 AW;simp at ha hb hc hd he;subst ha hb hc hd he;exact ⟨a,b,c,d,e,V,I,J,O,U,X⟩
end Go.Proofs.YtfhjaegddfehhabGreatDoor
namespace Go.Proofs.YtfhjaegddfehhabGreatDoor
open Go.Proofs.Tryz
open Go Go.RowKit Gw
set_option maxRecDepth 100000
attribute [local irreducible] Gw.At Gw.Nx Gw.Ops
def Nb(c:Chg):Prop:=(1<=c.k/\c.k<=9)/\(0<=c.t/\c.t<=2)
theorem ow(rs:List AX)(n m:Nat):Nb (RG rs n m):=by
 have g:=bm n (show 0<3 by decide);have h2:=bm (n/3) (show 0<9 by decide)
 refine ⟨⟨?_,?_⟩,?_,?_⟩;· show(1:Int)<=((1+n/3%9:Nat):Int);omega
 · show((1+n/3%9:Nat):Int)<=9;omega
 · show(0:Int)<=((n%3:Nat):Int);omega
 · show((n%3:Nat):Int)<=2;omega
theorem UL(rs:List AX)(z:List Int):∀k,∀c∈GM rs z k,Nb c
 |0,c,hc=>by simp [GM]at hc
 |k+1,c,hc=>by
  have g:=UL rs z k;unfold GM VO at hc;split at hc;· exact g c hc
  · rw [Bm,Bm,C1]at hc
    rcases hc with(hc|rfl)|hc
    · exact g c (Pc hc)
    · exact ow _ _ _
    · exact g c (KB hc)
theorem WE:∀(xs:List (List Int)) (L:List (List Chg)),(∀cs∈L,∀c∈cs,Nb c)->∀cs∈xs.foldl N9 L,∀c∈cs,Nb c
 |[],_,h=>h
 |z::xs,L,h=>by
  rw [V1];refine WE xs _ fun cs g=>?_;unfold N9 at g;split at g
  · rcases Bm.1 g with h1|h1
    · exact h cs h1
    · rw [C1.1 h1];exact UL _ _ 3
  · exact h cs g
theorem uA(xs:List (List Int)):∀cs∈Tk xs,∀c∈cs,Nb c:=WE xs [] fun cs h=>by simp at h
def Qs(r:AX):Prop:=1<=r.k/\r.k<=9
theorem rU{rs:List AX}{c:Chg}(h:∀r∈rs,Qs r)(hc:Nb c):∀r∈EN rs c,Qs r:=fun r g=>by
 unfold EN at g;rw [Bm,Bm]at g;rcases g with(g|g)|g
 · exact h r (Pc g)
 · obtain ⟨_,rfl⟩:=MN.1 g;exact hc.1
 · exact h r (KB (KB g))
theorem TA:∀(cs:List Chg) (rs:List AX),(∀r∈rs,Qs r)->(∀c∈cs,Nb c)->∀r∈DU rs cs,Qs r
 |[],_,h,_=>h
 |c::cs,rs,h,hc=>TA cs (EN rs c) (rU h (hc c (EV ..))) fun d g=>hc d (FA _ g)
theorem VV:∀(l:List BP) (rs:List AX),(∀r∈rs,Qs r)->(∀x∈l,∀c∈x.cs,Nb c)->∀r∈l.foldl (fun rs r=>DU rs r.cs) rs,Qs r
 |[],_,h,_=>h
 |x::l,rs,h,hc=>VV l _ (TA x.cs rs h (hc x (EV ..))) fun y hy=>hc y (FA _ hy)
theorem qh{l:List BP}(h:∀x∈l,∀c∈x.cs,Nb c):∀r∈Bb l,Qs r:=VV l [] (fun r g=>by simp at g) h
theorem kT:∀(l:List Int) (a b:Int),l.Pairwise (·<·)->(∀x∈l,a<=x/\x<=b)->(l.length:Int)<=max (b -a+1) 0
 |[],_,_,_,_=>by simp;omega
 |x::l,a,b,hp,h=>by
  obtain ⟨g,h2⟩:=RE.1 hp;have hx:=h x (EV ..)
  have m:=kT l (x+1) b h2 fun y hy=>⟨by have:=g y hy;omega,(h y (FA _ hy)).2⟩;rw [Dd];omega
theorem xM{rs:List AX}(O:BQ rs)(I:∀r∈rs,Qs r)(t:Int):(rs.filter fun r=>decide (r.t=t)).length<=9:=by
 have m:((rs.filter fun r=>decide (r.t=t)).map (·.k)).Pairwise (·<·):=by
  rw [V0];refine List.Pairwise.imp_of_mem ?_ (List.Pairwise.filter _ O);intro a b B G g;have ta:=I0 (FF.1 B).2
  have tb:=I0 (FF.1 G).2;rcases g with h|⟨_,h⟩
  · omega
  · exact h
 have h2:=kT _ 1 9 m fun x hx=>by
  obtain ⟨r,J,rfl⟩:=C3.1 hx;exact I r (FF.1 J).1
 rw [B8]at h2;omega
theorem WQ{α:Type}{f g:α->Bool}(h:∀x,f x=true->g x=true):∀l:List α,(l.filter f).length<=(l.filter g).length
 |[]=>D2 _
 |x::l=>by
  have m:=WQ h l;rw [cV,cV];split
  · rename_i h1
    rw [Ax (h x h1),Dd,Dd];omega
  · split
    · rw [Dd];omega
    · exact m
structure oE(l:List BP):Prop where
 b:Ld l
 nine:∀a,a<=l.length->∀q,(CS (Bb (l.take a)) q).length<=9
theorem yA{l:List BP}(G:FC l)(m:l.length<=20){xs:List (List Int)}(J:l.map BP.cs=Tk xs):oE l:=by
 refine ⟨G.toB m,fun a O q=>?_⟩;have g:∀x∈l.take a,∀c∈x.cs,Nb c:=fun x hx c hc=>uA xs x.cs (by rw [<-J];exact DS (Pc hx)) c hc
 have I:=xM (G.rows a O).1 (qh g) q.tb;have h2:=(ET (Bb (l.take a)) q.tb q.cl.toNat q.lo q.hi).length_eq
 unfold CS;rw [h2];refine My ?_ I;refine WQ (fun r B=>?_) _;unfold inR at B;simp only [G3,Ft]at B⊢;exact B.1
theorem oE.rows{l:List BP}(h:oE l)(q:QM):∀b,b<=l.length->(Ci (Bb (l.take b)) q).rows.length<=18:=fun b g=>by
 have m:=oN (Bb (l.take b)) q;have h2:=h.nine b g q
 omega
structure NL(l:List BP)(P i:Nat)(B cap:Int)(c:CZ):Prop where
 law:GG l P c
 len:c.its.length<=i
 next:c.next<=(i:Int)
 sz:∀e∈c.PL,e.sz<=B
 cap:c.z.cap=cap
 ns:c.ns=1
theorem NL.room{l:List BP}{P i:Nat}{B cap:Int}{c:CZ}(h:NL l P i B cap c)(m:0<=B):cap -(i:Int)*B<=c.z.fr:=by
 have g:=XK h.law.ok.tookb h.sz;rw [h.cap]at g;have h2:(c.its.length:Int)*B<=(i:Int)*B:=Int.mul_le_mul_of_nonneg_right (by have:=h.len;omega) m
 omega
theorem NL.put{l:List BP}{P i:Nat}{B cap:Int}{c d:CZ}(h:NL l P i B cap c)(I:GG l P d)(g:c.like d)(J:d.next<=c.next+1){q:QM}{tn:Int}{a n:Nat}{b:Bool}(m:YJ l P c d q tn a n b)(hn:1+(n:Int)<=B):NL l P (i+1) B cap d:=by
 have O:=h.len;have h2:=h.next
 refine ⟨I,?_,by push_cast;omega,fun e G=>?_,g.cap.trans h.cap,g.ns.trans h.ns⟩
 · rcases m with⟨_,rfl,_⟩|⟨_,_,_,⟨rfl,_⟩|⟨_,y,e,_⟩⟩
   · omega
   · omega
   · rw [e,BW,Fl]
     have:=ON (fun x:ItM=>decide (x.key≠str (CJ q))) c.its;omega
 · rcases m with⟨_,rfl,_⟩|⟨_,_,h3,_⟩
   · exact h.sz e G
   · rcases h3 e G with h9|h9
     · exact h.sz e h9
     · omega
theorem YJ.yes{l:List BP}{P:Nat}{c d:CZ}{q:QM}{tn:Int}{a n:Nat}{b:Bool}(m:YJ l P c d q tn a n b)(h:P<=a):b=true:=by
 rcases m with⟨_,_,g⟩|⟨g,_⟩
 · exact absurd (QH h) g
 · exact g
theorem kL{M:List A9}{p:B6}{cap:Nat}{ys:List Qn}(h:YK M (.slice p ys.length cap) ys){i:Nat}{z:Qn}(hz:ys[i]?=some z):z.fits/\∃g off cur T zz,p=some ⟨g,off,none⟩/\(g,Obj.cells cur T zz)∈M/\off+i*5+5<=cur.size/\cur.extract (off+i*5) (off+i*5+5)=#[I4 z.a,I4 z.b,I4 z.c,I4 z.d,I4 z.e]:=by
 obtain ⟨G,m,e,_,B⟩:=h;injection e with e1 e2 e3
 subst e1;exact B i z hz
theorem XO(x y:CB):decide (x=y)=(decide (x.rows=y.rows)&&decide (x.val=y.val)&&decide (x.fnd=y.fnd)):=by
 obtain ⟨a,b,c⟩:=x;obtain ⟨B,G,c'⟩:=y;rw [nF];simp only [G3,CB.mk.injEq,Ft];exact ⟨fun⟨g,h2,m⟩=>⟨⟨g,h2⟩,m⟩,fun⟨⟨g,h2⟩,m⟩=>⟨g,h2,m⟩⟩
def dD(c:CZ):Prop:=∀x∈c.its,x.base=0
theorem dD.put{l:List BP}{P:Nat}{c d:CZ}(h:dD c){q:QM}{tn:Int}{n:Nat}{b:Bool}(g:YJ l P c d q tn 0 n b):dD d:=fun x hx=>by
 rcases g with⟨_,rfl,_⟩|⟨_,_,_,⟨rfl,_⟩|⟨_,y,e,_,e2,_⟩⟩
 · exact h x hx
 · exact h x hx
 · rw [e]at hx
   rcases Bm.1 hx with hx|hx
   · exact h x (FF.1 hx).1
   · rw [C1.1 hx,e2];rfl
theorem dD.apply{c d:CZ}(h:dD c){p:Int}{cs:List Chg}{q2:B6}{cap2:Nat}{zs:List Bk}(g:GH c d p cs q2 cap2 zs):dD d:=fun y hy=>by
 obtain ⟨_,x,hx,hc,_⟩:=g.i1 y hy;rw [(H7 hc).2.2.2.2.1];exact h x hx
theorem xZ{M:List A9}{va vb:A3}{a b:List AX}(ha:DW M va a)(hb:DW M vb b):BB prog 57 #[va,vb] [M] (.bool (decide (a=b))):=by
 have kv:=mL;obtain ⟨pa,ca,rfl,j3,Z⟩:=ha;obtain ⟨pb,cb,rfl,j5,af⟩:=hb;refine Se func57 ntmps57 [0,1] ?_;intro u R;refine A0<|A4 Y<|Zq<|A0<|Zm Y<|Zv (AY BE Y)<|Zm Y<|Zv (AY BE Y)<|Zv (Dn Y Y)<|A5<|Aq Y (fun O=>?_) (fun O=>?_);·
  refine A0<|A4 Y<|AJ<|Zt<|AO rfl results57 Y (by exact ⟨Dz (fun e=>O (by rw [e])),rfl⟩)
 have ax:a.length=b.length:=by omega
 refine AC<|Zx<|Zq<|A0<|A4 Y<|AQ<|Zb [5,0,1] ?_;refine BA (e0:=[(5,_)]) (fun m e H=>∃(i:Nat),m=a.length -i/\(i<=a.length/\∀j,j<i->a[j]?=b[j]?)/\e=[(5,I4 (i:Int))]/\H=[]) (by exact ⟨0,V,⟨C5 _,by intro j hj;omega⟩,V,V⟩) Wp ?_;rintro _ _ _ ⟨i,rfl,⟨hi,g⟩,rfl,rfl⟩;refine Zq<|A0<|Zm Y<|Zm Y<|Zv (AY BE Y)<|Zv (Au Y Y)<|A5<|Aq Y (fun bn=>?_) (fun bn=>?_);·
  obtain ⟨x,hx⟩:∃x,a[i]?=some x:=⟨_,B7 A1⟩;obtain ⟨y,hy⟩:∃y,b[i]?=some y:=⟨_,B7 A1⟩;obtain ⟨g1,gy,B,T1,d9,rfl,cu,gm,I⟩:=Z i x hx;obtain ⟨g2,ic,G,T2,ek,rfl,cO,gq,J⟩:=af i y hy;refine AC<|Zx<|Zq<|AQ<|Zq<|Az (n:=9) (0::0::3::7::0::0::48::112::255::[]) 0 AE AE V<|A2 0 V (AP Y)<|A2 1 V (AP Y)<|A2 2 V (Ad BE B0 Y Y A1)<|Ce (b:=g1) (x:= .cells B T1 d9) (D':=15) 3 V rfl V (by simp [cu]) (AA (cs:=x.A97) D0 B0 Y A1 I) ?_;refine A2 4 V (AP Y)<|A2 5 V (AP Y)<|A2 6 V (Ad BE B0 Y Y A1)<|Ce (b:=g2) (x:= .cells G T2 ek) (D':=255) 7 V rfl V (by simp [cO]) (AA (cs:=y.A97) D0 B0 Y A1 J) ?_;refine A2 8 V (Vu AE G0 AE AW AW AW CM Hh AF A6 HB DO Y Y)<|Ag<|Zn [0,1,5,25] ?_;refine Zx<|Aq Y (fun U=>?_) (fun U=>?_);·
   refine A0<|A4 Y<|AJ<|Ac<|Zt<|Zt<|Ac<|Zt<|AO rfl results57 Y (by exact ⟨Dz (fun e=>by rw [e,hy]at hx;injection hx with hx;exact U (XJ.2 hx.symm)),rfl⟩)
  have X:x=y:=XJ.1 (HL.1 U);refine AC<|A8<|Zx<|Zg<|Zm Y<|Ya (n:=1) Y Y<|AN Y<|Zn [5,0,1] ?_;refine Ab (e':=[(5,_)]) (by exact ⟨i+1,rfl,⟨by omega,fun j hj=>by rcases E4 j i with h9|h9;exact g j h9;obtain rfl:j=i:=A1;rw [hx,hy];exact congrArg some X⟩,rfl,rfl⟩)
 refine Ay<|Zt<|Zt<|AR<|Zx<|A0<|A4 Y<|AJ<|AO V results57 Y (by exact ⟨JQ (L9 ax (fun j hj=>g j A1)),V⟩)
theorem xX{A B:List A9}{G I:A3}{x y:CB}(g:DW A G x.rows)(m:DW B I y.rows):BB prog 17 #[.agg #[G,I4 x.val,.bool x.fnd],.agg #[I,I4 y.val,.bool y.fnd]] [A,B] (.bool (decide (x=y))):=by
 obtain ⟨X,J,rfl,_⟩:=id g;obtain ⟨Z,O,rfl,_⟩:=id m;refine Se func17 ntmps17 [0,1] ?_;intro u R;refine A0<|Ze (Bx #[.slice X x.rows.length J,I4 x.val,.bool x.fnd])<|AG fun b1=>Ze (Bx #[.slice Z y.rows.length O,I4 y.val,.bool y.fnd])<|AG fun b2=>A4 Y<|A0<|Zh 0 CH V rfl CI Y<|Zl Fm Y<|Zh 0 CH V rfl CI Y<|Zl Fm Y<|Xr [_,_] Y call57 Y V (Qg (xZ (g.mono (fun c hc=>E7 B hc)) (m.mono (fun c hc=>GB A hc))))<|Zm Y<|Aj (t:=10) Y V (fun U=>?_) (fun U=>?_);·
  refine Yf 1 CH V rfl A6 Y<|Yl AF Y<|Yf 1 CH V rfl A6 Y<|Yl AF Y<|Yg (CK Y Y)<|Zv (AV Y Y)<|Zm Y<|Aj (t:=17) Y V (fun h2=>?_) (fun h2=>?_);·
   refine Yf 2 CH V rfl Cp Y<|Yl E6 Y<|Yf 2 CH V rfl Cp Y<|Yl E6 Y<|Yg (TV LS Y Y)<|Zv (AV Y Y)<|AN Y<|Zn [4] ?_;refine Zx<|AJ<|AO rfl results17 Y (by exact ⟨by rw [XO];simp [*],rfl⟩)
  refine A7 Y V<|A7 Y V<|A7 Y V<|A7 Y V<|A7 Y V<|Zv (AL Y Y)<|AN Y<|Zn [4] ?_;refine Zx<|AJ<|AO rfl results17 Y (by exact ⟨by rw [XO];simp [*],rfl⟩)
 refine A7 Y V<|A7 Y V<|A7 Y V<|A7 Y V<|A7 Y V<|Zv (AL Y Y)<|Zm Y<|A7 Y V<|A7 Y V<|A7 Y V<|A7 Y V<|A7 Y V<|Zv (AL Y Y)<|AN Y<|Zn [4] ?_;refine Zx<|AJ<|AO rfl results17 Y (by exact ⟨by rw [XO];simp [*],rfl⟩)
theorem Qh:∀{x y A B:List UInt8},(∀c∈x,c≠32)->(∀c∈y,c≠32)->x++32::A=y++32::B->x=y/\A=B
 |[],[],_,_,_,_,h=>⟨rfl,by injection h⟩
 |[],c::y,_,_,_,hy,h=>by injection h with h1 _;exact absurd h1.symm (hy c (EV ..))
 |c::x,[],_,_,hx,_,h=>by injection h with h1 _;exact absurd h1 (hx c (EV ..))
 |c::x,d::y,_,_,hx,hy,h=>by
  injection h with h1 h2
  obtain ⟨g,m⟩:=Qh (fun c hc=>hx c (FA _ hc)) (fun c hc=>hy c (FA _ hc)) h2;exact ⟨by rw [h1,g],m⟩
theorem bT{x y A B:List UInt8}(hx:∀c∈x,c≠32)(hy:∀c∈y,c≠32)(h:M5 A x=M5 B y):A=B/\x=y:=by
 unfold M5 at h;have g:=congrArg List.reverse h
 simp only [mS,List.reverse_cons,D3,Mb]at g;obtain ⟨h2,m⟩:=Qh (fun c hc=>hx c (cW.1 hc)) (fun c hc=>hy c (cW.1 hc)) g;exact ⟨List.reverse_inj.1 m,List.reverse_inj.1 h2⟩
theorem iR(u:Nat):∀c∈Lib.decDigits u,48<=c.toNat/\c.toNat<=57:=by
 induction u using Nat.strongRecOn with
 |ind u ih=>
  intro c hc;have g:∀n,n<10->(UInt8.ofNat (48+n)).toNat=48+n:=fun n hn=>by
   rw [mn];omega
  rw [Lib.decDigits]at hc;split at hc
  · rename_i hu
    rw [C1.1 hc,g u hu];omega
  · rename_i hu
    rcases Bm.1 hc with hc|hc
    · exact ih (u/10) A1 c hc
    · rw [C1.1 hc,g (u%10) (bm _ AW)]
      have:=bm u (show 0<10 by decide);omega
def vR(l:List UInt8):Nat:=l.foldl (fun a c=>a*10+(c.toNat -48)) 0
theorem Pi(u:Nat):vR (Lib.decDigits u)=u:=by
 induction u using Nat.strongRecOn with
 |ind u ih=>
  have g:∀n,n<10->(UInt8.ofNat (48+n)).toNat=48+n:=fun n hn=>by
   rw [mn];omega
  rw [Lib.decDigits];split
  · rename_i hu
    show 0*10+((UInt8.ofNat (48+u)).toNat -48)=u;rw [g u hu];omega
  · rename_i hu
    unfold vR;rw [Wa];show vR (Lib.decDigits (u/10))*10+((UInt8.ofNat (48+u%10)).toNat -48)=u
    rw [ih (u/10) A1,g (u%10) (bm _ AW)];omega
theorem uP{a b:Int}(h:Lib.itoa a=Lib.itoa b):a=b:=by
 have m:∀u v:Nat,45::Lib.decDigits u≠Lib.decDigits v:=fun u v B=>by
  have g:=iR v 45 (by rw [<-B];exact EV ..);revert g;decide
 unfold Lib.itoa at h;split at h
 · split at h
   · injection h with _ h
     have g:=congrArg vR h;rw [Pi,Pi]at g;omega
   · exact absurd h (m _ _)
 · split at h
   · exact absurd h.symm (m _ _)
   · have g:=congrArg vR h
     rw [Pi,Pi]at g;omega
theorem kE(a:Int):∀c∈Lib.itoa a,c≠32:=fun c hc g=>by
 subst g;unfold Lib.itoa at hc;split at hc
 · rcases DB.1 hc with h|h
   · revert h;decide
   · have:=iR _ _ h;revert this;decide
 · have:=iR _ _ hc;revert this;decide
theorem kI(k i:Int):∀c∈Gz k i,c≠32:=by
 unfold Gz;split
 · split
   · decide
   · split<;>decide
 · split<;>decide
theorem jK(k:Int):∀c∈GI k,c≠32:=by
 unfold GI;split;· decide
 · split
   · decide
   · split
     · decide
     · split
       · decide
       · split
         · decide
         · split<;>decide
theorem jN(q:QM):∀i,∃t,upP q (i+1)=GI q.kd++32::t:=by
 have g:∀(l:List UInt8) (i:Nat),(l=GI q.kd\/∃t,l=GI q.kd++32::t)->(K3 q l i=GI q.kd\/∃t,K3 q l i=GI q.kd++32::t):=fun l i h=>by
  unfold K3;split;· exact h
  · right
    unfold M5;rcases h with rfl|⟨t,rfl⟩
    · exact ⟨_,rfl⟩
    · exact ⟨t++32::Gz q.kd i,by simp⟩
 have m:∀(l x:List UInt8),(l=GI q.kd\/∃t,l=GI q.kd++32::t)->∃t,M5 l x=GI q.kd++32::t:=fun l x h=>by
  unfold M5;rcases h with rfl|⟨t,rfl⟩
  · exact ⟨_,rfl⟩
  · exact ⟨t++32::x,by simp⟩
 intro i;induction i with
 |zero=>exact m _ _ (g _ _ (.inl rfl))
 |succ i ih=>exact m _ _ (g _ _ (.inr ih))
theorem qB{q g:QM}(h:BF q)(B:BF g)(e:GI q.kd=GI g.kd):q.kd=g.kd:=by
 have m:∀q:QM,BF q->q.kd=1\/q.kd=2\/q.kd=3\/q.kd=4\/q.kd=5\/q.kd=6\/q.kd=7:=fun q h=>by
  have:=h.2.2.2;omega
 rcases m q h with h1|h1|h1|h1|h1|h1|h1<;>rcases m g B with h2|h2|h2|h2|h2|h2|h2<;>rw [h1,h2]at e⊢<;>(revert e;decide)
theorem qI{q B:QM}(m:q.kd=B.kd):∀i,upP q i=upP B i->∀j,j<i->IR q ((FN q.kd).getD j 0)=IR B ((FN q.kd).getD j 0)
 |0,_,j,hj=>by omega
 |i+1,h,j,hj=>by
  rw [KC,KC,<-m]at h;obtain ⟨g,h2⟩:=bT (kE _) (kE _) h;rcases E4 j i with h3|h3
  · refine qI m i ?_ j h3
    unfold K3 at g;rw [<-m]at g;split at g;· exact g
    · exact (bT (kI _ _) (kI _ _) g).1
  · obtain rfl:j=i:=by omega
    exact uP h2
theorem mD{q X:QM}(h:BF q)(h':BF X)(e:CJ q=CJ X):q=X:=by
 have U:q.kd=X.kd:=by
  unfold CJ at e;have h1:=Xp q.kd
  have h2:=Xp X.kd;obtain ⟨m,hm⟩:∃m,(FN q.kd).length=m+1:=⟨(FN q.kd).length -1,by omega⟩;obtain ⟨m',af⟩:∃m,(FN X.kd).length=m+1:=⟨(FN X.kd).length -1,by omega⟩;obtain ⟨t,ht⟩:=jN q m;obtain ⟨t',ax⟩:=jN X m';rw [hm,af,ht,ax]at e;exact qB h h' (Qh (jK _) (jK _) e).1
 have g:=qI U (FN q.kd).length (by unfold CJ at e;rw [<-U]at e;exact e);obtain ⟨kd,tb,cl,lo,hi,bq,ot⟩:=q;obtain ⟨cu,Z,G,J,I,B,O⟩:=X;simp only at U;subst U;have hv:=h.2.2.2
 have bn:=h'.2.2.2;simp only at hv bn g;rcases hv with⟨rfl,hc,hl,_,hb,ho⟩|⟨hk,hb,ho⟩|⟨hk,hb,ho⟩|⟨rfl,hb,ho⟩
 · have a0:=g 0 AW
   have a1:=g 1 AW;simp [FN,IR]at a0 a1;have:G=0/\J=I/\B=0/\O=0:=by omega
   rw [show Z=tb by omega,show G=cl by omega,show J=lo by omega,show I=hi by omega,show B=bq by omega,show O=ot by omega]
 · rcases hk with rfl|rfl
   all_goals
    have a0:=g 0 AW;have a1:=g 1 AW
    have a2:=g 2 AW;have a3:=g 3 AW
    simp [FN,IR]at a0 a1 a2 a3;rw [show Z=tb by omega,show G=cl by omega,show J=lo by omega,show I=hi by omega,show B=bq by omega,show O=ot by omega]
 · rcases hk with rfl|rfl|rfl
   all_goals
    have a0:=g 0 AW;have a1:=g 1 AW
    have a2:=g 2 AW;have a3:=g 3 AW
    have a4:=g 4 AW;simp [FN,IR]at a0 a1 a2 a3 a4;rw [show Z=tb by omega,show G=cl by omega,show J=lo by omega,show I=hi by omega,show B=bq by omega,show O=ot by omega]
 · have a0:=g 0 AW
   have a1:=g 1 AW;have a2:=g 2 AW
   have a3:=g 3 AW;have a4:=g 4 AW
   have a5:=g 5 AW;simp [FN,IR]at a0 a1 a2 a3 a4 a5;rw [show Z=tb by omega,show G=cl by omega,show J=lo by omega,show I=hi by omega,show B=bq by omega,show O=ot by omega]
theorem jy{x y:QM}(h:BF x)(g:BF y)(e:str (CJ x)=str (CJ y)):x=y:=mD h g (jX e)
theorem NL.mono{l:List BP}{P i j:Nat}{B cap:Int}{c:CZ}(h:NL l P i B cap c)(g:i<=j):NL l P j B cap c:=⟨h.law,My h.len g,by have:=h.next;omega,h.sz,h.cap,h.ns⟩
theorem A01{c d:CZ}{p:Int}{cs:List Chg}{q2:B6}{cap2:Nat}{zs:List Bk}(g:GH c d p cs q2 cap2 zs):d.its.length<=c.its.length:=by
 have h:=PN g.ok.its.keys (b:=c.its.map ItM.key) fun k m=>by
  obtain ⟨y,hy,rfl⟩:=C3.1 m;obtain ⟨_,x,hx,hc,_⟩:=g.i1 y hy;rw [Ii hc];exact DS hx
 rw [B8,B8]at h;exact h
theorem NL.apply{l:List BP}{P i:Nat}{B cap:Int}{c d:CZ}(h:NL l P i B cap c)(m:GG l (P+1) d){p:Int}{cs:List Chg}{q2:B6}{cap2:Nat}{zs:List Bk}(g:GH c d p cs q2 cap2 zs):NL l (P+1) i B cap d:=⟨m,My (A01 g) h.len,by rw [g.next];exact h.next,fun e G=>h.sz e (g.PL e G),g.cap.trans h.cap,g.ns.trans h.ns⟩
theorem NL.part{l:List BP}{P i:Nat}{B cap:Int}{c d:CZ}(h:NL l P i B cap c)(I:d.ok)(g:c.like d)(G:d.next=c.next)(U:∀x∈d.its,x∈c.its)(O:d.its.length<=c.its.length)(m:∀e∈d.PL,e∈c.PL):NL l P i B cap d:=⟨h.law.part I g U,My O h.len,by rw [G];exact h.next,fun e J=>h.sz e (m e J),g.cap.trans h.cap,g.ns.trans h.ns⟩
theorem gT{c:CZ}(h:c.ok)(K:Bk):BZ prog 12 #[.pointer (some ⟨c.cp,0,none⟩),.string K] [c.mem] (fun r H'=>∃(b:Bool) (d:CZ),r= .bool b/\d.ok/\c.like d/\d.next=c.next/\d.its=c.its/\(∀e∈d.PL,e∈c.PL)/\H'=[d.mem]):=by
 by_cases hx:∃x∈c.its,x.key=K
 · obtain ⟨x,hx,rfl⟩:=hx
   refine (tr h hx).mono ?_;rintro r H' ⟨rfl,d,m,h2,B,_,G,I,rfl⟩;exact ⟨true,d,V,m,h2,B,G,I,V⟩
 · refine Dp (nO h.tookb (K:=K) fun y hy g=>hx ⟨y,hy,g⟩) [] B4 ?_
   rintro r H' ⟨rfl,rfl⟩;exact ⟨_,⟨false,c,V,h,⟨V,V,V,V,V⟩,V,V,fun e g=>g,V⟩,by simp⟩
theorem nS{c:CZ}(h:c.ok)(K:Bk):BZ prog 13 #[.pointer (some ⟨c.cp,0,none⟩),.string K] [c.mem] (fun r H'=>∃(b:Bool) (d:CZ),r= .bool b/\d.ok/\c.like d/\d.next=c.next/\d.its=(c.its.filter fun y=>y.key≠K)/\(∀e∈d.PL,e∈c.PL)/\H'=[d.mem]):=by
 by_cases hx:∃x∈c.its,x.key=K
 · obtain ⟨x,hx,rfl⟩:=hx
   refine (wt h hx).mono ?_;rintro r H' ⟨rfl,d,B,h2,G,_,I,J,rfl⟩;exact ⟨true,d,V,B,h2,G,I,J,V⟩
 · have g:∀y∈c.its,y.key≠K:=fun y hy m=>hx ⟨y,hy,m⟩
   refine Dp (uK h.tookb g) [] B4 ?_;rintro r H' ⟨rfl,rfl⟩;exact ⟨_,⟨false,c,V,h,⟨V,V,V,V,V⟩,V,(RB g).symm,fun e m=>m,V⟩,by simp⟩
structure DrP(l:List BP)(P i:Nat)(K:Bk)(dn:Prop)(a b:CZ):Prop where
 ta:NL l P i 19 1000 a
 tb:NL l P i 19 1000 b
 za:dD a
 zb:¬dn->dD b
 r1:∀x∈a.its,(x.key=K->¬dn)->∃y∈b.its,y.key=x.key/\y.base=0
theorem DrP.puts{l:List BP}{P i:Nat}{K:Bk}{a b I B:CZ}(h:DrP l P i K False a b){q:QM}{n:Nat}(hn:1+(n:Int)<=19){ba bb:Bool}(LA:GG l P I)(Z:a.like I)(ax:I.next<=a.next+1)(O:YJ l P a I q ((0:Nat):Int) 0 n ba)(LB:GG l P B)(af:b.like B)(bn:B.next<=b.next+1)(U:YJ l P b B q ((0:Nat):Int) 0 n bb)(hP:P<=0):DrP l P (i+1) K False I B:=by
 have g:=(h.zb id).put U;refine ⟨h.ta.put LA Z ax O hn,h.tb.put LB af bn U hn,h.za.put O,fun _=>g,fun x hx _=>?_⟩;have hb:∀k,((∃y∈b.its,y.key=k)\/k=str (CJ q))->∃y∈B.its,y.key=k/\y.base=0:=fun k m=>by
  rcases U with⟨_,_,h1⟩|⟨_,_,_,⟨rfl,x9,hx9,hk9,_⟩|⟨_,y,e,e1,_⟩⟩
  · exact absurd (QH hP) h1
  · rcases m with⟨y,hy,rfl⟩|rfl
    · exact ⟨y,hy,rfl,g y hy⟩
    · exact ⟨x9,hx9,hk9,g x9 hx9⟩
  · have hy:y∈B.its:=by rw [e];simp
    have X:y.key=str (CJ q):=by unfold ItM.key;rw [e1]
    by_cases G:k=str (CJ q)
    · exact ⟨y,hy,X.trans G.symm,g y hy⟩
    · rcases m with⟨w,hw,rfl⟩|m
      · have J:w∈B.its:=by rw [e];exact E7 _ (FF.2 ⟨hw,by simpa using G⟩)
        exact ⟨w,J,V,g w J⟩
      · exact absurd m G
 refine hb x.key ?_;rcases O with⟨_,rfl,_⟩|⟨_,_,_,⟨rfl,_⟩|⟨_,y,e,e1,_⟩⟩
 · obtain ⟨y,hy,m,_⟩:=h.r1 x hx fun _ h=>h;exact .inl ⟨y,hy,m⟩
 · obtain ⟨y,hy,m,_⟩:=h.r1 x hx fun _ h=>h;exact .inl ⟨y,hy,m⟩
 · rw [e]at hx
   rcases Bm.1 hx with hx|hx
   · obtain ⟨y,hy,m,_⟩:=h.r1 x (FF.1 hx).1 fun _ h=>h;exact .inl ⟨y,hy,m⟩
   · right;rw [C1.1 hx];unfold ItM.key;rw [e1]
theorem DrP.drop{l:List BP}{P i:Nat}{K:Bk}{a b g m:CZ}(h:DrP l P i K False a b)(h1:g.ok)(O:b.like g)(X:g.next=b.next)(i1:g.its=b.its)(p1:∀e∈g.PL,e∈b.PL)(h2:m.ok)(U:g.like m)(Z:m.next=g.next)(i2:m.its=(g.its.filter fun y=>y.key≠K))(p2:∀e∈m.PL,e∈g.PL):DrP l P i K True a m:=by
 rw [i1]at i2;have G:∀y,y∈m.its↔y∈b.its/\y.key≠K:=fun y=>by rw [i2,FF];simp
 refine ⟨h.ta,h.tb.part h2 (O.trans U) (Z.trans X) (fun x hx=>((G x).1 hx).1) (by rw [i2];exact ON _ _) (fun e I=>p1 e (p2 e I)),h.za,fun B=>absurd trivial B,fun x hx J=>?_⟩;obtain ⟨y,hy,e1,e2⟩:=h.r1 x hx fun _ h=>h;exact ⟨y,(G y).2 ⟨hy,fun B=>J (e1.symm.trans B) trivial⟩,e1,e2⟩
theorem DrP.again{l:List BP}{P i:Nat}{a b g:CZ}{q:QM}(h:DrP l P i (str (CJ q)) True a b){n:Nat}(hn:1+(n:Int)<=19){X:Bool}{m:Nat}(U:GG l P g)(G:b.like g)(I:g.next<=b.next+1)(J:YJ l P b g q ((0:Nat):Int) m n X):DrP l P (i+1) (str (CJ q)) True a g:=by
 refine ⟨h.ta.mono (Nat.le_succ i),h.tb.put U G I J hn,h.za,fun B=>absurd trivial B,fun x hx O=>?_⟩;obtain ⟨y,hy,e1,e2⟩:=h.r1 x hx O;rcases J with⟨_,rfl,_⟩|⟨_,_,_,⟨rfl,_⟩|⟨_,w,e,_⟩⟩
 · exact ⟨y,hy,e1,e2⟩
 · exact ⟨y,hy,e1,e2⟩
 · exact ⟨y,by rw [e];exact E7 _ (FF.2 ⟨hy,by simpa using fun B:y.key=str (CJ q)=>O (e1.symm.trans B) trivial⟩),e1,e2⟩
theorem DrP.mono{l:List BP}{P i j:Nat}{K:Bk}{dn:Prop}{a b:CZ}(h:DrP l P i K dn a b)(g:i<=j):DrP l P j K dn a b:=⟨h.ta.mono g,h.tb.mono g,h.za,h.zb,h.r1⟩
theorem OO{l:List BP}(I:Ld l){P:Nat}{c:CZ}(h:GG l P c){x:ItM}(hx:x∈c.its)(J:x.base=0):x.res=Ci (Bb (l.take P)) x.q/\GK x.q ((0:Nat):Int) 0 (Ci (Bb (l.take 0)) x.q,((0:Nat):Int)) (NU l 0 P)=some (x.res,x.since)/\x.L=Ff (Bb (l.take 0)) x.q:=by
 obtain ⟨a,e1,e2,g,m,_⟩:=h.at I hx;obtain rfl:a=0:=by omega
 obtain ⟨_,B,_,G⟩:=m (C5 _);exact ⟨B,G,g⟩
theorem DrP.apply{l:List BP}(hB:Ld l){P i:Nat}{K:Bk}{dn:Prop}{a b I J:CZ}(h:DrP l P i K dn a b){r:BP}(af:r.p=(P:Int)+1)(hP:P<63)(LA:GG l (P+1) I){qa:B6}{ca:Nat}{za:List Bk}(X:GH a I r.p r.cs qa ca za)(LB:GG l (P+1) J){qb:B6}{cb:Nat}{zb:List Bk}(g:GH b J r.p r.cs qb cb zb):DrP l (P+1) i K dn I J:=by
 refine ⟨h.ta.apply LA X,h.tb.apply LB g,h.za.apply X,fun h9=>(h.zb h9).apply g,fun x' ax hk=>?_⟩;obtain ⟨_,x,hx,hc,m⟩:=X.i1 x' ax;rw [Ii hc]at hk⊢;obtain ⟨y,hy,e1,e2⟩:=h.r1 x hx hk;have Z:y.q=x.q:=jy (h.tb.law.ok.its.q y hy) (h.ta.law.ok.its.q x hx) e1
 have G:y.res=x.res:=by rw [(OO hB h.tb.law hy e2).1,(OO hB h.ta.law hx (h.za x hx)).1,Z]
 obtain ⟨y',bn,B⟩:=g.i2 y hy (by rw [e2,af];omega) fun O h2=>by
  rw [Z,G];rcases m with⟨U,_⟩|⟨_,U,_⟩
  · exact absurd ⟨by unfold VB at O⊢;rw [Z]at O;exact O,by rw [h.za x hx];rw [e2]at h2;exact h2⟩ U
  · exact U
 exact ⟨y',bn,(Ii B).trans e1,(H7 B).2.2.2.2.1.trans e2⟩
theorem DrP.congr{l:List BP}{P i:Nat}{K:Bk}{dn g:Prop}{a b:CZ}(h:DrP l P i K dn a b)(e:dn↔g):DrP l P i K g a b:=⟨h.ta,h.tb,h.za,fun B=>h.zb fun m=>B (e.1 m),fun x hx G=>h.r1 x hx fun B m=>G B (e.1 m)⟩
theorem DrP.anyK{l:List BP}{P i:Nat}{K:Bk}{a b:CZ}(h:DrP l P i K False a b)(g:Bk):DrP l P i g False a b:=⟨h.ta,h.tb,h.za,h.zb,fun x hx _=>h.r1 x hx fun _ h=>h⟩
theorem DrP.init{l:List BP}{K:Bk}{a b:CZ}(G:GG l 0 a)(I:GG l 0 b)(m:a.its=[])(B:b.its=[])(Z:a.PL=[])(pb:b.PL=[])(U:a.next=0)(X:b.next=0)(sa:a.ns=1)(sb:b.ns=1)(J:a.z.cap=1000)(O:b.z.cap=1000):DrP l 0 0 K False a b:=
 ⟨⟨G,by rw [m];exact C5 _,by rw [U];exact Wg _,(fun e g=>by rw [Z]at g;cases g),J,sa⟩,⟨I,by rw [B];exact C5 _,by rw [X];exact Wg _,(fun e g=>by rw [pb]at g;cases g),O,sb⟩,(fun x hx=>by rw [m]at hx;cases hx),(fun _ x hx=>by rw [B]at hx;cases hx),(fun x hx=>by rw [m]at hx;cases hx)⟩
theorem vP{l:List BP}(hB:Ld l){i:Nat}{K:Bk}{a b:CZ}(h:DrP l l.length i K True a b){x:ItM}(hx:x∈a.its){z:Ri}{l9:List BP}(hz:z.a=⟨x.q,x.res,x.since,a.pos,x.base,x.L,l9⟩)(J:l9.map BP.pc=(DC a.pos x.base a.win).map BP.pc):BZ prog 16 #[.pointer (some ⟨b.cp,0,none⟩),.string x.key] [b.mem] (fun r H'=>∃s,((∃w:Ri,w.ok s/\z.a.res=w.a.res/\(x.key≠K->z.a.eqv w.a)/\r= .tuple #[.agg w.A99,.bool true])\/(x.key=K/\r= .tuple #[.agg #[I4 0,I4 0,I4 0,I4 0,I4 0,I4 0,I4 0,.slice none 0 0,I4 0,.bool false,I4 0,I4 0,I4 0,.slice none 0 0,.slice none 0 0],.bool false]))/\H'=[b.mem,s]):=by
 have g:=h.za x hx;by_cases hy:∃y∈b.its,y.key=x.key
 · obtain ⟨y,hy,I⟩:=hy
   have X:y.q=x.q:=jy (h.tb.law.ok.its.q y hy) (h.ta.law.ok.its.q x hx) I;obtain ⟨a9,e1,e2,_,e4,_⟩:=h.tb.law.at hB hy;have hg:=PU h.tb.law.ok hy (by rw [e1,h.tb.law.pos];omega)
   rw [I]at hg;obtain ⟨g1,g2,g3⟩:=OO hB h.ta.law hx g;refine hg.mono ?_;rintro r H' ⟨w,l8,s,hw,m,bn,rfl,rfl⟩;refine ⟨s,.inl ⟨w,bn,?_,fun B=>?_,V⟩,V⟩
   · rw [hz,hw]
     show x.res=y.res;rw [g1,(e4 e2).2.1,X]
   · obtain ⟨y2,cu,k1,Z⟩:=h.r1 x hx fun h9=>absurd h9 B
     have cO:y2=y:=GL h.tb.law.ok.its.keys cu hy (k1.trans I.symm);subst cO;obtain ⟨f1,U,f3⟩:=OO hB h.tb.law hy Z;rw [X,g2]at U;injection U with U
     injection U with f21 f22
     have af:=K8 h.ta.law.win (C5 _) (by have:=(h.ta.law.ok.all x hx).reach;rw [g,h.ta.law.pos]at this;omega);have ax:=K8 h.tb.law.win (C5 _) (by have:=(h.tb.law.ok.all y2 hy).reach;rw [Z,h.tb.law.pos]at this;omega)
     rw [h.ta.law.pos,g]at J;rw [h.tb.law.pos,Z]at m;have O:l9.map BP.pc=l8.map BP.pc:=J.trans (af.trans (ax.symm.trans m.symm))
     rw [hz,hw];exact ⟨X.symm,f22,(h.ta.law.pos.trans h.tb.law.pos.symm),(g.trans Z.symm),f21,(g3.trans (by rw [f3,X])),O⟩
 · refine Dp (yH h.tb.law.ok (K:=x.key) (fun y G he=>hy ⟨y,G,he⟩)) [] B4 ?_
   rintro r H' ⟨rfl,rfl⟩;refine ⟨_,⟨[],.inr ⟨an fun B=>?_,V⟩,V⟩,by simp⟩;obtain ⟨y,G,he,_⟩:=h.r1 x hx fun h9=>absurd h9 B;exact hy ⟨y,G,he⟩
set_option maxHeartbeats 4000000 in
theorem oP{Mx:List A9}{vx:A3}{xs:List (List Int)}(hX:Wm Mx vx xs){vy:A3}{ys:List Qn}(hY:YK Mx vy ys)(wh aw:Int)(zi:-9223372036854775808<=wh)(zl:wh<=9223372036854775807)(sM:-9223372036854775808<=aw)(sO:aw<=9223372036854775807)(ag:Bool)(Tg:AK)(zg:Nat×Nat)(Tp:AK)(zp:Nat×Nat):BB prog 3 #[vx,vy,I4 wh,I4 aw,.bool ag] [[(2,.cells (Er.map Ct).toArray Tg zg)],[(1,.cells (Lib.pow10Tab.map fun z=>Value.int .u64 z).toArray Tp zp)],Mx] (.bool true):=by
 have hml:=mL;obtain ⟨px,capx,rfl,⟨hxl1,hxl2⟩,hgx⟩:=id hX;have MS:=qV hX (min xs.length 16) (Nat.min_le_left _ _)
 have hxk:(xs.take (min xs.length 16)).length<=16:=by rw [CC];omega
 obtain ⟨py,capy,rfl,⟨hyl1,hyl2⟩,hgy⟩:=id hY;refine Se func3 ntmps3 [0,1,2,3,4] ?_;intro u R;refine A0<|A4 Y<|A0<|Xr [] Y call4 Y V (tG Tg zg Tp zp)<|A4 Y<|A0<|Zm Y<|Zm Y<|Zv (AY eV Y)<|Zv (Mv (n:=16) Y Y)<|BV (Bu eV sizeOf70 Y Y A1)<|Zc [_] Y call5 Y V (xY MS A1) ?_;rintro _ _ ⟨_,⟨l,sl,O,hll,Rl,af,rfl⟩,rfl⟩;have hl16:l.length<=16:=by omega
 have hK:=yA O A1 Rl;have hB:=hK.b
 obtain ⟨pl,cl,rfl,hlc,hgl⟩:=id af;refine A4 Y<|A0<|Ze (Ai (vs:=[_]) (cs:=[_]) DH A6 HG Y V rfl V rfl V)<|AG fun gs=>Zc [_,_,_] Y call6 Y V (oA (sh:=[500]) (Sl gs (I4 500)) 0 1000 AW AW AW AW AW) ?_;rintro _ _ ⟨_,⟨c0,rfl,P6,⟨o8,qx,hw0⟩,Y2,y5,wz,p8,rfl⟩,rfl⟩;have L0:GG l 0 c0:=⟨P6,Y2,C5 _,by rw [hw0];exact OT l 0,fun x cu=>by rw [o8]at cu;cases cu⟩
 refine Zm Y<|Zd Y V<|Zd Y V<|Za Y<|AN Y<|Zn [1,2,3,4,11,12,13,14] ?_;refine Zx<|A0<|Ze (Ai (vs:=[_]) (cs:=[_]) DH A6 HG Y V rfl V rfl V)<|AG fun MC=>Zc [_,_,_] Y call6 Y V (oA (sh:=[500]) (Sl MC (I4 500)) 0 1000 AW AW AW AW AW) ?_;rintro _ _ ⟨_,⟨c1,rfl,P7,⟨o9,qz,pq⟩,hp1,y9,x9,p9,rfl⟩,rfl⟩;have L1:GG l 0 c1:=⟨P7,hp1,C5 _,by rw [pq];exact OT l 0,fun x cu=>by rw [o9]at cu;cases cu⟩
 refine Zm Y<|Zd Y V<|Zd Y V<|Za Y<|A4 Y<|Zq<|A0<|Zm Y<|Zv (Dn (n:=0) Y Y)<|Zm Y<|Aj (t:=48) Y V (fun k1=>?_) (fun k1=>?_);·
  exact absurd V k1
 refine Zf Y Y<|Yg (Dn (n:=0) Y Y)<|Zv (AL Y Y)<|Zm Y<|Aj (t:=52) Y V (fun k2=>?_) (fun k2=>?_);·
  exact absurd V k2
 refine Zf Y Y<|Yg (AY eW Y)<|Yg (CR (n:=0) Y Y)<|Zv (AL Y Y)<|Z0<|Zn [1,2,3,4,11,12,13,14,15,16,56] ?_;refine Zx<|Aq Y (fun hy0=>?_) (fun hy0=>?_);·
  refine A0<|Zm Y<|Zm Y<|Ae (t:=58) Y V (fun k3=>?_) (fun k3=>?_);·
   refine Zf Y Y<|Yg (CR (n:=0) Y Y)<|Zv (AV Y Y)<|Zm Y<|Aj (t:=62) Y V (fun k4=>?_) (fun k4=>?_);·
    refine Zf Y Y<|Yg (CR (n:=0) Y Y)<|Zv (AV Y Y)<|A4 Y<|AJ<|Zt<|AO V results3 Y (by exact ⟨V,V⟩)
   exact absurd V k4
  cases k3
 refine AC<|Zx<|A0<|Zm Y<|Zv (AY eW Y)<|Zv (Mv (n:=10) Y Y)<|A4 Y<|Zq<|Zq ?_;obtain ⟨n9,Ta⟩:∃n,n=min ys.length 10:=⟨_,rfl⟩;rw [<-Ta];refine Zg<|A4 Y<|AQ<|Zb [18,1,2,3,4,11,12,13,15,17] ?_;refine BA (e0:=[(18,_)]) (fun m e H=>∃(i:Nat) (ca cb:CZ),m=n9 -i/\(i<=n9/\DrP l 0 i (str []) False ca cb/\ca.cp=c0.cp/\cb.cp=c1.cp)/\e=[(18,I4 (i:Int))]/\H=[ca.mem,cb.mem]) (by exact ⟨0,c0,c1,V,⟨C5 _,DrP.init L0 L1 o8 o9 qx qz y5 y9 wz x9 p8 p9,V,V⟩,V,V⟩) Wp ?_;rintro _ _ _ ⟨i,ca,cb,rfl,⟨hi,hD,kv,l5⟩,rfl,rfl⟩;refine Zq<|A0<|Zm Y<|Zm Y<|Zv (Au Y Y)<|A5<|Aq Y (fun T9=>?_) (fun T9=>?_);·
  obtain ⟨U,hz5⟩:∃z,ys[i]?=some z:=⟨_,B7 A1⟩;obtain ⟨⟨⟨f1,f2⟩,⟨f3,f4⟩,⟨f5,f6⟩,⟨f7,f8⟩,f9,cO⟩,gy,Hf,qj,Ty,zy,pg,ek,zf,J⟩:=kL hY hz5;rw [pg,<-kv,<-l5];refine AC<|Zx<|Zq<|AQ<|A0<|Zm Y<|Zm Y<|Zm Y<|Zm Y<|BV (Ad eW sizeOf40 Y Y A1)<|CG (Gd Wo (ek)) (AA (cs:=#[_,_,_,_,_]) isAgg40 sizeOf40 Y A1 J) V rfl<|Xr [_] Y call9 Y V (Sy U.a U.b U.c U.d U.e f1 f2 f3 f4 f5 f6 f7 f8 f9 cO)<|Zc [_,_,_,_] Y call8 Y V (Pg af O A1 (0) (C5 _) (U.ok) (hB.scan (0) (C5 _) _) 0 Tg zg) ?_;rintro _ _ ⟨_,⟨E1,pg1,cg1,r9,rfl,rfl⟩,rfl⟩;have gq:1+((18:Nat):Int)<=ca.z.fr:=by have:=hD.ta.room AW;omega
  refine Zc [_,_] Y call7 Y rfl (u7 hB hD.ta.law U.ok (k:=0) (by rw [hD.ta.ns];decide) AW (a:=0) A1 r9 (by have:=hD.ta.next;omega) (by have:=hD.ta.len;omega) (n:=18) (hK.rows _) gq Tp zp) ?_;rintro _ _ ⟨_,⟨b1,da,rfl,LB,FT,nn1,P1,rfl⟩,rfl⟩;rw [<-FT.cp];refine A5<|Zg<|Zm Y<|Zm Y<|Zm Y<|Zm Y<|BV (Ad eW sizeOf40 Y Y A1)<|CG (Gd Wo (ek)) (AA (cs:=#[_,_,_,_,_]) isAgg40 sizeOf40 Y A1 J) V rfl<|Xr [_] Y call9 Y V (Sy U.a U.b U.c U.d U.e f1 f2 f3 f4 f5 f6 f7 f8 f9 cO)<|Zc [_,_,_,_] Y call8 Y V (Pg af O A1 (0) (C5 _) (U.ok) (hB.scan (0) (C5 _) _) 0 Tg zg) ?_;rintro _ _ ⟨_,⟨E2,pg2,cg2,sj,rfl,rfl⟩,rfl⟩;have ic:1+((18:Nat):Int)<=cb.z.fr:=by have:=hD.tb.room AW;omega
  refine Zc [_,_] Y call7 Y rfl (u7 hB hD.tb.law U.ok (k:=0) (by rw [hD.tb.ns];decide) AW (a:=0) A1 sj (by have:=hD.tb.next;omega) (by have:=hD.tb.len;omega) (n:=18) (hK.rows _) ic Tp zp) ?_;rintro _ _ ⟨_,⟨b2,db,rfl,LD,Gl,nn2,P2,rfl⟩,rfl⟩;have ME:=hD.puts AW LB FT nn1.2 P1 LD Gl nn2.2 P2 (D2 0)
  rw [<-Gl.cp];refine Z0<|Zn [1,2,3,4,11,12,13,15,17,18] ?_;refine A8<|Zx<|Zg<|Zm Y<|Ya (n:=1) Y Y<|AN Y<|Zn [18,1,2,3,4,11,12,13,15,17] ?_;refine Ab (e':=[(18,_)]) (by exact ⟨i+1,da,db,rfl,⟨by omega,ME,by first|rfl|assumption,by first|rfl|assumption⟩,rfl,rfl⟩)
 refine Ay<|Zt<|Zt<|AR<|Zx<|A0<|Zm Y<|Zm Y<|Zm Y<|Xr [_,_] Y S6 Y V (I1 wh n9 A1 A1 zi zl) ?_;have hpw:=Dv wh n9 A1
 obtain ⟨w9,hw9⟩:∃w,w=CL wh n9:=⟨_,rfl⟩;rw [<-hw9]at hpw⊢;obtain ⟨z6,hz6⟩:∃z,ys[w9]?=some z:=⟨_,B7 A1⟩;obtain ⟨⟨⟨f1,f2⟩,⟨f3,f4⟩,⟨f5,f6⟩,⟨f7,f8⟩,f9,cO⟩,gy,Hf,qj,Ty,zy,pg,ek,zf,J⟩:=kL hY hz6;rw [pg];refine BV (Ad eW sizeOf40 Y Y A1)<|CG (Gd Wo (ek)) (AA (cs:=#[_,_,_,_,_]) isAgg40 sizeOf40 Y A1 J) V rfl<|Xr [_] Y call9 Y V (Sy z6.a z6.b z6.c z6.d z6.e f1 f2 f3 f4 f5 f6 f7 f8 f9 cO) ?_;obtain ⟨q,yt⟩:∃q,q=Fz z6.a z6.b z6.c z6.d z6.e:=⟨_,rfl⟩;have hq:BF q:=by rw [yt];exact Sz _ _ _ _ _
 rw [<-yt];refine Ze (Al N2 #[_,_,_,_,_,_,_])<|AG fun bq=>Xe (Xw CN q.A98)<|A5<|A0<|Zo Wh (AA (cs:=q.A98) F2 CN Y (by exact D2 _) (BK V))<|Xr [_] Y call11 Y V (Kt q hq Tp zp)<|Zm Y<|Zd Y V<|Zd Y V<|Za Y<|AN Y<|Zn [3,4,11,12,13,15,19,20] ?_;refine Zx<|A0<|Zm Y<|Zm Y<|Zv (AY GO Y)<|Ya (n:=1) Y Y<|Xr [_,_] Y S6 Y V (I1 aw (l.length+1) A1 A1 sM sO) ?_;have hpa:=Dv aw (l.length+1) A1
 refine A4 Y<|Zq<|Zq ?_;obtain ⟨a9,sJ⟩:∃a,a=CL aw (l.length+1):=⟨_,rfl⟩;rw [<-sJ]at hpa;have MJ:DrP l 0 11 (str (CJ q)) False ca cb:=(hD.anyK _).mono A1
 rw [<-sJ];refine Zg<|A4 Y<|AQ<|Zb [22,3,4,11,12,13,15,19,20] ?_;refine BA (e0:=[(22,_)]) (fun m e H=>∃(j:Nat) (G g:CZ),m=l.length+1 -j/\(j<=l.length+1/\DrP l (min j l.length) (if a9<j then 12 else 11) (str (CJ q)) (a9<j) G g/\G.cp=c0.cp/\g.cp=c1.cp)/\e=[(22,I4 (j:Int))]/\H=[G.mem,g.mem]) (by exact ⟨0,ca,cb,rfl,⟨C5 _,by rw [Nat.zero_min,An (cX _)];exact MJ.congr ⟨fun h9=>h9.elim,fun h9=>absurd h9 (cX _)⟩,kv,l5⟩,rfl,rfl⟩) Wp ?_;rintro _ _ _ ⟨j,G,g,rfl,⟨hj,hE,ax,B⟩,rfl,rfl⟩;refine Zq<|A0<|Zm Y<|Zm Y<|Zv (AY GO Y)<|Zv (Vv Y Y)<|A5<|Aq Y (fun vo=>?_) (fun vo=>?_);·
  rw [show min j l.length=j by omega]at hE;rw [<-ax,<-B];refine AC<|Zx<|Zq<|AQ<|Zb [3,4,11,12,13,15,19,20,22] ?_;refine DL (e0:=[]) (H0:=[g.mem]) (fun e H=>∃(b9:CZ),(DrP l j (if a9<j+1 then 12 else 11) (str (CJ q)) (a9<j+1) G b9/\b9.cp=g.cp)/\e=[]/\H=[b9.mem]) Wp ?hx_5 ?hy_5
  case hx_5=>
   refine A0<|Zm Y<|Zm Y<|Zv (CR Y Y)<|A5<|Aq Y (fun Qd=>?_) (fun Qd=>?_);·
    have qw:DrP l j 11 (str (CJ q)) False G g:=by
     rw [An (show¬a9<j by omega)]at hE;exact hE.congr ⟨fun h9=>by omega,fun h9=>h9.elim⟩
    refine A0<|Zm Y<|Zm Y<|Zc [_,_] Y call12 Y V (gT qw.tb.law.ok _) ?_;rintro _ _ ⟨_,⟨bt,b1,rfl,t1,t2,t3,t4,t5,rfl⟩,rfl⟩;rw [<-t2.cp];refine A5<|A0<|Zm Y<|Zm Y<|Zc [_,_] Y call13 Y V (nS t1 _) ?_;rintro _ _ ⟨_,⟨bd,b2,rfl,d1,d2,d3,d4,d5,rfl⟩,rfl⟩;have I:=qw.drop t1 t2 t3 t4 t5 d1 d2 d3 d4 d5
    rw [<-d2.cp];refine A5<|A0<|Zm Y<|A5<|AU Y (fun P5=>?_) (fun P5=>?_);·
     refine Zg<|Zm Y<|Zm Y<|Zm Y<|Zo Wh (AA (cs:=q.A98) F2 CN Y (by exact D2 _) (BK V))<|Zc [_,_,_,_] Y call8 Y V (Pg af O A1 (j) A1 (hq) (hB.scan (j) A1 _) 0 Tg zg) ?_;rintro _ _ ⟨_,⟨E3,pg3,cg3,sw,rfl,rfl⟩,rfl⟩;have j3:1+((18:Nat):Int)<=b2.z.fr:=by have:=I.tb.room AW;omega
     refine Zc [_,_] Y call7 Y rfl (u7 hB I.tb.law hq (k:=0) (by rw [I.tb.ns];decide) AW (a:=j) A1 sw (by have:=I.tb.next;omega) (by have:=I.tb.len;omega) (n:=18) (hK.rows _) j3 Tp zp) ?_;rintro _ _ ⟨_,⟨b3,b3,rfl,MB,Gw,nn3,P3,rfl⟩,rfl⟩;have MK:=I.again AW MB Gw nn3.2 P3
     rw [<-Gw.cp];refine Z0<|Zn [3,4,11,12,13,15,19,20,22] ?_;refine BN (e':=[]) (by exact ⟨b3,⟨by rw [Ax A1];exact MK.congr ⟨fun _=>by omega,fun _=>trivial⟩,by first|rfl|assumption⟩,rfl,rfl⟩)
    refine AC<|Zn [3,4,11,12,13,15,19,20,22] ?_;refine BN (e':=[]) (by exact ⟨b2,⟨by rw [Ax A1];exact (I.mono AW).congr ⟨fun _=>by omega,fun _=>trivial⟩,by first|rfl|assumption⟩,rfl,rfl⟩)
   refine AC<|Zn [3,4,11,12,13,15,19,20,22] ?_;refine BN (e':=[]) (by exact ⟨g,⟨by rw [show(if a9<j+1 then 12 else 11)=(if a9<j then 12 else 11) by split<;>split<;>omega];exact hE.congr A1,rfl⟩,rfl,rfl⟩)
  rintro _ _ ⟨b9,⟨X,ve⟩,rfl,rfl⟩;rw [<-ve];replace B:=ve.trans B;refine A0<|Zm Y<|Zm Y<|Zv (AY GO Y)<|Zv (Au Y Y)<|A5<|Aq Y (fun Qe=>?_) (fun Qe=>?_);·
   obtain ⟨r,hr⟩:∃r,l[j]?=some r:=⟨_,B7 A1⟩;obtain ⟨j5,gm,offm,curm,Tm,zm,hpm,wo,hszm,l8⟩:=rH af hr;rw [hpm];refine A0<|Zm Y<|Zm Y<|Zm Y<|BV (Ad GO F1 Y Y A1)<|CG (Gd Wo (wo)) (AA (cs:=#[_,_]) HP F1 Y A1 l8) V rfl<|Zc [_,_] Y call14 Y V (Xh hB X.ta.law hr j5) ?_;rintro _ _ ⟨_,⟨a6,qa,cpa,gza,tva,sTa,rfl,HZ,ql,hrwa,rfl⟩,rfl⟩;rw [<-ql.cp];refine A5<|Zg<|Zm Y<|Zm Y<|Zm Y<|BV (Ad GO F1 Y Y A1)<|CG (Gd Wo (wo)) (AA (cs:=#[_,_]) HP F1 Y A1 l8) V rfl<|Zc [_,_] Y call14 Y V (Xh hB X.tb.law hr j5) ?_;rintro _ _ ⟨_,⟨b6,qb,cpb,gzb,tvb,sTb,rfl,LA,qo,hrwb,rfl⟩,rfl⟩;have MP:=X.apply hB (by rw [(X.ta.law.next hB hr).2,X.ta.law.pos]) A1 HZ ql LA qo
   rw [<-qo.cp];refine Z0<|Zn [3,4,11,12,13,15,19,20,22] ?_;refine A8<|Zx<|Zg<|Zm Y<|Ya (n:=1) Y Y<|AN Y<|Zn [22,3,4,11,12,13,15,19,20] ?_;refine Ab (e':=[(22,_)]) (by exact ⟨j+1,a6,b6,rfl,⟨by omega,by rw [show min (j+1) l.length=j+1 by omega];exact MP,by first|rfl|assumption,by first|rfl|assumption⟩,rfl,rfl⟩)
  refine AC<|A8<|Zx<|Zg<|Zm Y<|Ya (n:=1) Y Y<|AN Y<|Zn [22,3,4,11,12,13,15,19,20] ?_;refine Ab (e':=[(22,_)]) (by exact ⟨j+1,G,b9,rfl,⟨by omega,by rw [show min (j+1) l.length=j by omega];exact X,by first|rfl|assumption,by first|rfl|assumption⟩,rfl,rfl⟩)
 have Z:DrP l l.length 12 (str (CJ q)) True G g:=by
  rw [show min j l.length=l.length by omega,Ax (show a9<j by omega)]at hE;exact hE.congr ⟨fun _=>trivial,fun _=>by omega⟩
 refine Ay<|Zt<|Zt<|AR<|Zx<|Zq ?_;rw [<-ax,<-B];refine Zg<|Zm Y<|Zc [_] Y call15 Y V (zY Z.ta.law.ok.tookb) ?_;rintro _ _ ⟨_,⟨zs,sk,zu,hzs,pz,rfl⟩,rfl⟩;have hzl:=zu.length_eq
 rw [B8]at hzl;have hz500:=Z.ta.law.ok.its.len
 obtain ⟨pk,ck,rfl⟩:=pz.form;simp only [B8];rw [B8]at pz;refine A4 Y<|Zq<|A0<|A4 Y<|AQ<|Zb [24,11,13,15,20,23] ?_;refine BA (e0:=[(24,_)]) (fun m e H=>∃(i:Nat),m=zs.length -i/\(i<=zs.length)/\e=[(24,I4 (i:Int))]/\H=[]) (by exact ⟨0,V,C5 _,V,V⟩) Wp ?_;rintro _ _ _ ⟨i,rfl,hi9,rfl,rfl⟩;refine Zq<|A0<|Zm Y<|Zm Y<|Zv (AY DA Y)<|Zv (Au Y Y)<|A5<|Aq Y (fun vz=>?_) (fun vz=>?_);·
  obtain ⟨k9,vw⟩:∃k,zs[i]?=some k:=⟨_,B7 A1⟩;obtain ⟨x,hx,rfl⟩:=C3.1 (zu.mem_iff.1 (Dg vw));obtain ⟨gk,capk,q9,zk,hvk,rfl,hsk,Pn⟩:=Yt pz (n:=zs.length) (by rw [B8]) A1;injection hvk with hv1 hv2 hv3
  subst hv1 hv3;have d9:q9[i]?=some (.string x.key):=by rw [Pn i A1,E0,vw];rfl
  have hx0:=Z.za x hx;refine AC<|Zx<|Zq<|AQ<|A0<|Zm Y<|Zm Y<|Zm Y<|BV (BU DA Fo Y Y (by first|omega|decide|exact D2 _|(simp;done)|(simp;omega)))<|Zl HK Y (hv:=by exact d9)<|Zc [_,_] Y call16 Y rfl (PU Z.ta.law.ok hx (by rw [hx0,Z.ta.law.pos];omega)) ?_;rintro _ _ ⟨_,⟨z,l9,s9,hza,hpc,zt,rfl,rfl⟩,rfl⟩;refine Zm Y<|Zd Y V<|Zd Y V<|Ze (Al Ks #[_,_,_,_,_,_,_,_,_,_,_,_,_,_,_])<|AG fun ba=>Xe (Xw Hx z.A99)<|AN Y<|Zn [11,13,15,20,23,24,25,26] ?_;refine Zx<|A0<|Zm Y<|Zm Y<|Zm Y<|BV (BU DA Fo Y Y (by first|omega|decide|exact D2 _|(simp;done)|(simp;omega)))<|Zl HK Y (hv:=by exact d9)<|Zc [_,_] Y call16 Y rfl (vP hB Z hx hza hpc) ?_;rintro _ _ ⟨_,⟨s8,Ps,rfl⟩,rfl⟩;rcases Ps with⟨w,zq,pq,hw2,rfl⟩|⟨hkK,rfl⟩
  ·
   refine Zm Y<|Zd Y V<|Zd Y V<|Ze (Al Ks #[_,_,_,_,_,_,_,_,_,_,_,_,_,_,_])<|AG fun bb=>Xe (Xw Hx w.A99)<|A4 Y<|Zq<|A0<|Zm Y<|Zm Y<|BV (BU DA Fo Y Y (by first|omega|decide|exact D2 _|(simp;done)|(simp;omega)))<|Zl HK Y (hv:=by exact d9)<|Zm Y<|Zv (Mw Y Y)<|Z0<|Zn [11,13,15,20,23,24,25,26,27,28,178] ?_;refine Zx<|Aq Y (fun bn=>?_) (fun bn=>?_);·
    refine Zq<|A0<|Zm Y<|Zm Y<|Ae (t:=180) Y V (fun g1=>?_) (fun g1=>?_);·
     refine Yf 7 HF V rfl B2 Y<|Db Y Wh (AA (cs:=#[_,_,_]) C6 B2 Y B1 (by exact (by apply HX.1;rfl))) V rfl<|Yf 7 HF V rfl B2 Y<|Db Y Wh (AA (cs:=#[_,_,_]) C6 B2 Y B1 (by exact (by apply HX.1;rfl))) V rfl<|Xr [_,_] Y call17 Y V (xX zt.1 zq.1) ?_;rw [DE pq];refine Yg (Br Y)<|Zv (AV Y Y)<|A5<|AU Y (fun g3=>by cases g3)<|fun g3=>AC<|Zx<|Ay<|Zt<|AR<|Zx<|Zg<|Zm Y<|Ya (n:=1) Y Y<|AN Y<|Zn [24,11,13,15,20,23] ?_;refine Ab (e':=[(24,_)]) (by exact ⟨i+1,V,by omega,V,V⟩)
    cases g1
   refine AC<|Zx<|A0<|Zm Y<|Zv (Br Y)<|Zm Y<|Ae (t:=190) Y V (fun e1=>by cases e1)<|fun e1=>Zf Y Y<|Yg (Br Y)<|Zv (AL Y Y)<|Zm Y<|Ae (t:=194) Y V (fun e2=>by cases e2)<|fun e2=>Db Y Wh (AA (cs:=#[_,_,_,_,_,_,_,_,_,_,_,_,_,_,_]) ZD Hx Y (by exact D2 _) (BK V)) V rfl<|Db Y Wh (AA (cs:=#[_,_,_,_,_,_,_,_,_,_,_,_,_,_,_]) ZD Hx Y (by exact D2 _) (BK V)) V rfl<|Xr [_,_] Y call18 Y V (Qg (fA (zt.mono (fun c hc=>E7 s8 hc)) (zq.mono (fun c hc=>GB s9 hc)))) ?_;rw [DE (hw2 bn)];refine Yg (Br Y)<|Zv (AL Y Y)<|A5<|AU Y (fun e3=>by cases e3)<|fun e3=>AC<|A8<|Zx<|Zg<|Zm Y<|Ya (n:=1) Y Y<|AN Y<|Zn [24,11,13,15,20,23] ?_;refine Ab (e':=[(24,_)]) (by exact ⟨i+1,V,by omega,V,V⟩)
  refine Zm Y<|Zd Y V<|Zd Y V<|Ze (Al Ks #[_,_,_,_,_,_,_,_,_,_,_,_,_,_,_])<|AG fun bb=>Xe (Xw Hx #[I4 0,I4 0,I4 0,I4 0,I4 0,I4 0,I4 0,.slice none 0 0,I4 0,.bool false,I4 0,I4 0,I4 0,.slice none 0 0,.slice none 0 0])<|A4 Y<|Zq<|A0<|Zm Y<|Zm Y<|BV (BU DA Fo Y Y (by first|omega|decide|exact D2 _|(simp;done)|(simp;omega)))<|Zl HK Y (hv:=by exact d9)<|Zm Y<|Zv (Mw Y Y)<|Z0<|Zn [11,13,15,20,23,24,25,26,27,28,178] ?_;refine Zx<|Aq Y (fun bn=>?_) (fun bn=>?_);·
   refine Zq<|A0<|Zm Y<|Zm Y<|Ae (t:=180) Y V (fun g2=>by cases g2)<|fun g2=>A7 Y V<|A7 Y V<|A7 Y V<|A7 Y V<|A7 Y V<|A7 Y V<|Zv (AL Y Y)<|A5<|D9 Y<|AC<|Zx<|Ay<|Zt<|AR<|Zx<|Zg<|Zm Y<|Ya (n:=1) Y Y<|AN Y<|Zn [24,11,13,15,20,23] ?_;refine Ab (e':=[(24,_)]) (by exact ⟨i+1,V,by omega,V,V⟩)
  exact absurd hkK bn
 refine Ay<|Zt<|Zt<|AR<|Zx<|A0<|Zm Y<|A4 Y<|AJ<|AO V results3 Y (by exact ⟨V,V⟩)
theorem Xy(p:B6)(cap:Nat)(xs:List (List Int))(M:List A9)(J:Wm M (.slice p xs.length cap) xs)(B:B6)(cap2:Nat)(ys:List Qn)(O:YK M (.slice B ys.length cap2) ys)(w:Int)(Z:-9223372036854775808<=w)(w2:w<=9223372036854775807)(u:Int)(U:-9223372036854775808<=u)(X:u<=9223372036854775807)(b:Bool)(g:AK)(G:Nat×Nat)(m:AK)(I:Nat×Nat):BB prog 3 #[.slice p xs.length cap,.slice B ys.length cap2,I4 w,I4 u,.bool b] [[(2,.cells (Er.map Ct).toArray g G)],[(1,.cells (Lib.pow10Tab.map fun z=>Value.int .u64 z).toArray m I)],M] (.bool true):=oP J O w u Z w2 U X b g G m I
end Go.Proofs.YtfhjaegddfehhabGreatDoor
namespace Go.Proofs.YtfhjaegddfehhabGreatDoor
open Go.Proofs.Tryz
open Go Go.RowKit Gw
set_option maxRecDepth 100000
attribute [local irreducible] Gw.At Gw.Nx Gw.Ops
open Go.ChangeShapes Go.WideShapes Go.ChangeAt
theorem Xj{P:Program}{f:FuncId}{g:Func}{s:ChangeSpec}{c:OpenClaim}(h0:c.wf (OpenSpec.ofChange s)=true)(h1:laidOutB P=true)(h2:mapsRowed P=true)(h3:g.params.all (P.readableRec ·)=true)(h4:namedTie P c.named s.vars=true)(h5:(c.stops== [])=true)(h6:(P.stops== [])=true)(h7:(c.knobs== [])=true)(h8:(P.stopKnobs== [])=true)(h9:(c.inPlace==P.inPlace f)=true)(m:(c.unfollowed==P.unfollowed f)=true)(B:(c.recurses==P.recurses f)=true)(G:(c.named==P.varsNamed f)=true)(I:(c.maps==(g.params.toList++s.plain.varTypes P).any (P.mapsRec ·))=true)(J:(c.ifaces==(g.params.toList++s.plain.varTypes P).any (P.ifacesRec ·))=true)(O:(c.mapsOut==P.mapsAmong g.resultTypes.toList)=true)(U:(c.loops==(g.params.toList++s.plain.varTypes P).any (P.loopsFrom ·))=true)(X:(c.wideKeys==(g.params.toList++s.plain.varTypes P++g.resultTypes.toList).any (P.wideKeysFrom ·))=true)(Z:s.vars.all (P.varReadable ·)=true)(af:g.resultTypes.all (fun t=>P.readableRec t&&decide (t<P.types.size))=true)(ax:(c.ifacesOut==g.resultTypes.toList.any (P.ifacesRec ·))=true)(bn:(c.loopsOut==g.resultTypes.toList.any (P.loopsFrom ·))=true)(cu:(c.plainKeys==P.plainKeys)=true)(cO:c.shortTexts.isNone=true)(d9:P.stopsHeard=true)(ek:P.mayEnter=true)(gm:(c.lifted==P.liftsFinal)=true)(gq:(P.make==some c.make)=true)(gy:(c.kinds==(if c.domain.isEmpty then []else g.params.toList.map fun t=>match P.underlying t with|some (.int k)=>some k|_=>none))=true)(ic:(c.pinned==c.pinnedBy)=true)(j3:(c.veiled==(g.params.toList++s.plain.varTypes P++g.resultTypes.toList).any (P.veiledRec ·))=true)(j5:c.veiledFits P g.params.toList (g.params.toList++s.plain.varTypes P++g.resultTypes.toList)=true):joinedFacts P f g s c=true:=by
 unfold joinedFacts;simp only [Ft];exact ⟨⟨⟨⟨⟨⟨⟨⟨⟨⟨⟨⟨⟨⟨⟨⟨⟨⟨⟨⟨⟨⟨⟨⟨⟨⟨⟨⟨⟨⟨⟨h0,h1⟩,h2⟩,h3⟩,h4⟩,h5⟩,h6⟩,h7⟩,h8⟩,h9⟩,m⟩,B⟩,G⟩,I⟩,J⟩,O⟩,U⟩,X⟩,Z⟩,af⟩,ax⟩,bn⟩,cu⟩,cO⟩,d9⟩,ek⟩,gm⟩,gq⟩,gy⟩,ic⟩,j3⟩,j5⟩
end Go.Proofs.YtfhjaegddfehhabGreatDoor
namespace Go.Proofs.YtfhjaegddfehhabGreatDoor
open Go.Proofs.Tryz
open Go Go.RowKit Gw
set_option maxRecDepth 100000
attribute [local irreducible] Gw.At Gw.Nx Gw.Ops
open Go.ChangeShapes Go.WideShapes Go.Deep
theorem vD{cur:AH}{o:Nat}{a b c d e:Int}(h:∀(j:Nat) (n:Int),[a,b,c,d,e][j]?=some n->cur[o+j]?=some (I4 n)):o+5<=cur.size/\cur.extract o (o+5)=#[I4 a,I4 b,I4 c,I4 d,I4 e]:=by
 have g:=h 4 e rfl;have m:=(HU.1 g).1
 refine ⟨by omega,Array.ext_getElem? fun i=>?_⟩;rw [eA];by_cases hi:i<5
 · rw [Ax A1]
   rcases (by omega:i=0\/i=1\/i=2\/i=3\/i=4)with rfl|rfl|rfl|rfl|rfl
   · exact h 0 a rfl
   · exact h 1 b rfl
   · exact h 2 c rfl
   · exact h 3 d rfl
   · exact h 4 e rfl
 · rw [An A1]
   exact (IF I2).symm
theorem ZW{H:Type}{enc:AK×A3->H}{W:AD}{base:Nat}{held:Bool}{Tg Tp:AK}{zg zp:Nat×Nat}(h4:UW W Tg zg Tp zp){m:Nat}{cs:List A3}{x:DataW H×List MemPlace}(h:DataW.trod enc prog W base (fun _=>true) held m 23 cs=some x):
 ∃v xs,cs=[v]/\YK (Oy W [2,1]) v xs:=by
 obtain ⟨p,len,cap,rfl,hl,O⟩:=Tc eW xj AW h;obtain ⟨xs,h1,h2⟩:=Jm len (fun i (z:Qn)=>z.fits/\∃g o cur T zz,p=some ⟨g,o,none⟩/\(g,Obj.cells cur T zz)∈Oy W [2,1]/\o+i*5+5<=cur.size/\cur.extract (o+i*5) (o+i*5+5)=#[I4 z.a,I4 z.b,I4 z.c,I4 z.d,I4 z.e]) (fun i hi=>by
  obtain ⟨af,n,z,G,ht,g,o,cur,T,zz,hp,X,hc⟩:=O i hi;obtain ⟨a,b,c,d,e,rfl,ha,I,J,hd,he⟩:=mW ht G;have B:∀(j:Nat) (n:Int),[a,b,c,d,e][j]?=some n->cur[o+i*5+j]?=some (I4 n):=fun j n Z=>by
   have U:=(C4.1 Z).1;rw [hc j (by simpa using U)];have h9:([a,b,c,d,e].map (Value.int .i64))[j]?=some (I4 n):=by rw [E0,Z];rfl
   exact h9
  obtain ⟨e1,e2⟩:=vD B;exact ⟨⟨a,b,c,d,e⟩,⟨ha,I,J,hd,he⟩,g,o,cur,T,zz,hp,PP X (ah h4 X (B 0 a V) V),e1,e2⟩)
 subst h1;exact ⟨_,xs,V,p,cap,V,hl,h2⟩
end Go.Proofs.YtfhjaegddfehhabGreatDoor
