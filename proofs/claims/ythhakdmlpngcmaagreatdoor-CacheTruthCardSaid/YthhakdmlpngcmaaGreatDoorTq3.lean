/- Lists of strings; rows of five integers. -/
import Derived.Test.YthhakdmlpngcmaaGreatDoorLd2
import Derived.ProofKit
import Derived.OpenShut
import Derived.Stop.LaidErr
import Derived.Test.YthhakdmlpngcmaaGreatDoorRows
set_option linter.unusedVariables false
set_option linter.unusedSimpArgs false
namespace Go.Proofs.YthhakdmlpngcmaaGreatDoor
open Go.Proofs.Tryz
open Go Go.RowKit Gw
set_option maxRecDepth 100000
attribute [local irreducible] Gw.At Gw.Nx Gw.Ops
def aO(n:Int):Prop:=-9223372036854775808<=n/\n<=9223372036854775807
end Go.Proofs.YthhakdmlpngcmaaGreatDoor
namespace Go.Proofs.YthhakdmlpngcmaaGreatDoor
open Go.Proofs.Tryz
open Go Go.RowKit Gw
set_option maxRecDepth 100000
attribute [local irreducible] Gw.At Gw.Nx Gw.Ops
open Go.ChangeShapes Go.WideShapes Go.Deep
theorem rK(g:Addr):g.add 0=g:=by simp [Addr.add]
theorem wO{w:AD}{a:Addr}{v:A4}(h:w.cell? a=some v):a=⟨a.block,a.off,none⟩:=by
 cases a with|mk b o s=>
 cases s with
 |none=>rfl
 |some s=>
  simp only [World.cell?]at h;split at h<;>simp at h
theorem WT{w:AD}{g i:Nat}{v:A4}(h:w.cell? ⟨g,i,none⟩=some v):∃cur T z,w.heap[g]?=some (.cells cur T z)/\cur[i]?=some v:=by
 unfold World.cell? at h;simp only at h;split at h
 · rename_i c T z hc
   exact ⟨c,T,z,hc,by simpa using h⟩
 · cases h
section
variable{H:Type}{enc:AK×A4->H}{P:Program}{w:AD}{base:Nat}{held:Bool}
end
def Wv(w:AD):List A9:=(List.range w.heap.size).filterMap fun b=>(w.heap[b]?).map fun o=>(b,o)
theorem Vs{w:AD}{b:Nat}{o:Obj}:(b,o)∈Wv w↔w.heap[b]?=some o:=by
 unfold Wv;rw [cA];constructor
 · rintro ⟨a,_,m⟩
   obtain ⟨o',g,h2⟩:=ln.1 m;injection h2 with e1 e2
   subst e1 e2;exact g
 · intro h
   refine ⟨b,?_,by rw [h];rfl⟩;rw [Kx];rcases FA b w.heap.size with g|g
   · exact g
   · simp [Iv g]at h
theorem dH(w:AD):((Wv w).map (·.1)).Nodup:=by
 have:∀l:List Nat,((l.filterMap fun b=>(w.heap[b]?).map fun o=>(b,o)).map (·.1)).Sublist l:=by
  intro l;induction l with
  |nil=>simp
  |cons a l ih=>
   rw [mA];cases h:w.heap[a]?with
   |none=>simp only [Option.map_none];exact ih.cons a
   |some o=>simp only [O2,Dg];exact ih.cons_cons a
 exact du (this _) k5
def Ol(w:AD)(ks:List Nat):List A9:=(Wv w).filter fun c=>!ks.contains c.1
theorem P9{w:AD}{g:List Nat}{b:Nat}{o:Obj}(h:w.heap[b]?=some o)(m:b∉g):(b,o)∈Ol w g:=by
 unfold Ol;rw [FG];exact ⟨Vs.2 h,by simp [m]⟩
theorem nS{P:Program}{f:FuncId}{args:AM}{v:A4}{w:AD}(L:List A9)(U:∀c∈L,w.heap[c.1]?=some c.2)(hn:(L.map (·.1)).Nodup){H:Hp}(B:H.flatten=L++Ol w (L.map (·.1)))(h:BJ P f args H v):
 Calls P f args w fun e O=>e= .returned v/\Below w.heap.size w O:=by
 have K:Sat w (H++[]) w:=by
  refine ⟨V,V,V,?_,?_⟩
  · rw [DA,B,C0,Ge]
    refine ⟨hn,?_,?_⟩;· exact du (S0.map _) (dH w)
    · intro a ha b hb e
      subst e;obtain ⟨c,hc,rfl⟩:=C6.1 hb;unfold Ol at hc;have:=(FG.1 hc).2
      simp only [T5,List.contains_eq_mem,Mu]at this;exact this ha
  · intro p I
    rw [DA,B,C2]at I;rcases I with I|I
    · exact U p I
    · exact Vs.1 (FG.1 I).1
 refine Calls.mono (h w [] w K) fun e O he=>?_;rcases he with⟨v',H',rfl,⟨rfl,rfl⟩,m⟩|⟨_,_,_,hf,_⟩
 · refine ⟨rfl,m.os,m.tape,m.output,?_,?_⟩
   · rcases PF w.heap.size with h0|h0
     · omega
     · have X:w.heap.size -1<w.heap.size:=by omega
       have J:w.heap[w.heap.size -1]?=some w.heap[w.heap.size -1]:=HQ X;have:O.heap[w.heap.size -1]?=some w.heap[w.heap.size -1]:=by
        by_cases G:(w.heap.size -1)∈L.map (·.1)
        · obtain ⟨c,hc,G⟩:=C6.1 G
          have g:=m.get c (by rw [DA,B];exact Ek _ hc);have h2:=U c hc
          rw [G]at g h2;rw [g,<-h2,J]
        · exact m.get (_,_) (by rw [DA,B];exact GB _ (P9 J G))
       rcases FA (w.heap.size -1) O.heap.size with g|g
       · omega
       · rw [Iv g]at this;cases this
   · intro k G
     have J:w.heap[k]?=some w.heap[k]:=HQ G;by_cases Z:k∈L.map (·.1)
     · obtain ⟨c,hc,rfl⟩:=C6.1 Z
       have g:=m.get c (by rw [DA,B];exact Ek _ hc);rw [g,U c hc]
     · rw [J]
       exact m.get (_,_) (by rw [DA,B];exact GB _ (P9 J Z))
 · exact hf.elim
theorem YF{P:Program}{w:AD}{n:String}{g:Nat}{cs:AM}(m:P.globalNamed n=some g)(h:w.var? P n=some cs):∃T z,w.heap[g]?=some (.cells cs T z):=by
 unfold World.var? at h;rw [m,KB]at h;split at h
 · rename_i c T z hc
   injection h with e
   subst e;exact ⟨T,z,hc⟩
 · cases h
theorem uz:Tryz.prog.globalNamed "cachetier/digest.round"=some 4:=by kernel_rfl
theorem sn:(Tryz.prog.globals[4]?).map (·.type)=some 419:=by kernel_rfl
theorem c32:Tryz.prog.cellsOf 295=1:=by kernel_rfl
theorem z6:Tryz.prog.cellsOf 419=64:=by kernel_rfl
theorem qk:Tryz.prog.globalNamed "internal/strconv.uint64pow10"=some 1:=by kernel_rfl
theorem y6:(Tryz.prog.globals[1]?).map (·.type)=some 339:=by kernel_rfl
theorem c64:Tryz.prog.cellsOf 297=1:=by kernel_rfl
theorem zI:Tryz.prog.cellsOf 339=20:=by kernel_rfl
def rP:List Int:=Ez.map fun x=>(x.toNat:Int)
theorem dz:(Rows.laid_cachetier_digest_round:DataW Unit)=Lib.tabData .u32 rP:=by kernel_rfl
theorem Yd:(rP.map fun z=>Value.int .u32 z).toArray=(Ez.map Cw).toArray:=by kernel_rfl
theorem sS:(Rows.laid_internal_strconv_uint64pow10:DataW Unit)=Lib.tabData .u64 Lib.pow10Tab:=by kernel_rfl
def UM(W:AD)(Tg:AK)(zg:Nat×Nat)(Tp:AK)(zp:Nat×Nat):Prop:=W.heap[4]?=some (.cells (Ez.map Cw).toArray Tg zg)/\W.heap[1]?=some (.cells (Lib.pow10Tab.map fun z=>Value.int .u64 z).toArray Tp zp)
theorem tu{a b:String×DataW Unit}{r:List (String×DataW Unit)}{W:AD}(h:laidMet prog (a::b::("internal/strconv.uint64pow10",Rows.laid_internal_strconv_uint64pow10)::("cachetier/digest.round",Rows.laid_cachetier_digest_round)::r) W):
 ∃Tg zg Tp zp,UM W Tg zg Tp zp:=by
 have h1:=h.tail.tail;have h3:=h1.tail
 rw [sS]at h1;rw [dz]at h3;have h2:=Lib.tabIs_of_head qk y6 underlying339 Xs c64 zI h1
 have h5:=Lib.tabIs_of_head uz sn W0 TO c32 z6 h3;unfold Lib.TabIs at h2 h5;rw [Yd]at h5;obtain ⟨Tg,zg,hb⟩:=YF uz h5;obtain ⟨Tp,zp,hc⟩:=YF qk h2;exact ⟨Tg,zg,Tp,zp,hb,hc⟩
def uf:A4->Bool
 | .string _=>true
 | .slice _ _ _=>true
 | .bool _=>true
 | .int .i64 _=>true
 |_=>false
theorem aV{W:AD}{J K:AK}{O U:Nat×Nat}(G:UM W J O K U)
 {g i:Nat}{cur:AM}{T:AK}{z:Nat×Nat}(B:W.heap[g]?=some (.cells cur T z)){y:A4}(hc:cur[i]?=some y)(I:uf y=true):g∉ [4,1]:=by
 intro m;simp only [DB,Pr,P0]at m;rcases m with m|m
 · subst m
   rw [G.1]at B;injection B with e
   injection e with e1 _ _
   subst e1;rw [dt,DQ]at hc;obtain ⟨u,_,rfl⟩:=ln.1 hc;simp [Cw,uf]at I
 · subst m
   rw [G.2]at B;injection B with e
   injection e with e1 _ _
   subst e1;rw [dt,DQ]at hc;obtain ⟨u,_,rfl⟩:=ln.1 hc;simp [uf]at I
theorem yI{f:FuncId}{args:AM}{v:A4}{W:AD}{g m:AK}{B G:Nat×Nat}(I:UM W g B m G)
 (h:BJ prog f args [[(4,.cells (Ez.map Cw).toArray g B)],[(1,.cells (Lib.pow10Tab.map fun z=>Value.int .u64 z).toArray m G)],Ol W [4,1]] v):
 Calls prog f args W fun e J=>e= .returned v/\Below W.heap.size W J:=
 nS [(4,.cells (Ez.map Cw).toArray g B),(1,.cells (Lib.pow10Tab.map fun z=>Value.int .u64 z).toArray m G)] (by
  intro c hc;simp only [DB,Pr,P0]at hc;rcases hc with rfl|rfl
  · exact I.1
  · exact I.2) B4 B4 h
theorem Jg{α:Type}:∀(n:Nat) (p:Nat->α->Prop),(∀i,i<n->∃o,p i o)->∃os:List α,os.length=n/\∀i o,os[i]?=some o->p i o
 |0,_,_=>⟨[],rfl,fun i o h=>by cases h⟩
 |n+1,p,h=>by
  obtain ⟨os,g,h2⟩:=Jg n p (fun i hi=>h i (by omega));obtain ⟨o,m⟩:=h n (by omega);refine ⟨os++[o],by simp [g],fun i o' hi=>?_⟩;rw [oT]at hi;split at hi;· exact h2 i o' hi
  · rename_i hlt
    have:i=n:=by
     have:=(C4.1 hi).1;simp at this;omega
    subst this;rw [g,T7]at hi;simp only [bm,Wk]at hi;subst hi;exact m
section
variable{H:Type}{enc:AK×A4->H}{P:Program}{W:AD}{base:Nat}{held:Bool}
theorem TQ{t e:AK}{s I:Nat}{cs:List A4}{x:DataW H×List MemPlace}(ht:P.underlying t=some (.slice e))(hc:P.cellsOf e=s)(hs:0<s)(h:DataW.trod enc P W base (fun _=>true) held I t cs=some x):
 ∃p len cap,cs=[.slice p len cap]/\(len<=maxLen/\len<=cap)/\∀i,i<len->∃B n z,B.length=s/\DataW.trod enc P W base (fun _=>true) held n e B=some z/\
  ∃g o cur T zz,p=some ⟨g,o,none⟩/\W.heap[g]?=some (.cells cur T zz)/\∀j,j<s->cur[o+i*s+j]?=B[j]?:=by
 rcases open_slice ht h with⟨rfl,_⟩|⟨a,len,cap,m,n,D,Pl,rfl,_,hl,hm,hmm,_,hel⟩
 · exact ⟨none,0,0,rfl,⟨C7 _,CT _⟩,fun i hi=>by omega⟩
 · simp only [Hh]at hmm
   subst hmm;refine ⟨some a,len,m,V,⟨by omega,hl⟩,fun i hi=>?_⟩;have G:a=⟨a.block,a.off,none⟩:=by
    obtain ⟨cs0,Z,_⟩:=hel 0 A0;rw [hc]at Z;obtain ⟨_,af,gg⟩:=World.cells?_some Z;have g9:=gg 0 hs
    rw [BT (l:=cs0) (i:=0) A0,fx,rK,rK]at g9;exact wO g9
   obtain ⟨B,h1,h2⟩:=hel i A0;rw [hc]at h1;obtain ⟨_,K,hg⟩:=World.cells?_some h1;refine ⟨B,n,_,K,h2,?_⟩;have h9:=hg 0 hs
   rw [BT (l:=B) (i:=0) A0,G,Ca,Ca]at h9;obtain ⟨cur,T,zz,hb,_⟩:=WT h9;refine ⟨a.block,a.off,cur,T,zz,by rw [<-G],hb,fun j hj=>?_⟩;have O:=hg j hj
   rw [BT (l:=B) (i:=j) A0]at O⊢;rw [G,Ca,Ca]at O;obtain ⟨X,T2,ax,J,U⟩:=WT O;rw [hb]at J;injection J with e
   injection e with e1 _ _
   rw [e1];exact U
end
theorem rI:Tryz.prog.cellsOf 3=1:=by kernel_rfl
theorem zE:Tryz.prog.cellsOf 78=6:=by kernel_rfl
theorem ZJ{H:Type}{enc:AK×A4->H}{W:AD}{base:Nat}{held:Bool}{Tg Tp:AK}{zg zp:Nat×Nat}(h4:UM W Tg zg Tp zp){I:Nat}{cs:List A4}{x:DataW H×List MemPlace}(h:DataW.trod enc prog W base (fun _=>true) held I 22 cs=some x):
 ∃v xs,cs=[v]/\Wd (Ol W [4,1]) v xs:=by
 obtain ⟨p,len,cap,rfl,hl,X⟩:=TQ eN zE B0 h;obtain ⟨xs,h1,h2⟩:=Jg len (fun i (z:List Int)=>z.length=6/\(∀n∈z,-9223372036854775808<=n/\n<=9223372036854775807)/\∃g o cur T zz,p=some ⟨g,o,none⟩/\(g,Obj.cells cur T zz)∈Ol W [4,1]/\∀(j:Nat) (n:Int),z[j]?=some n->cur[o+i*6+j]?=some (I0 n)) (fun i hi=>by
  obtain ⟨B,n,z,cu,ht,g,o,cur,T,zz,hp,hb,hc⟩:=X i hi;obtain ⟨ys,m,_,_,_,d9,hf⟩:=DataW.trod_array underlying78 ht;obtain ⟨ns,bn,U⟩:=Jg 6 (fun j (n:Int)=>(-9223372036854775808<=n/\n<=9223372036854775807)/\B[j]?=some (I0 n)) (fun j G=>by
   have f:=hf j G;rw [rI,N0,BT A0]at f;have K:j<B.length:=by omega
   have e:(B.drop j).take 1=[B[j]]:=by rw [RW K];rfl
   rw [e]at f;obtain ⟨k,Z,_,af⟩:=DataW.trod_int DE f;injection Z with Z _
   exact ⟨k,bounds_i64 af,by rw [BT K,Z]⟩)
  have J:∀(j:Nat) (n:Int),ns[j]?=some n->cur[o+i*6+j]?=some (I0 n):=fun j n G=>by
   have cO:=(C4.1 G).1;rw [hc j A0];exact (U j n G).2
  obtain ⟨n0,ax⟩:∃n,ns[0]?=some n:=⟨_,BT A0⟩;exact ⟨ns,bn,fun n O=>by
   obtain ⟨j,G⟩:=HB O;exact (U j n G).1,g,o,cur,T,zz,hp,P9 hb (aV h4 hb (J 0 n0 ax) V),J⟩)
 subst h1;exact ⟨_,xs,V,p,cap,V,hl,h2⟩
open Go.ChangeShapes Go.WideShapes Go.Deep
theorem nN{l:List A4}(h:l.length=5):∃a b c d e,l=[a,b,c,d,e]:=by
 match l,h with
 |[a,b,c,d,e],_=>exact ⟨a,b,c,d,e,rfl⟩
theorem mg{H:Type}{enc:AK×A4->H}{W:AD}{base:Nat}{held:Bool}{B:Nat}{l:List A4}{x:DataW H×List MemPlace}(h:DataW.trod enc prog W base (fun _=>true) held B 36 l=some x)(hl:l.length=5):
 ∃a b c d e:Int,l=[I0 a,I0 b,I0 c,I0 d,I0 e]/\(-9223372036854775808<=a/\a<=9223372036854775807)/\(-9223372036854775808<=b/\b<=9223372036854775807)/\(-9223372036854775808<=c/\c<=9223372036854775807)/\(-9223372036854775808<=d/\d<=9223372036854775807)/\(-9223372036854775808<=e/\e<=9223372036854775807):=by
 obtain ⟨ys,m,_,_,_,af,hf⟩:=DataW.trod_array MY h;have g:∀j,j<5->∃n:Int,l[j]?=some (I0 n)/\-9223372036854775808<=n/\n<=9223372036854775807:=fun j g=>by
  have f:=hf j g;rw [rI,N0,BT A0]at f;have G:j<l.length:=by omega
  have e:(l.drop j).take 1=[l[j]]:=by rw [RW G];rfl
  rw [e]at f;obtain ⟨k,X,_,Z⟩:=DataW.trod_int DE f;injection X with X _
  exact ⟨k,by rw [BT G,X],bounds_i64 Z⟩
 obtain ⟨v0,v1,v2,v3,v4,rfl⟩:=nN hl;obtain ⟨a,ha,I⟩:=g 0 B0;obtain ⟨b,hb,J⟩:=g 1 B0;obtain ⟨c,hc,K⟩:=g 2 B0;obtain ⟨d,hd,O⟩:=g 3 B0;obtain ⟨e,he,U⟩:=g 4 B0;simp at ha hb hc hd he;subst ha hb hc hd he;exact ⟨a,b,c,d,e,V,I,J,K,O,U⟩
end Go.Proofs.YthhakdmlpngcmaaGreatDoor
namespace Go.Proofs.YthhakdmlpngcmaaGreatDoor
open Go.Proofs.Tryz
open Go Go.RowKit Gw
set_option maxRecDepth 100000
attribute [local irreducible] Gw.At Gw.Nx Gw.Ops
def NN(c:Chg):Prop:=(1<=c.k/\c.k<=9)/\(0<=c.t/\c.t<=2)
theorem pI(rs:List AU)(n m:Nat):NN (Qy rs n m):=by
 have g:=fz n (show 0<3 by decide);have h2:=fz (n/3) (show 0<9 by decide)
 refine ⟨⟨?_,?_⟩,?_,?_⟩;· show(1:Int)<=((1+n/3%9:Nat):Int);omega
 · show((1+n/3%9:Nat):Int)<=9;omega
 · show(0:Int)<=((n%3:Nat):Int);omega
 · show((n%3:Nat):Int)<=2;omega
theorem UG(rs:List AU)(z:List Int):∀k,∀c∈GR rs z k,NN c
 |0,c,hc=>by simp [GR]at hc
 |k+1,c,hc=>by
  have g:=UG rs z k;unfold GR VK at hc;split at hc;· exact g c hc
  · rw [C2,C2,C5]at hc
    rcases hc with(hc|rfl)|hc
    · exact g c (P2 hc)
    · exact pI _ _ _
    · exact g c (Kf hc)
theorem Vw:∀(xs:List (List Int)) (L:List (List Chg)),(∀cs∈L,∀c∈cs,NN c)->∀cs∈xs.foldl Ms L,∀c∈cs,NN c
 |[],_,h=>h
 |z::xs,L,h=>by
  rw [V1];refine Vw xs _ fun cs g=>?_;unfold Ms at g;split at g
  · rcases C2.1 g with h1|h1
    · exact h cs h1
    · rw [C5.1 h1];exact UG _ _ 3
  · exact h cs g
theorem uM(xs:List (List Int)):∀cs∈TY xs,∀c∈cs,NN c:=Vw xs [] fun cs h=>by simp at h
def Qg(r:AU):Prop:=1<=r.k/\r.k<=9
theorem sI{rs:List AU}{c:Chg}(h:∀r∈rs,Qg r)(hc:NN c):∀r∈EL rs c,Qg r:=fun r g=>by
 unfold EL at g;rw [C2,C2]at g;rcases g with(g|g)|g
 · exact h r (P2 g)
 · obtain ⟨_,rfl⟩:=M3.1 g;exact hc.1
 · exact h r (Kf (Kf g))
theorem Sn:∀(cs:List Chg) (rs:List AU),(∀r∈rs,Qg r)->(∀c∈cs,NN c)->∀r∈DL rs cs,Qg r
 |[],_,h,_=>h
 |c::cs,rs,h,hc=>Sn cs (EL rs c) (sI h (hc c (E3 ..))) fun d g=>hc d (E7 _ g)
theorem VS:∀(l:List BR) (rs:List AU),(∀r∈rs,Qg r)->(∀x∈l,∀c∈x.cs,NN c)->∀r∈l.foldl (fun rs r=>DL rs r.cs) rs,Qg r
 |[],_,h,_=>h
 |x::l,rs,h,hc=>VS l _ (Sn x.cs rs h (hc x (E3 ..))) fun y g=>hc y (E7 _ g)
theorem rD{l:List BR}(h:∀x∈l,∀c∈x.cs,NN c):∀r∈BQ l,Qg r:=VS l [] (fun r g=>by simp at g) h
theorem kR:∀(l:List Int) (a b:Int),l.Pairwise (·<·)->(∀x∈l,a<=x/\x<=b)->(l.length:Int)<=max (b -a+1) 0
 |[],_,_,_,_=>by simp;omega
 |x::l,a,b,hp,h=>by
  obtain ⟨m,h2⟩:=PJ.1 hp;have G:=h x (E3 ..)
  have B:=kR l (x+1) b h2 fun y g=>⟨by have:=m y g;omega,(h y (E7 _ g)).2⟩;rw [E4];omega
theorem xM{rs:List AU}(K:BN rs)(I:∀r∈rs,Qg r)(t:Int):(rs.filter fun r=>decide (r.t=t)).length<=9:=by
 have m:((rs.filter fun r=>decide (r.t=t)).map (·.k)).Pairwise (·<·):=by
  rw [V0];refine List.Pairwise.imp_of_mem ?_ (List.Pairwise.filter _ K);intro a b B G g;have U:=HN (FG.1 B).2
  have tb:=HN (FG.1 G).2;rcases g with h|⟨_,h⟩
  · omega
  · exact h
 have h2:=kR _ 1 9 m fun x O=>by
  obtain ⟨r,J,rfl⟩:=C6.1 O;exact I r (FG.1 J).1
 rw [B6]at h2;omega
theorem WK{α:Type}{f g:α->Bool}(h:∀x,f x=true->g x=true):∀l:List α,(l.filter f).length<=(l.filter g).length
 |[]=>CT _
 |x::l=>by
  have m:=WK h l;rw [Wr,Wr];split
  · rename_i h1
    rw [As (h x h1),E4,E4];omega
  · split
    · rw [E4];omega
    · exact m
structure nn(l:List BR):Prop where
 b:MX l
 nine:∀a,a<=l.length->∀q,(CU (BQ (l.take a)) q).length<=9
theorem yC{l:List BR}(G:En l)(m:l.length<=20){xs:List (List Int)}(J:l.map BR.cs=TY xs):nn l:=by
 refine ⟨G.toB m,fun a K q=>?_⟩;have g:∀x∈l.take a,∀c∈x.cs,NN c:=fun x O c hc=>uM xs x.cs (by rw [<-J];exact Dd (P2 O)) c hc
 have I:=xM (G.rows a K).1 (rD g) q.tb;have h2:=(ES (BQ (l.take a)) q.tb q.cl.toNat q.lo q.hi).length_eq
 unfold CU;rw [h2];refine R0 ?_ I;refine WK (fun r B=>?_) _;unfold inR at B;simp only [G4,Fm]at B⊢;exact B.1
theorem nn.rows{l:List BR}(h:nn l)(q:QM):∀b,b<=l.length->(CK (BQ (l.take b)) q).rows.length<=18:=fun b g=>by
 have m:=og (BQ (l.take b)) q;have h2:=h.nine b g q
 omega
structure Stp where
 cl:Int
 a:Int
 b:Int
 c:Int
 d:Int
 e:Int
 n:Int
 t:Int
def Stp.fits(z:Stp):Prop:=(aO z.cl/\aO z.n/\aO z.t)/\aO z.a/\aO z.b/\aO z.c/\aO z.d/\aO z.e
def Stp.q(z:Stp):QM:=GZ z.a z.b z.c z.d z.e
theorem Stp.ok(z:Stp):BI z.q:=eO _ _ _ _ _
def kU(M:List A9)(v:A4)(ys:List Stp):Prop:=∃p cap,v= .slice p ys.length cap/\(ys.length<=maxLen/\ys.length<=cap)/\∀(i:Nat) (z:Stp),ys[i]?=some z->z.fits/\∃g off cur T zz,p=some ⟨g,off,none⟩/\(g,Obj.cells cur T zz)∈M/\off+i*8+8<=cur.size/\cur.extract (off+i*8) (off+i*8+8)=#[I0 z.cl,I0 z.a,I0 z.b,I0 z.c,I0 z.d,I0 z.e,I0 z.n,I0 z.t]
theorem sy{M:List A9}{p:B8}{cap:Nat}{ys:List Stp}(h:kU M (.slice p ys.length cap) ys){i:Nat}{z:Stp}(hz:ys[i]?=some z):z.fits/\∃g off cur T zz,p=some ⟨g,off,none⟩/\(g,Obj.cells cur T zz)∈M/\off+i*8+8<=cur.size/\cur.extract (off+i*8) (off+i*8+8)=#[I0 z.cl,I0 z.a,I0 z.b,I0 z.c,I0 z.d,I0 z.e,I0 z.n,I0 z.t]:=by
 obtain ⟨G,m,e,_,B⟩:=h;injection e with e1 e2 e3
 subst e1;exact B i z hz
theorem rJ{e:AK}(g:Nat)(u v w:A4):Row e (I2 g 3 3) [u,v,w] [(g,.cells #[u,v,w] e (0,0))]:= .inr ⟨g,3,#[u,v,w],(0,0),rfl,rfl,CT 3,by decide,rfl,rfl,BC _⟩
theorem zN.yes{l:List BR}{P:Nat}{c d:CZ}{q:QM}{tn:Int}{a n:Nat}{b:Bool}(m:zN l P c d q tn a n b)(h:P<=a):b=true:=by
 rcases m with⟨_,_,g⟩|⟨g,_⟩
 · exact absurd (Q0 h) g
 · exact g
theorem XG(x y:C9):decide (x=y)=(decide (x.rows=y.rows)&&decide (x.val=y.val)&&decide (x.fnd=y.fnd)):=by
 obtain ⟨a,b,c⟩:=x;obtain ⟨B,G,c'⟩:=y;rw [pD];simp only [G4,C9.mk.injEq,Fm];exact ⟨fun⟨g,h2,m⟩=>⟨⟨g,h2⟩,m⟩,fun⟨⟨g,h2⟩,m⟩=>⟨g,h2,m⟩⟩
theorem xc{M:List A9}{va vb:A4}{a b:List AU}(ha:Di M va a)(hb:Di M vb b):BJ prog 62 #[va,vb] [M] (.bool (decide (a=b))):=by
 have j5:=mL;obtain ⟨pa,ca,rfl,ic,Z⟩:=ha;obtain ⟨pb,cb,rfl,j3,af⟩:=hb;refine Se func62 ntmps62 [0,1] ?_;intro u R;refine A1<|A5 Y<|Zq<|A1<|Zm Y<|Zv (Ab C1 Y)<|Zm Y<|Zv (Ab C1 Y)<|Zv (EU Y Y)<|A6<|Av Y (fun O=>?_) (fun O=>?_);·
  refine A1<|A5 Y<|AJ<|Zt<|AP rfl results62 Y (by exact ⟨bD (fun e=>O (by rw [e])),rfl⟩)
 have ax:a.length=b.length:=by omega
 refine AC<|Zx<|Zq<|A1<|A5 Y<|AR<|Zb [5,0,1] ?_;refine BF (e0:=[(5,_)]) (fun m e H=>∃(i:Nat),m=a.length -i/\(i<=a.length/\∀j,j<i->a[j]?=b[j]?)/\e=[(5,I0 (i:Int))]/\H=[]) (by exact ⟨0,V,⟨C7 _,by intro j hj;omega⟩,V,V⟩) Wp ?_;rintro _ _ _ ⟨i,rfl,⟨hi,g⟩,rfl,rfl⟩;refine Zq<|A1<|Zm Y<|Zm Y<|Zv (Ab C1 Y)<|Zv (Ay Y Y)<|A6<|Av Y (fun bn=>?_) (fun bn=>?_);·
  obtain ⟨x,B⟩:∃x,a[i]?=some x:=⟨_,BT A0⟩;obtain ⟨y,hy⟩:∃y,b[i]?=some y:=⟨_,BT A0⟩;obtain ⟨g1,gq,G,T1,d9,rfl,cu,ek,J⟩:=Z i x B;obtain ⟨g2,gy,I,T2,dn,rfl,cO,gm,K⟩:=af i y hy;refine AC<|Zx<|Zq<|AR<|Zq<|Aw (n:=9) (0::0::3::7::0::0::48::112::255::[]) 0 AF AF V<|A3 0 V (AO Y)<|A3 1 V (AO Y)<|A3 2 V (Ad C1 B3 Y Y A0)<|CV (b:=g1) (x:= .cells G T1 d9) (D':=15) 3 V rfl V (by simp [cu]) (AB (cs:=x.A94) Cp B3 Y A0 J) ?_;refine A3 4 V (AO Y)<|A3 5 V (AO Y)<|A3 6 V (Ad C1 B3 Y Y A0)<|CV (b:=g2) (x:= .cells I T2 dn) (D':=255) 7 V rfl V (by simp [cO]) (AB (cs:=y.A94) Cp B3 Y A0 K) ?_;refine A3 8 V (mR AF Fo AF B0 B0 B0 DE I3 AH AE HM E0 Y Y)<|Ag<|Zn [0,1,5,25] ?_;refine Zx<|Av Y (fun U=>?_) (fun U=>?_);·
   refine A1<|A5 Y<|AJ<|Ac<|Zt<|Zt<|Ac<|Zt<|AP rfl results62 Y (by exact ⟨bD (fun e=>by rw [e,hy]at B;injection B with B;exact U (rO.2 B.symm)),rfl⟩)
  have X:x=y:=rO.1 (Hs.1 U);refine AC<|A8<|Zx<|Zg<|Zm Y<|Ya (n:=1) Y Y<|AW Y<|Zn [5,0,1] ?_;refine Aa (e':=[(5,_)]) (by exact ⟨i+1,rfl,⟨by omega,fun j hj=>by rcases FA j i with h9|h9;exact g j h9;obtain rfl:j=i:=A0;rw [B,hy];exact congrArg some X⟩,rfl,rfl⟩)
 refine Az<|Zt<|Zt<|AV<|Zx<|A1<|A5 Y<|AJ<|AP V results62 Y (by exact ⟨vN (yD ax (fun j hj=>g j A0)),V⟩)
theorem xY{A B:List A9}{G I:A4}{x y:C9}(g:Di A G x.rows)(m:Di B I y.rows):BJ prog 21 #[.agg #[G,I0 x.val,.bool x.fnd],.agg #[I,I0 y.val,.bool y.fnd]] [A,B] (.bool (decide (x=y))):=by
 obtain ⟨U,J,rfl,_⟩:=id g;obtain ⟨X,K,rfl,_⟩:=id m;refine Se func21 ntmps21 [0,1] ?_;intro u R;refine A1<|Ze (Bx #[.slice U x.rows.length J,I0 x.val,.bool x.fnd])<|AG fun Z=>Ze (Bx #[.slice X y.rows.length K,I0 y.val,.bool y.fnd])<|AG fun b2=>A5 Y<|A1<|Zh 0 DS V rfl D3 Y<|Zl GF Y<|Zh 0 DS V rfl D3 Y<|Zl GF Y<|Xr [_,_] Y call62 Y V (WR (xc (g.mono (fun c hc=>Ek B hc)) (m.mono (fun c hc=>GB A hc))))<|Zm Y<|Ao (t:=10) Y V (fun O=>?_) (fun O=>?_);·
  refine Yf 1 DS V rfl AE Y<|Yl AH Y<|Yf 1 DS V rfl AE Y<|Yl AH Y<|Yg (CO Y Y)<|Zv (AX Y Y)<|Zm Y<|Ao (t:=17) Y V (fun h2=>?_) (fun h2=>?_);·
   refine Yf 2 DS V rfl DM Y<|Yl Fc Y<|Yf 2 DS V rfl DM Y<|Yl Fc Y<|Yg (fQ Mn Y Y)<|Zv (AX Y Y)<|AW Y<|Zn [4] ?_;refine Zx<|AJ<|AP rfl results21 Y (by exact ⟨by rw [XG];simp [*],rfl⟩)
  refine A7 Y V<|A7 Y V<|A7 Y V<|A7 Y V<|A7 Y V<|Zv (AL Y Y)<|AW Y<|Zn [4] ?_;refine Zx<|AJ<|AP rfl results21 Y (by exact ⟨by rw [XG];simp [*],rfl⟩)
 refine A7 Y V<|A7 Y V<|A7 Y V<|A7 Y V<|A7 Y V<|Zv (AL Y Y)<|Zm Y<|A7 Y V<|A7 Y V<|A7 Y V<|A7 Y V<|A7 Y V<|Zv (AL Y Y)<|AW Y<|Zn [4] ?_;refine Zx<|AJ<|AP rfl results21 Y (by exact ⟨by rw [XG];simp [*],rfl⟩)
theorem Rt:∀{L:List Bh} {t:Int},(∀x∈L,x.te≠t)->Du L t=0
 |[],_,_=>rfl
 |x::l,t,h=>by
  rw [G9,An (h x (E3 ..)),Rt fun y g=>h y (E7 _ g)];rfl
theorem qQ{L:List Bh}{t sz:Int}(Z:0<=t/\t<3)(hs:sz<=19)(X:∀e∈L,(0<=e.te/\e.te<3)/\e.sz<=19)(hf:500 -FI L<sz):II [50,50,50] L t sz≠none:=fun hn=>by
 have U:=cC.1 hn;have m:∀u:Int,0<=u/\u<3->shT [50,50,50] u=50:=fun u hu=>by rcases (by omega:u=0\/u=1\/u=2)with rfl|rfl|rfl<;>rfl
 have h3:=VG fun e he=>(X e he).1;by_cases g:shT [50,50,50] t -sz<Du L t
 · have h2:=Rt (L:=L) (t:=t) fun x J e=>U x J (by unfold MF;rw [As g];exact D2 e)
   rw [m t Z,h2]at g;omega
 · have K:∀u:Int,0<=u/\u<3->u≠t->Du L u<=69:=fun u hu O=>Int.not_lt.1 fun G=>by
    have I:¬∀x∈L,x.te≠u:=fun B=>by rw [Rt B]at G;omega
    refine I fun x J e=>U x J ?_;have B:=(X x J).2
    unfold MF;rw [An g,Fm,G4,G4,e,m u hu];exact ⟨O,by omega⟩
   rw [m t Z]at g;have G:=K 0 B0
   have I:=K 1 B0;have B:=K 2 B0
   rcases (by omega:t=0\/t=1\/t=2)with rfl|rfl|rfl
   · have:=I B0;have:=B B0;omega
   · have:=G B0;have:=B B0;omega
   · have:=G B0;have:=I B0;omega
theorem sY{c:CZ}(h:c.ok)(K:Bm){k:Nat}(G:k<c.ns):0<=tnE c K (k:Int)/\tnE c K (k:Int)<(c.ns:Int):=by
 by_cases g:∃x∈c.its,x.key=K
 · obtain ⟨x,g,m⟩:=g
   rw [X3 h.its.keys g m];exact ⟨(h.all x g).tn.1,h.tns x g⟩
 · rw [X4 fun y B e=>g ⟨y,B,e⟩];omega
structure QZ(l:List BR)(P i:Nat)(c:CZ):Prop where
 law:IE l P c
 len:c.its.length<=i
 next:c.next<=(i:Int)
 sz:∀e∈c.PL,e.sz<=19
 cap:c.z.cap=500
 ns:c.ns=3
 sh:UO c [50,50,50]
theorem QZ.more{l:List BR}{P i:Nat}{c:CZ}(h:QZ l P i c):QZ l P (i+1) c:=⟨h.law,Nat.le_succ_of_le h.len,by have:=h.next;push_cast;omega,h.sz,h.cap,h.ns,h.sh⟩
theorem QZ.apply{l:List BR}{P i:Nat}{c d:CZ}(h:QZ l P i c)(m:IE l (P+1) d){p:Int}{cs:List Chg}{q2:B8}{cap2:Nat}{zs:List Bm}(g:H9 c d p cs q2 cap2 zs):QZ l (P+1) (i+1) d:=by
 have J:d.its.length=d.PL.length/\c.its.length=c.PL.length:=by
  have e:∀{c:CZ},c.okb->c.its.length=c.PL.length:=fun{c} h=>by
   have h2:(c.PL.map (·.key)).Perm (c.its.map ItM.key):=(N6 h.pool.keys h.its.keys).2 h.pk;have B:=h2.length_eq
   rw [B6,B6]at B;exact B.symm
  exact ⟨e m.ok.tookb,e h.law.ok.tookb⟩
 have h2:(d.PL.map (·.key)).length<=(c.PL.map (·.key)).length:=P8 m.ok.pool.keys fun k I=>by
  obtain ⟨e,G,rfl⟩:=C6.1 I;exact Dd (g.PL e G)
 rw [B6,B6]at h2;have B:=h.len
 refine ⟨m,by omega,by rw [g.next];have:=h.next;push_cast;omega,fun e G=>h.sz e (g.PL e G),g.zcap.trans h.cap,g.ns.trans h.ns,h.sh.of g.ns g.sc g.M⟩
theorem qR{l:List BR}{P i:Nat}{c d:CZ}(hB:MX l)(h:QZ l P i c){q:QM}(hq:BI q)(hr:∀b,b<=l.length->(CK (BQ (l.take b)) q).rows.length<=18){k:Nat}(hk:k<3){a:Nat}(ha:a<=l.length)(hd:d.ok)(G:c.like d)(af:d.next<=c.next+1)(U:UO d [50,50,50]){b:Bool}(Z:nm c d q (k:Int) (a:Int) (F3 (BQ (l.take a)) q) (BA q (CK (BQ (l.take a)) q) (a:Int) (Ct c.pos (a:Int) c.win)) [50,50,50] b):
 QZ l P (i+1) d/\(b=false->(a:Int)<(P:Int)):=by
 have hl:=h.len;have hx:=h.next
 have K:=h.law.putE hd G ha Z;rcases Z with⟨rfl,rfl,h1⟩|⟨hre,⟨rfl,rfl,_⟩|⟨hold,J⟩⟩
 · exact ⟨h.more,fun _=>Int.not_le.1 fun g=>h1 ((Mf h.law).2 (Q0 A0))⟩
 · exact ⟨h.more,fun g=>by cases g⟩
 · have I:=sY h.law.ok (str (Bn q)) (k:=k) (by rw [h.ns];exact hk)
   rw [h.ns]at I;have ax:=Yp hB h.law hq ha hr hre.1
   rcases J with⟨rfl,J,_⟩|⟨rfl,_,⟨y,J,h5,h6,h7,_⟩,b9,h10⟩
   · exfalso
     rw [h.cap]at J;refine UA (P:=fun L=>∀e∈L,(0<=e.te/\e.te<3)/\e.sz<=19) (fun A x B O e m=>O e (by rcases C2.1 m with g|g<;>simp [g])) (fun L O hf=>qQ ⟨I.1,I.2⟩ A0 O hf) A0 _ _ rfl (du (p6 _ S0) h.law.ok.pool.keys) (fun e m=>?_) J;have g:=(FG.1 m).1
     have X:=h.law.ok.pool.te e g;rw [h.ns]at X;exact ⟨X,h.sz e g⟩
   · refine ⟨⟨K,?_,by push_cast;omega,fun e m=>?_,G.cap.trans h.cap,G.ns.trans h.ns,U⟩,fun g=>by cases g⟩
     · rw [J,BW,F2]
       have:=ZK (KP [50,50,50] c.z.cap c.PL (str (Bn q)) (tnE c (str (Bn q)) (k:Int)) (1+((BA q (CK (BQ (l.take a)) q) (a:Int) (Ct c.pos (a:Int) c.win)).1.rows.length:Int))) c.its;omega
     · rw [h10]at m
       rcases C2.1 m with m|m
       · exact h.sz e (FG.1 (QR _ _ e m)).1
       · rw [C5.1 m];show 1+_<=(19:Int);omega
theorem yA{l:List BR}{P i:Nat}{c:CZ}(g:MX l)(h:QZ l P i c)(hi:i<=30){q:QM}(O:BI q)(hr:∀b,b<=l.length->(CK (BQ (l.take b)) q).rows.length<=18){k:Nat}(hk:k<3){a:Nat}(B:a<=l.length){pg:B8}{Z:Nat}{G:List A9}(hL:G6 G (.slice pg (F3 (BQ (l.take a)) q).length Z) (F3 (BQ (l.take a)) q))(I:AK)(X:Nat×Nat):
 BS prog 13 #[.pointer (some ⟨c.cp,0,none⟩),.agg #[I0 q.kd,I0 q.tb,I0 q.cl,I0 q.lo,I0 q.hi,I0 q.bq,I0 q.ot,I0 (k:Int),I0 (a:Int),.slice pg (F3 (BQ (l.take a)) q).length Z]] [c.mem,G,[(1,.cells (Lib.pow10Tab.map fun z=>Value.int .u64 z).toArray I X)]] (fun w H'=>∃(b:Bool) (d:CZ),w= .bool b/\QZ l P (i+1) d/\d.cp=c.cp/\(b=false->(a:Int)<(P:Int))/\H'=[d.mem,G,[(1,.cells (Lib.pow10Tab.map fun z=>Value.int .u64 z).toArray I X)]]):=by
 have J:=g.len;refine (jw h.law.ok O (by rw [h.ns];exact hk) A0 (a:Int) ⟨by omega,by omega⟩ hL (by have:=g.make_len B q;omega) (g.fits B q) (g.start B O) (by have:=h.next;omega) (by have:=h.len;omega) h.sh I X).mono ?_;rintro w H' ⟨b,d,rfl,hd,m,K,U,hP,rfl⟩;obtain ⟨h1,h2⟩:=qR g h O hr hk B hd m K.2 U hP;exact ⟨b,d,V,h1,m.cp,h2,V⟩
theorem yK{c:CZ}(h:c.ok){x:ItM}(m:x∈c.its):BS prog 18 #[.pointer (some ⟨c.cp,0,none⟩),.string x.key] [c.mem] (fun w H'=>∃s,((x.base<=c.pos/\∃(z:V5) (l:List BR),z.a=⟨x.q,x.res,x.since,c.pos,x.base,x.L,l⟩/\z.ok s/\w= .tuple #[.agg z.A96,.bool true])\/(¬x.base<=c.pos/\w= .tuple #[.agg #[I0 0,I0 0,I0 0,I0 0,I0 0,I0 0,I0 0,.slice none 0 0,I0 0,.bool false,I0 0,I0 0,I0 0,.slice none 0 0,.slice none 0 0],.bool false]))/\H'=[c.mem,s]):=by
 by_cases g:x.base<=c.pos
 · refine (Rb h m g).mono ?_
   rintro w H' ⟨z,l,s,B,_,G,rfl,rfl⟩;exact ⟨s,.inl ⟨g,z,l,B,G,V⟩,V⟩
 · refine EJ (Vz h m A0) [] B4 ?_
   rintro w H' ⟨rfl,rfl⟩;exact ⟨_,⟨[],.inr ⟨g,V⟩,V⟩,by simp⟩
theorem sX{l:List BR}(m:En l){q:QM}(K:BI q){a P:Nat}(I:P<=l.length)(ha:a<=P){s:Int}(O:jC q l a (P -a) s){p:Nat}(X:s<=(p:Int))(h2:p<=P):CK (BQ (l.take p)) q=CK (BQ (l.take P)) q:=by
 refine (bC m K p P h2 I fun i r Z h4 B x U=>?_).symm;have g:=O.no i r A0 A0 B
 rw [kz fun c hc=>by obtain ⟨j,J⟩:=HB hc;exact (m i r B).1.ok.all j c J]at g;exact Bool.eq_false_iff.2 fun G=>by rw [eA.2 ⟨x,U,G⟩]at g;cases g
set_option maxHeartbeats 4000000 in
theorem xJ{Mx:List A9}{vx:A4}{xs:List (List Int)}(hX:Wd Mx vx xs){vy:A4}{ys:List Stp}(hY:kU Mx vy ys)(Tg:AK)(zg:Nat×Nat)(Tp:AK)(zp:Nat×Nat):BJ prog 4 #[vx,vy] [[(4,.cells (Ez.map Cw).toArray Tg zg)],[(1,.cells (Lib.pow10Tab.map fun z=>Value.int .u64 z).toArray Tp zp)],Mx] (.bool true):=by
 have hml:=mL;obtain ⟨px,ME,rfl,⟨P7,Pn⟩,hgx⟩:=id hX;have ve:=qf hX (min xs.length 16) (Nat.min_le_left _ _)
 have hxk:(xs.take (min xs.length 16)).length<=16:=by rw [CD];omega
 obtain ⟨py,MJ,rfl,⟨Ps,Qd⟩,hgy⟩:=id hY;refine Se func4 ntmps4 [0,1] ?_;intro u R;refine A1<|A5 Y<|A1<|Xr [] Y call5 Y V (tE Tg zg Tp zp)<|A5 Y<|A1<|Zm Y<|Zm Y<|Zv (Ab eN Y)<|Zv (QD (n:=16) Y Y)<|BZ (Bt eN sizeOf78 Y Y A0)<|Zc [_] Y call6 Y V (xZ ve A0) ?_;rintro _ _ ⟨_,⟨l,sl,I,hll,wz,U,rfl⟩,rfl⟩;have MS:l.length<=16:=by omega
 have hK:=yC I A0 wz;have hB:=hK.b
 obtain ⟨pl,cl,rfl,hlc,Y2⟩:=id U;refine A5 Y<|A1<|Ze (Ai (vs:=[_,_,_]) (cs:=[_,_,_]) DG AE HI Y V rfl V rfl V)<|AG fun gs=>Zc [_,_,_] Y call8 Y V (zh (sh:=[50,50,50]) (rJ gs (I0 50) (I0 50) (I0 50)) 0 500 B0 B0 B0 B0 B0) ?_;rintro _ _ ⟨_,⟨c0,rfl,vo,⟨Z,ic,Gl⟩,za,p8,af,bn,pq,rfl⟩,rfl⟩;have L0:IE l 0 c0:=⟨vo,za,C7 _,by rw [Gl];exact Rq l 0,fun x q9=>by rw [Z]at q9;cases q9⟩
 refine Zm Y<|Zd Y V<|Zd Y V<|Za Y<|AW Y<|Zn [1,5,6,7,8] ?_;refine Zx<|Zq<|A1<|Zm Y<|Zv (EU (n:=0) Y Y)<|A6<|Av Y (fun k1=>?_) (fun k1=>?_);·
  exact absurd V k1
 refine AC<|Zx<|Zb [1,5,6,7] ?_;refine Ch (e0:=[(1,_)]) (H0:=[c0.mem]) (fun e H=>∃(i P:Nat) (c:CZ),(QZ l P i c/\c.cp=c0.cp)/\e=[]/\H=[c.mem]) Wp ?hx_1 ?hy_1
 case hx_1=>
  refine A1<|A5 Y<|AR<|Zb [9,1,5,6,7] ?_;refine BF (e0:=[(9,_)]) (fun m e H=>∃(i P:Nat) (c:CZ),m=ys.length -i/\((i<=ys.length/\i<=30)/\QZ l P i c/\c.cp=c0.cp)/\e=[(9,I0 (i:Int))]/\H=[c.mem]) (by exact ⟨0,0,c0,rfl,⟨⟨C7 _,C7 _⟩,⟨L0,by rw [Z];exact C7 _,by rw [p8];exact X2 _,(fun e he=>by rw [ic]at he;cases he),bn,af,pq,af.symm,by simp⟩,rfl⟩,rfl,rfl⟩) Wp ?_;rintro _ _ _ ⟨i,P,c,rfl,⟨⟨hi,l8⟩,B,G⟩,rfl,rfl⟩;refine Zq<|A1<|Zm Y<|Zm Y<|Zv (Ab lP Y)<|Zv (Ay Y Y)<|Zm Y<|Ao (t:=42) Y V (fun h1=>?_) (fun h1=>?_);·
   refine Zf Y Y<|Yg (Ay (n:=30) Y Y)<|Zv (AX Y Y)<|A6<|Av Y (fun h2=>?_) (fun h2=>?_);·
    obtain ⟨g,Gw⟩:∃z,ys[i]?=some z:=⟨_,BT A0⟩;obtain ⟨⟨⟨⟨qw,qx⟩,⟨ek,gq⟩,qz,r9⟩,⟨f1,f2⟩,⟨f3,f4⟩,⟨f5,f6⟩,⟨f7,f8⟩,f9,qo⟩,gy,T9,MP,Ty,zy,zt,yt,P6,l5⟩:=sy hY Gw;rw [zt,<-G];refine AC<|Zx<|Zq<|AR<|A1<|Zm Y<|Zm Y<|BZ (Ad lP sizeOf38 Y Y A0)<|CS (IZ Wo (yt)) (AB (cs:=#[_,_,_,_,_,_,_,_]) isAgg38 sizeOf38 Y A0 l5) V rfl<|Ze (Al zeroValue38 #[_,_,_,_,_,_,_,_])<|AG fun bs=>Xe (Xw sizeOf38 #[I0 g.cl,I0 g.a,I0 g.b,I0 g.c,I0 g.d,I0 g.e,I0 g.n,I0 g.t])<|Z0<|Zn [1,5,6,7,9,10] ?_;refine Zx<|A1<|Zh 0 eW V rfl AE Y<|Zl AH Y<|Xr [_,_] Y N4 Y V (Gb g.cl 9 B0 B0 qw qx)<|Zv (Ay (n:=4) Y Y)<|A6<|Av Y (fun vz=>?_) (fun vz=>?_);·
     refine Zb [10,1,5,6,7,9] ?_;refine Ch (e0:=[(10,_)]) (H0:=[c.mem]) (fun e H=>∃(t:Bool) (d:CZ),(t=false/\QZ l P (i+1) d/\d.cp=c.cp)/\e=[(83,.bool t)]/\H=[d.mem]) Wp ?hx_3 ?hy_3
     case hx_3=>
      have hpn:=Dw g.n (l.length+1) A0;have zl:=Dw g.t 3 B0
      refine Aw (n:=28) (0::0::0::4::0::16::48::124::0::256::1020::0::2048::8188::16382::32767::65535::131071::262143::524287::262143::1310719::3407871::8388607::262143::33554431::67108863::134217727::[]) 42001536 AF AF V<|A3 0 V (AO Y)<|A3 1 V (AO Y)<|A3 2 V (AA (off:=6) eW V rfl AE Y)<|BE 3 V AH Y<|A3 4 V (AO Y)<|A3 5 V (Ab HA Y)<|A3 6 V (Df (n:=1) Y Y A0)<|A3 8 V (AA (off:=1) eW V rfl sizeOf36 Y)<|FF 9 V Wh (AB (cs:=#[_,_,_,_,_]) isAgg36 sizeOf36 Y B5 (by exact (by apply HX.1;rfl)))<|A3 11 V (AA (off:=7) eW V rfl AE Y)<|BE 12 V AH Y<|Yz 7 124 7167 [12,9,3] [true,true,false] [(12,(_,_)),(9,(_,_))] V Y V rfl V rfl (Zu [_,_] Y N4 Y V (Gb g.n (l.length+1) A0 A0 ek gq))<|D0<|Bk<|Yz 10 1020 8191 [12,9] [true,false] [(12,(_,_))] V Y V rfl V rfl (Zu [_] Y call9 Y V (ry g.a g.b g.c g.d g.e f1 f2 f3 f4 f5 f6 f7 f8 f9 qo))<|D0<|Bk<|Yw 13 16383 V (Zu [_,_] Y N4 Y V (Gb g.t 3 B0 B0 qz r9))<|D0<|Zz (l:=[14])<|B7 [] [] V rfl (Zw [_,_,_,_] Y call14 Y V (Xm U I A0 (CF g.n (l.length+1)) A0 g.ok (hB.scan _ A0 _) (CF g.t 3:Int) Tg zg)) ?_ Bp Ah;rintro _ _ ⟨_,⟨E1,pg1,Ta,j3,rfl,rfl⟩,rfl⟩;refine Bk<|Zz (l:=[15])<|B7 [] [] V rfl (Zw [_,_] Y call13 Y V (yA hB B l8 g.ok (hK.rows _) zl (a:=CF g.n (l.length+1)) A0 j3 Tp zp)) ?_ Bp Ah;rintro _ _ ⟨_,⟨b,d,rfl,K,J,qa,rfl⟩,rfl⟩;refine ⟨AY,?_⟩;have hpd:=K.law.pos
      rw [<-J];refine A3 16 V (Br Y)<|A3 17 V (AO Y)<|Ce (t:=73) Y (fun n1=>?_) (fun n1=>?_);·
       rw [n1];have hy9:=qa (by simpa using n1)
       refine B1 18 V (AA (off:=6) eW V rfl AE Y)<|DP 19 V Wh (BD AH Y Ax)<|B1 20 V (AO Y)<|B1 21 V (Ab HA Y)<|B1 22 V (Df (n:=1) Y Y A0)<|B1 24 V (AO Y)<|Yw 23 33554431 V (Zu [_,_] Y N4 Y V (Gb g.n (l.length+1) A0 A0 ek gq))<|D0<|Yw 25 67108863 V (Zu [_] Y call15 Y V (gL d))<|D0<|B1 26 V (GV Y Y)<|A3 27 V (AX Y Y)<|Ag<|Zn [83,1,5,6,7,9] ?_;refine BB (e':=[(83,_)]) (by exact ⟨_,d,⟨by(simp;omega),K,by first|rfl|exact J⟩,rfl,rfl⟩)
      rw [n1];refine AN 18 V<|AN 19 V<|AN 20 V<|AN 21 V<|AN 22 V<|AN 23 V<|AN 24 V<|AN 25 V<|AN 26 V<|A3 27 V (AL Y Y)<|Ag<|Zn [83,1,5,6,7,9] ?_;refine BB (e':=[(83,_)]) (by exact ⟨_,d,⟨by rfl,K,by first|rfl|exact J⟩,rfl,rfl⟩)
     rintro _ _ ⟨_,d,⟨rfl,K,J⟩,rfl,rfl⟩;rw [<-J];refine DI Y<|AC<|A8<|Zx<|Zg<|Zm Y<|Ya (n:=1) Y Y<|AW Y<|Zn [9,1,5,6,7] ?_;refine Aa (e':=[(9,_)]) (by exact ⟨i+1,P,d,rfl,⟨⟨by omega,by omega⟩,K,by first|rfl|exact J.trans G|exact J⟩,rfl,rfl⟩)
    refine A1<|Zm Y<|Xr [_] Y call15 Y V (gL c) ?_;rw [B.law.pos];refine Zm Y<|Zv (Ab HA Y)<|Zv (Ay Y Y)<|A6<|Av Y (fun y5=>?_) (fun y5=>?_);·
     obtain ⟨r,hr⟩:∃r,l[P]?=some r:=⟨_,BT A0⟩;obtain ⟨j5,gm,Rl,MK,Tm,zm,zi,y9,P5,kv⟩:=rX U hr;rw [zi];refine A1<|Zm Y<|Zm Y<|Zm Y<|Xr [_] Y call15 Y V (gL c) ?_;rw [B.law.pos];refine BZ (Ad HA G3 Y Y A0)<|CS (IZ Wo (y9)) (AB (cs:=#[_,_]) IH G3 Y A0 kv) V rfl<|Zc [_,_] Y call16 Y V (gK hB B.law hr j5) ?_;rintro _ _ ⟨_,⟨d,q2,cap2,Tc,tv,sT,rfl,LD,hA,hrw,rfl⟩,rfl⟩;rw [<-hA.cp];refine Zm Y<|Zd Y V<|Zd Y V<|Za Y<|AW Y<|Zn [1,5,6,7,9,12] ?_;refine Zx<|A1<|Zm Y<|Zv (EU (n:=0) Y Y)<|A6<|Av Y (fun k3=>?_) (fun k3=>?_);·
      exact absurd V k3
     refine AC<|A8<|Zx<|Zg<|Zm Y<|Ya (n:=1) Y Y<|AW Y<|Zn [9,1,5,6,7] ?_;refine Aa (e':=[(9,_)]) (by exact ⟨i+1,P+1,d,rfl,⟨⟨by omega,by omega⟩,B.apply LD hA,by first|rfl|exact hA.cp.trans G|exact hA.cp⟩,rfl,rfl⟩)
    refine AC<|A8<|Zx<|Zg<|Zm Y<|Ya (n:=1) Y Y<|AW Y<|Zn [9,1,5,6,7] ?_;refine Aa (e':=[(9,_)]) (by exact ⟨i+1,P,c,rfl,⟨⟨by omega,by omega⟩,B.more,by first|rfl|exact G⟩,rfl,rfl⟩)
   refine Az<|Zt<|Zt<|AV<|Zn [5,6,7] ?_;refine BB (e':=[]) (by exact ⟨i,P,c,⟨B,G⟩,V,V⟩)
  refine A7 Y V<|A7 Y V<|Zv (AL Y Y)<|A6<|DI Y<|Az<|Zt<|Zt<|AV<|Zn [5,6,7] ?_;refine BB (e':=[]) (by exact ⟨i,P,c,⟨B,G⟩,V,V⟩)
 rintro _ _ ⟨i,P,c,⟨B,G⟩,rfl,rfl⟩;refine Zq ?_;rw [<-G];have sJ:=B.law.le
 refine Zg<|Zm Y<|Zc [_] Y call17 Y V (zn B.law.ok.tookb) ?_;rintro _ _ ⟨_,⟨zs,sk,qb,hzs,d9,rfl⟩,rfl⟩;have HZ:=qb.length_eq
 rw [B6]at HZ;have Hf:=B.law.ok.its.len
 obtain ⟨pk,ck,rfl⟩:=d9.form;simp only [B6];rw [B6]at d9;refine A5 Y<|Zq<|A1<|A5 Y<|AR<|Zb [14,5,6,7,13] ?_;refine BF (e0:=[(14,_)]) (fun m e H=>∃(i:Nat),m=zs.length -i/\(i<=zs.length)/\e=[(14,I0 (i:Int))]/\H=[]) (by exact ⟨0,V,C7 _,V,V⟩) Wp ?_;rintro _ _ _ ⟨i,rfl,hi9,rfl,rfl⟩;refine Zq<|A1<|Zm Y<|Zm Y<|Zv (Ab DH Y)<|Zv (Ay Y Y)<|A6<|Av Y (fun o9=>?_) (fun o9=>?_);·
  obtain ⟨k9,o8⟩:∃k,zs[i]?=some k:=⟨_,BT A0⟩;obtain ⟨x,hx,rfl⟩:=C6.1 (qb.mem_iff.1 (DO o8));obtain ⟨gk,MC,dn,zk,FT,rfl,hsk,vw⟩:=jX d9 (n:=zs.length) (by rw [B6]) A0;injection FT with hv1 hv2 hv3
  subst hv1 hv3;have cu:dn[i]?=some (.string x.key):=by rw [vw i A0,DQ,o8];rfl
  have zf:=B.law.pos;refine AC<|Zx<|Zq<|AR<|A1<|Zm Y<|Zm Y<|Zm Y<|BZ (BU DH Fk Y Y (by first|omega|decide|exact CT _|(simp;done)|(simp;omega)))<|Zl HO Y (hv:=by exact cu)<|Zc [_,_] Y call18 Y rfl (yK B.law.ok hx) ?_;rintro _ _ ⟨_,⟨s9,wo,rfl⟩,rfl⟩;rcases wo with⟨cO,z,l9,X,KS,rfl⟩|⟨cO,rfl⟩
  ·
   obtain ⟨a9,e1,e2,_,e4,_⟩:=B.law.at hB hx;obtain ⟨_,e5,e6,_⟩:=e4 A0;have e7:=e6.le
   have Qe:z.a.since=x.since:=by rw [X]
   have ql:z.a.until_=c.pos:=by rw [X]
   have qj:z.a.q=x.q:=by rw [X]
   have MB:z.a.res=x.res:=by rw [X]
   have pg:=B.law.ok.its.q x hx;obtain ⟨s0,zu⟩:∃s0:Nat,z.a.since=(s0:Int):=⟨z.a.since.toNat,by omega⟩;refine Zm Y<|Zd Y V<|Zd Y V<|Ze (Al Ly #[_,_,_,_,_,_,_,_,_,_,_,_,_,_,_])<|AG fun ba=>Xe (Xw LL z.A96)<|AW Y<|Zn [5,6,7,13,14,15,16] ?_;refine Zx<|A1<|Zm Y<|Zm Y<|Zm Y<|BZ (BU DH Fk Y Y (by first|omega|decide|exact CT _|(simp;done)|(simp;omega)))<|Zl HO Y (hv:=by exact cu)<|Zc [_,_] Y call11 Y rfl (W9 B.law.ok hx) ?_;rintro _ _ ⟨_,⟨pz,cz,sz,rfl,sM,rfl⟩,rfl⟩;refine Zm Y<|Zd Y V<|Zd Y V<|Ze (Al cX #[_,_,_,_,_,_,_,_,_,_])<|AG fun bz=>Xe (Xw HL #[I0 x.q.kd,I0 x.q.tb,I0 x.q.cl,I0 x.q.lo,I0 x.q.hi,I0 x.q.bq,I0 x.q.ot,I0 x.tn,I0 x.base,.slice pz x.L.length cz])<|A5 Y<|Zq<|Zq<|Aw (n:=11) (0::1::3::7::7::23::7::71::247::511::1023::[]) 128 AF AF V<|A3 0 V (AO Y)<|A3 1 V (Br Y)<|A3 2 V (AO Y)<|Ce (t:=129) Y (fun O=>?_) (fun O=>?_);·
    rw [O];cases O
   rw [O];refine B1 3 V (AO Y)<|B1 4 V (AA (off:=8) G1 V rfl AE Y)<|DP 5 V Wh (BD AH Y Ax)<|B1 6 V (AO Y)<|Yz 7 71 255 [5] [true] [(5,(_,_))] V Y V rfl V rfl (Zu [_] Y call15 Y V (gL c))<|D0<|Bk<|B1 8 V (KJ Y Y)<|B1 9 V (I4 Mn Y Y)<|A3 10 V (AL Y Y)<|Ag<|Zn [5,6,7,13,14,15,16,17,137] ?_;refine Zx<|AQ Y (fun a2=>?_) (fun a2=>?_);·
    simp [cO]at a2
   refine AC<|Zx<|Zq<|A1<|Zm Y<|Zv (Br Y)<|A6<|AQ Y (fun b1=>by cases b1)<|fun b1=>AC<|Zx<|Zq<|Zq<|Aw (n:=19) (0::1::0::4::15::31::63::127::63::319::1023::2047::4095::8191::16383::8191::40959::131071::262143::[]) 8 AF AF V<|A3 0 V (AA (off:=11) ID V rfl AE Y)<|BE 1 V AH Y<|A3 2 V (AO Y)<|Zz (l:=[3])<|B7 [true] [(1,(_,_))] V rfl (Zu [_] Y call15 Y V (gL c)) ?_ (fun _ _ h=>h.elim) Ah;rintro _ _ ⟨rfl,rfl⟩;refine Bk<|A3 4 V (KI Y Y)<|A3 5 V (AO Y)<|DD (t:=145) Y (fun c1=>?_) (fun c1=>?_);·
    rw [D2 c1];exact absurd ql c1
   rw [Cl c1];refine B1 6 V (AA (off:=10) ID V rfl AE Y)<|DP 7 V Wh (BD AH Y Ax)<|B1 8 V (AA (off:=8) G1 V rfl AE Y)<|DP 9 V Wh (BD AH Y Ax)<|B1 10 V (EI Y Y)<|A3 11 V (AL Y Y)<|A3 12 V (AO Y)<|DD (t:=152) Y (fun c2=>?_) (fun c2=>?_);·
    rw [D2 c2];exfalso;omega
   rw [Cl c2];refine B1 13 V (AA (off:=10) ID V rfl AE Y)<|DP 14 V Wh (BD AH Y Ax)<|B1 15 V (AA (off:=11) ID V rfl AE Y)<|DP 16 V Wh (BD AH Y Ax)<|B1 17 V (Ef Y Y)<|A3 18 V (AL Y Y)<|Ag<|Zn [5,6,7,13,14,15,158] ?_;refine Zx<|Av Y (fun c3=>by omega)<|fun c3=>AC<|Zx<|A1<|Zh 10 ID V rfl AE Y<|Zl AH Y<|A5 Y<|AR<|Zb [19,5,6,7,13,14,15] ?_;refine BF (e0:=[(19,_)]) (fun m e H=>∃(p:Nat),m=P+1 -p/\(s0<=p/\p<=P+1)/\e=[(19,I0 (p:Int))]/\H=[]) (by exact ⟨s0,rfl,⟨CT _,by omega⟩,(by rw [<-zu];rfl),rfl⟩) Wp ?_;rintro _ _ _ ⟨p,rfl,⟨hp1,hp2⟩,rfl,rfl⟩;refine Zq<|A1<|Zm Y<|Zh 11 ID V rfl AE Y<|Zl AH Y<|Zv (KJ Y Y)<|A6<|Av Y (fun p9=>?_) (fun p9=>?_);·
    rw [ql,zf]at p9;have zb:p<=P:=by omega
    have sj:=sX I pg sJ A0 e6 (p:=p) A0 zb;refine AC<|Zx<|Zq<|AR<|A1<|Zm Y<|Zm Y<|Zc [_,_] Y call19 Y V (pT U I A0 p A0) ?_;rintro _ _ ⟨_,⟨vs,ss,rfl,hS,rfl⟩,rfl⟩;refine Zm Y<|Zd Y rfl<|Zd Y rfl<|Za Y<|A5 Y<|A1<|Zm Y<|Zh 0 ID rfl rfl CM Y<|Zo Wh (AB (cs:=#[_,_,_,_,_,_,_]) F1 CM Y B5 (by exact (by apply HX.1;rfl)))<|Zc [_,_] Y call20 Y rfl (xy _ _ _ _ hS (I.rowsOk p A0) z.a.q (by rw [qj];exact pg)) ?_;rintro _ _ ⟨_,⟨w5,m5,rfl,r5,rfl⟩,rfl⟩;obtain ⟨E9,ax⟩:∃x,x=CK (BQ (l.take p)) z.a.q:=⟨_,rfl⟩;rw [<-ax]at r5⊢;obtain ⟨g5,c5,rfl⟩:=r5.form;have sO:=Cy r5 (by rw [ax];have:=hK.rows z.a.q p A0;omega)
    have sw:E9=z.a.res:=by rw [ax,qj,MB,e5];exact sj
    refine Zm Y<|Zd Y V<|Zd Y V<|Ze (Al GS #[_,_,_])<|AG fun b5=>Xe (Xw B9 #[.slice g5 E9.rows.length c5,I0 E9.val,.bool E9.fnd])<|AW Y<|Zn [5,6,7,13,14,15,19,21,22,23] ?_;refine Zx<|A1<|Zm Y<|Zv (EU (n:=0) Y Y)<|Zm Y<|Ao (t:=182) Y V (fun d1=>?_) (fun d1=>?_);·
     exact absurd V d1
    refine Zf Y Y<|Yg (EU (n:=0) Y Y)<|Zv (AL Y Y)<|Zm Y<|Ao (t:=186) Y V (fun d2=>?_) (fun d2=>?_);·
     exact absurd V d2
    refine Dt Y Wh (AB (cs:=#[_,_,_]) CN B9 Y (by exact CT _) (BO V)) V rfl<|Yf 7 ID V rfl B9 Y<|Dt Y Wh (AB (cs:=#[_,_,_]) CN B9 Y B5 (by exact (by apply HX.1;rfl))) V rfl<|Xr [_,_] Y call21 Y V (xY sO KS.1) ?_;rw [D2 sw];refine Yg (Br Y)<|Zv (AL Y Y)<|Z0<|Zn [5,6,7,13,14,15,19,192] ?_;refine Zx<|AQ Y (fun d3=>by cases d3)<|fun d3=>AC<|A8<|Zx<|Zg<|Zm Y<|Ya (n:=1) Y Y<|AW Y<|Zn [19,5,6,7,13,14,15] ?_;refine Aa (e':=[(19,_)]) (by exact ⟨p+1,V,⟨by omega,by omega⟩,V,V⟩)
   refine Az<|Zt<|Zt<|AV<|A8<|Zx<|Zg<|Zm Y<|Ya (n:=1) Y Y<|AW Y<|Zn [14,5,6,7,13] ?_;refine Aa (e':=[(14,_)]) (by exact ⟨i+1,V,by omega,V,V⟩)
  refine Zm Y<|Zd Y V<|Zd Y V<|Ze (Al Ly #[_,_,_,_,_,_,_,_,_,_,_,_,_,_,_])<|AG fun ba=>Xe (Xw LL #[I0 0,I0 0,I0 0,I0 0,I0 0,I0 0,I0 0,.slice none 0 0,I0 0,.bool false,I0 0,I0 0,I0 0,.slice none 0 0,.slice none 0 0])<|AW Y<|Zn [5,6,7,13,14,15,16] ?_;refine Zx<|A1<|Zm Y<|Zm Y<|Zm Y<|BZ (BU DH Fk Y Y (by first|omega|decide|exact CT _|(simp;done)|(simp;omega)))<|Zl HO Y (hv:=by exact cu)<|Zc [_,_] Y call11 Y rfl (W9 B.law.ok hx) ?_;rintro _ _ ⟨_,⟨pz,cz,sz,rfl,sM,rfl⟩,rfl⟩;refine Zm Y<|Zd Y V<|Zd Y V<|Ze (Al cX #[_,_,_,_,_,_,_,_,_,_])<|AG fun bz=>Xe (Xw HL #[I0 x.q.kd,I0 x.q.tb,I0 x.q.cl,I0 x.q.lo,I0 x.q.hi,I0 x.q.bq,I0 x.q.ot,I0 x.tn,I0 x.base,.slice pz x.L.length cz])<|A5 Y<|Zq<|Zq<|Aw (n:=11) (0::1::3::7::7::23::7::71::247::511::1023::[]) 128 AF AF V<|A3 0 V (AO Y)<|A3 1 V (Br Y)<|A3 2 V (AO Y)<|Ce (t:=129) Y (fun O=>?_) (fun O=>?_);·
   rw [O];cases O
  rw [O];refine B1 3 V (AO Y)<|B1 4 V (AA (off:=8) G1 V rfl AE Y)<|DP 5 V Wh (BD AH Y Ax)<|B1 6 V (AO Y)<|Yz 7 71 255 [5] [true] [(5,(_,_))] V Y V rfl V rfl (Zu [_] Y call15 Y V (gL c))<|D0<|Bk<|B1 8 V (KJ Y Y)<|B1 9 V (I4 Mn Y Y)<|A3 10 V (AL Y Y)<|Ag<|Zn [5,6,7,13,14,15,16,17,137] ?_;refine Zx<|AQ Y (fun a2=>?_) (fun a2=>?_);·
   simp [cO]at a2
  refine AC<|Zx<|Zq<|A1<|Zm Y<|Zv (Br Y)<|A6<|AQ Y (fun b1=>?_) (fun b1=>?_);·
   refine Az<|Zt<|AV<|Zx<|Zg<|Zm Y<|Ya (n:=1) Y Y<|AW Y<|Zn [14,5,6,7,13] ?_;refine Aa (e':=[(14,_)]) (by exact ⟨i+1,V,by omega,V,V⟩)
  cases b1
 refine Az<|Zt<|Zt<|AV<|Zx<|A1<|Zm Y<|A5 Y<|AJ<|AP V results4 Y (by exact ⟨V,V⟩)
theorem dO(p:B8)(cap:Nat)(xs:List (List Int))(M:List A9)(J:Wd M (.slice p xs.length cap) xs)(B:B8)(cap2:Nat)(ys:List Stp)(K:kU M (.slice B ys.length cap2) ys)(g:AK)(G:Nat×Nat)(m:AK)(I:Nat×Nat):BJ prog 4 #[.slice p xs.length cap,.slice B ys.length cap2] [[(4,.cells (Ez.map Cw).toArray g G)],[(1,.cells (Lib.pow10Tab.map fun z=>Value.int .u64 z).toArray m I)],M] (.bool true):=xJ J K g G m I
end Go.Proofs.YthhakdmlpngcmaaGreatDoor
namespace Go.Proofs.YthhakdmlpngcmaaGreatDoor
open Go.Proofs.Tryz
open Go Go.RowKit Gw
set_option maxRecDepth 100000
attribute [local irreducible] Gw.At Gw.Nx Gw.Ops
open Go.ChangeShapes Go.WideShapes Go.ChangeAt
theorem Xb{P:Program}{f:FuncId}{g:Func}{s:ChangeSpec}{c:OpenClaim}(h0:c.wf (OpenSpec.ofChange s)=true)(h1:laidOutB P=true)(h2:mapsRowed P=true)(h3:g.params.all (P.readableRec ·)=true)(h4:namedTie P c.named s.vars=true)(h5:(c.stops== [])=true)(h6:(P.stops== [])=true)(h7:(c.knobs== [])=true)(h8:(P.stopKnobs== [])=true)(h9:(c.inPlace==P.inPlace f)=true)(m:(c.unfollowed==P.unfollowed f)=true)(B:(c.recurses==P.recurses f)=true)(G:(c.named==P.varsNamed f)=true)(I:(c.maps==(g.params.toList++s.plain.varTypes P).any (P.mapsRec ·))=true)(J:(c.ifaces==(g.params.toList++s.plain.varTypes P).any (P.ifacesRec ·))=true)(K:(c.mapsOut==P.mapsAmong g.resultTypes.toList)=true)(O:(c.loops==(g.params.toList++s.plain.varTypes P).any (P.loopsFrom ·))=true)(U:(c.wideKeys==(g.params.toList++s.plain.varTypes P++g.resultTypes.toList).any (P.wideKeysFrom ·))=true)(X:s.vars.all (P.varReadable ·)=true)(Z:g.resultTypes.all (fun t=>P.readableRec t&&decide (t<P.types.size))=true)(af:(c.ifacesOut==g.resultTypes.toList.any (P.ifacesRec ·))=true)(ax:(c.loopsOut==g.resultTypes.toList.any (P.loopsFrom ·))=true)(bn:(c.plainKeys==P.plainKeys)=true)(cu:c.shortTexts.isNone=true)(cO:P.stopsHeard=true)(d9:P.mayEnter=true)(dn:(c.lifted==P.liftsFinal)=true)(ek:(P.make==some c.make)=true)(gm:(c.kinds==(if c.domain.isEmpty then []else g.params.toList.map fun t=>match P.underlying t with|some (.int k)=>some k|_=>none))=true)(gq:(c.pinned==c.pinnedBy)=true)(gy:(c.veiled==(g.params.toList++s.plain.varTypes P++g.resultTypes.toList).any (P.veiledRec ·))=true)(ic:c.veiledFits P g.params.toList (g.params.toList++s.plain.varTypes P++g.resultTypes.toList)=true):joinedFacts P f g s c=true:=by
 unfold joinedFacts;simp only [Fm];exact ⟨⟨⟨⟨⟨⟨⟨⟨⟨⟨⟨⟨⟨⟨⟨⟨⟨⟨⟨⟨⟨⟨⟨⟨⟨⟨⟨⟨⟨⟨⟨h0,h1⟩,h2⟩,h3⟩,h4⟩,h5⟩,h6⟩,h7⟩,h8⟩,h9⟩,m⟩,B⟩,G⟩,I⟩,J⟩,K⟩,O⟩,U⟩,X⟩,Z⟩,af⟩,ax⟩,bn⟩,cu⟩,cO⟩,d9⟩,dn⟩,ek⟩,gm⟩,gq⟩,gy⟩,ic⟩
end Go.Proofs.YthhakdmlpngcmaaGreatDoor
namespace Go.Proofs.YthhakdmlpngcmaaGreatDoor
open Go.Proofs.Tryz
open Go Go.RowKit Gw
set_option maxRecDepth 100000
attribute [local irreducible] Gw.At Gw.Nx Gw.Ops
open Go.ChangeShapes Go.WideShapes Go.Deep
theorem oU{cur:AM}{o:Nat}{L:List A4}(B:L.length=8)(h:∀(j:Nat) (y:A4),L[j]?=some y->cur[o+j]?=some y):o+8<=cur.size/\cur.extract o (o+8)=L.toArray:=by
 obtain ⟨y,g⟩:∃y,L[7]?=some y:=⟨_,BT A0⟩;have m:=(HU.1 (h 7 y g)).1
 refine ⟨by omega,Array.ext_getElem? fun i=>?_⟩;rw [dq];by_cases hi:i<8
 · rw [As A0]
   obtain ⟨y,g⟩:∃y,L[i]?=some y:=⟨_,BT A0⟩;rw [h i y g,dt,g]
 · rw [An A0,dt,Lq A0]
theorem z7:Tryz.prog.cellsOf 38=8:=by kernel_rfl
theorem fV{H:Type}{enc:AK×A4->H}{W:AD}{base:Nat}{held:Bool}{Tg Tp:AK}{zg zp:Nat×Nat}(h4:UM W Tg zg Tp zp){B:Nat}{cs:List A4}{x:DataW H×List MemPlace}(h:DataW.trod enc prog W base (fun _=>true) held B 23 cs=some x):
 ∃v xs,cs=[v]/\kU (Ol W [4,1]) v xs:=by
 obtain ⟨p,len,cap,rfl,hl,Z⟩:=TQ lP z7 B0 h;obtain ⟨xs,h1,h2⟩:=Jg len (fun i (z:Stp)=>z.fits/\∃g o cur T zz,p=some ⟨g,o,none⟩/\(g,Obj.cells cur T zz)∈Ol W [4,1]/\o+i*8+8<=cur.size/\cur.extract (o+i*8) (o+i*8+8)=#[I0 z.cl,I0 z.a,I0 z.b,I0 z.c,I0 z.d,I0 z.e,I0 z.n,I0 z.t]) (fun i hi=>by
  obtain ⟨X,n,z,I,ht,g,o,cur,T,zz,hp,hb,hc⟩:=Z i hi
  match X,I with
  |[a0,a1,a2,a3,a4,a5,a6,a7],_=>
   obtain ⟨ys,m,_,_,_,d9,O⟩:=DataW.trod_struct eW ht;have U:∀k,k<4->∃y,ys[k]?=some y:=fun k hk=>⟨_,BT (by rw [d9];exact hk)⟩
   obtain ⟨y0,ax⟩:=U 0 B0;obtain ⟨y1,bn⟩:=U 1 B0;obtain ⟨y2,cu⟩:=U 2 B0;obtain ⟨y3,cO⟩:=U 3 B0;obtain ⟨n0,e0,_,b0⟩:=DataW.trod_int DE ((O 0 _ rfl).trans ax);obtain ⟨n1,n2,n3,n4,n5,e1,b1,b2,b3,b4,b5⟩:=mg ((O 1 _ rfl).trans bn) rfl;obtain ⟨n6,J,_,b6⟩:=DataW.trod_int DE ((O 2 _ rfl).trans cu);obtain ⟨n7,K,_,b7⟩:=DataW.trod_int DE ((O 3 _ rfl).trans cO);change [a0]=[_]at e0;change [a1,a2,a3,a4,a5]=[_,_,_,_,_]at e1;change [a6]=[_]at J;change [a7]=[_]at K;injection e0 with e0
   injection e1 with e1 e2
   injection e2 with e2 e3
   injection e3 with e3 e4
   injection e4 with e4 e5
   injection e5 with e5
   injection J with J
   injection K with K
   subst e0 e1 e2 e3 e4 e5 J K;have G:∀(j:Nat) (y:A4),[Value.int .i64 n0,I0 n1,I0 n2,I0 n3,I0 n4,I0 n5,I0 n6,I0 n7][j]?=some y->cur[o+i*8+j]?=some y:=fun j y hj=>by
    have af:=(C4.1 hj).1;rw [hc j (by simpa using af)];exact hj
   obtain ⟨e1,e2⟩:=oU (L:=[Value.int .i64 n0,I0 n1,I0 n2,I0 n3,I0 n4,I0 n5,I0 n6,I0 n7]) rfl G;exact ⟨⟨n0,n1,n2,n3,n4,n5,n6,n7⟩,⟨⟨bounds_i64 b0,bounds_i64 b6,bounds_i64 b7⟩,b1,b2,b3,b4,b5⟩,g,o,cur,T,zz,hp,P9 hb (aV h4 hb (G 0 _ V) V),e1,e2⟩)
 subst h1;exact ⟨_,xs,V,p,cap,V,hl,h2⟩
end Go.Proofs.YthhakdmlpngcmaaGreatDoor
