/- Records in plain words: a log that can be applied. -/
/- The keys of the store; a map that holds rows. -/
/- The store: New, Apply, At. -/
/- The store: At. -/
/- The value of a column: of the reference of layer 3, of the program. -/
/- The reference of layer 4: Range. -/
/- row.Value, to the world: what the comparator of the sort wants. -/
/- The store: the predicate of Range. -/
/- The store: chosen, over a contract of the sort. -/
/- The store: chosen, called by Range. -/
/-
  The sort with a function lies in the program: laid at rows (printed by the kit, in plain words).
-/
/- The comparator of chosen, to the world. -/
/- What the sort does with it. -/
/- The rows of a range, of a table: one list. -/
/- Rows in memory. -/
/- slices.IndexFunc, DeleteFunc, Insert at rows. -/
/- Queries: their results on a state, and which changes touch them. -/
import Derived.Test.YteaiajghbkenoaaGreatDoorEz
import Derived.Test.YteaiajghbkenoaaGreatDoorLg9
import Derived.Test.YteaiajghbkenoaaGreatDoorEx36
import Derived.WalkKit
import Derived.WalkSpells
import Derived.Sort.Grow
import Derived.Deep.Draws
import Derived.Lib.Hide
import Derived.LoopTactic
import Derived.Test.YteaiajghbkenoaaGreatDoorLg4
import Derived.Shelf.SlSortCmp.WholeK
import Derived.Test.YteaiajghbkenoaaGreatDoorProg
import Derived.Shelf.SlSortCmp.NoneTotal
set_option linter.unusedVariables false
set_option linter.unusedSimpArgs false
namespace Go.Proofs.YteaiajghbkenoaaGreatDoor
open Go.Proofs.Tryz
open Go Go.RowKit Gw
set_option maxRecDepth 100000
attribute [local irreducible] Gw.At Gw.Nx Gw.Ops
structure BU where
 p:Int
 q:Option Addr
 cap:Nat
 cs:List Chg
def Dr(l:List BU):List Value:=l.flatMap (fun r=>[I4 r.p,.slice r.q r.cs.length r.cap])
def EU(M:List A9)(v:Value)(l:List BU):Prop:=∃p cap,v= .slice p l.length cap/\(l.length<=maxLen/\l.length<=cap)/\∀(i:Nat) (r:BU),l[i]?=some r->Cr M (.slice r.q r.cs.length r.cap) r.cs/\∃g off cur T zz,p=some ⟨g,off,none⟩/\(g,Obj.cells cur T zz)∈M/\off+i*2+2<=cur.size/\cur.extract (off+i*2) (off+i*2+2)=#[I4 r.p,.slice r.q r.cs.length r.cap]
def Bd(l:List BU):List AU:=l.foldl (fun rs r=>DN rs r.cs) []
theorem Gf(l:List BU)(r:BU):Bd (l++[r])=DN (Bd l) r.cs:=by unfold Bd;rw [Xs];rfl
def F6(l:List BU):Prop:=∀(i:Nat) (r:BU),l[i]?=some r->KQ (Bd (l.take i)) (i:Int) r.p r.cs/\r.cs.length<=3
variable{rs:List AU}{cs:List Chg}
theorem gY{p rp:Int}(G:BP rs)(h:KQ rs p rp cs):BP (DN rs cs)/\(DN rs cs).length<=2000:=by
 have m:=U9 h.ok.ord;obtain ⟨g,_⟩:=KI G m h.fit cs.length (CD _);have h2:=Nc G m h.fit cs.length (CD _)
 rw [G0]at g h2;exact ⟨g,by have:=h.size;omega⟩
theorem F6.rows{l:List BU}(h:F6 l):∀i,i<=l.length->BP (Bd (l.take i))/\(Bd (l.take i)).length<=2000
 |0,_=>⟨List.Pairwise.nil,C0 _⟩
 |i+1,hi=>by
  obtain ⟨r,g⟩:∃r,l[i]?=some r:=⟨_,B4 A1⟩;have m:=F6.rows h i A1
  rw [PF,g];show BP (Bd (l.take i++[r]))/\_
  rw [show(some r).toList=[r] from rfl,Gf];exact gY m.1 (h i r g).1
theorem F6.all{l:List BU}(h:F6 l):BP (Bd l)/\(Bd l).length<=2000:=by
 have:=h.rows l.length (CD _);rwa [G0]at this
theorem F6.snoc{l:List BU}(h:F6 l){r:BU}(I:KQ (Bd l) (l.length:Int) r.p r.cs)(G:r.cs.length<=3):F6 (l++[r]):=by
 intro i x g;rw [my]at g;split at g
 · rename_i hi
   rw [a8 A1];exact h i x g
 · rename_i hi
   have m:=(B9.1 g).1;simp only [E7]at m;have e:i=l.length:=by omega
   subst e;rw [Tl]at g;injection g with g
   subst g;rw [HM rfl];exact ⟨I,G⟩
theorem G5:∀(cs:List Chg),(Cg cs).length=cs.length*10
 |[]=>rfl
 |c::cs=>by
  have:=G5 cs;unfold Cg at*;rw [HL,B7,this,DH];simp;omega
theorem Iu(a b:List Chg):Cg (a++b)=Cg a++Cg b:=by unfold Cg;rw [N1]
theorem Ug(cs:List Chg)(k:Nat):(Cg cs).take (k*10)=Cg (cs.take k):=by
 rcases Dg cs.length k with h|h
 · rw [Hv (by rw [G5];omega),Hv A1]
 · have e:Cg cs=Cg (cs.take k)++Cg (cs.drop k):=by rw [<-Iu,I3]
   rw [e,HM (by rw [G5,C1];omega)]
theorem Uh(cs:List Chg)(k:Nat):(Cg cs).drop (k*10)=Cg (cs.drop k):=by
 rcases Dg cs.length k with h|h
 · rw [SO (by rw [G5];omega),SO A1];rfl
 · have e:Cg cs=Cg (cs.take k)++Cg (cs.drop k):=by rw [<-Iu,I3]
   rw [e,W3 (by rw [G5,C1];omega)]
theorem PN(cs:List Chg):∀u∈Cg cs,u.oneCell'=true:=by
 intro u g;unfold Cg at g;obtain ⟨r,_,h⟩:=Rg.1 g;simp only [D2,RT,RC]at h;rcases h with rfl|rfl|rfl|rfl|rfl|rfl|rfl|rfl|rfl|rfl<;>rfl
theorem uN{cur:Array Value}{j:Nat}{y:Chg}(h:C9 cur 0 (Cg cs))(J:cs[j]?=some y):cur[j*10]?=some (I4 y.t)/\cur[j*10+1]?=some (I4 y.k):=by
 have m:=IG (fun c:Chg=>[I4 c.t,I4 c.k,.bool c.had,I4 c.o.a,I4 c.o.b,I4 c.o.c,.bool c.has,I4 c.n.a,I4 c.n.b,I4 c.n.c]) 10 (fun _=>rfl) cs j y J;have e:∀q,((Cg cs).drop (j*10)).take 10=[I4 y.t,I4 y.k,.bool y.had,I4 y.o.a,I4 y.o.b,I4 y.o.c,.bool y.has,I4 y.n.a,I4 y.n.b,I4 y.n.c]->q<10->(Cg cs)[j*10+q]?=([I4 y.t,I4 y.k,.bool y.had,I4 y.o.a,I4 y.o.b,I4 y.o.c,.bool y.has,I4 y.n.a,I4 y.n.b,I4 y.n.c]:List Value)[q]?:=fun q G I=>by
  rw [<-G,HA,AM I,PA]
 have a0:=h.get (j*10+0) _ ((e 0 m A1).trans rfl);have g:=h.get (j*10+1) _ ((e 1 m A1).trans rfl)
 rw [Cl]at a0 g;exact ⟨a0,g⟩
variable{v:Value}
theorem Jh{M:List A9}(h:Cr M v cs)(s:List A9):Cr (M++s) v cs:=by
 obtain ⟨p,cap,hv,J,I⟩:=h;refine ⟨p,cap,hv,J,fun i c hc=>?_⟩;obtain ⟨g,off,cur,T,zz,m,h2,G⟩:=I i c hc;exact ⟨g,off,cur,T,zz,m,DP _ h2,G⟩
theorem Gy{M:List A9}(h:Cr M v cs)(s:List A9):Cr (s++M) v cs:=by
 obtain ⟨p,cap,hv,J,I⟩:=h;refine ⟨p,cap,hv,J,fun i c hc=>?_⟩;obtain ⟨g,off,cur,T,zz,m,h2,G⟩:=I i c hc;exact ⟨g,off,cur,T,zz,m,Fm _ h2,G⟩
def WK(M:List A9)(v:Value)(xs:List (List Int)):Prop:=∃p cap,v= .slice p xs.length cap/\(xs.length<=maxLen/\xs.length<=cap)/\∀(i:Nat) (z:List Int),xs[i]?=some z->z.length=6/\(∀n∈z,-9223372036854775808<=n/\n<=9223372036854775807)/\∃g off cur T zz,p=some ⟨g,off,none⟩/\(g,Obj.cells cur T zz)∈M/\∀(j:Nat) (n:Int),z[j]?=some n->cur[off+i*6+j]?=some (I4 n)
theorem Jz{l:List BU}{s I:List A9}(h:Bb 2 50 v l.length (Dr l) s)(O:l.length<=maxLen)(K:∀r∈l,Cr I (.slice r.q r.cs.length r.cap) r.cs):EU (s++I) v l:=by
 obtain ⟨b,cap,rfl⟩:=h.form;refine ⟨b,cap,V,⟨O,Et h⟩,fun i r G=>⟨Gy (K r (DE G)) s,?_⟩⟩;obtain ⟨g,J,cur,z,hv,rfl,U,m⟩:=J7 h i (B9.1 G).1;injection hv with hv1 hv2 hv3
 refine ⟨g,0,cur,50,z,hv1,DP _ (BT.2 V),by omega,?_⟩;rw [Cl];apply HC.1;rw [m];exact IG _ 2 (fun _=>rfl) l i r G
theorem KZ(a b:List BU):Dr (a++b)=Dr a++Dr b:=by unfold Dr;rw [N1]
theorem yz:BZ prog 31 #[] [] (fun r H'=>∃g,r=I5 g/\H'=[[(g,.cells #[.slice none 0 0,I4 0] 87 (0,0))]]):=by
 refine Se func31 ntmps31 [] ?_;intro u R;refine A0<|A3 Y<|A0<|Zv (BL (vs:=[]) (cs:=#[_,_]) Y (AY (pl:=#[(0,1),(1,1)]) zeroValue87 I0 (fun _=>by kernel_rfl) V))<|Ze (Bx #[_,_])<|AD fun g=>A3 Y<|AJ<|AP V results31 Y (by exact ⟨g,V,V⟩)
def K2(k:Int×Int):Value:= .agg #[I4 k.1,I4 k.2]
def KD(k:Int×Int):Prop:=(Lit.int .i64 k.1).wf=true/\(Lit.int .i64 k.2).wf=true
def SH(r:AU):Value:= .agg r.A29
theorem ut:∀a b,K2 a=K2 b->a=b:=by
 rintro ⟨a,b⟩ ⟨c,d⟩ h;unfold K2 at h;simp only [Value.agg.injEq,nv,ke,Value.int.injEq,dp,V2]at h;rw [h.1,h.2]
theorem Ov(P:Program)(d:Nat)(a:Int){t:TypeId}(g:P.underlying t=some (.int .i64))(h:(Lit.int .i64 a).wf=true):P.keyLits (d+1) t [.int .i64 a]=some [.int .i64 a]:=by
 unfold Program.keyLits;rw [g];simp [h]
theorem sN:Fp prog 260 K2 KD:=Fp.ofLaw (deep_law (m:=3) (by decide) (by kernel_rfl) (by kernel_rfl) (by kernel_rfl)) (by
 rintro ⟨a,b⟩ ⟨I,J⟩;have G:Tryz.prog.types.size+1=(Tryz.prog.types.size -1)+1+1:=by
  have:0<Tryz.prog.types.size:=HX A6;omega
 have hc:Tryz.prog.cellsOf 3=1:=by kernel_rfl
 have g:Tryz.prog.cellsOf 260=2:=by kernel_rfl
 have U:Tryz.prog.keyType 260=true:=by kernel_rfl
 have O:(K2 (a,b)).formed prog 260=true:=by
  unfold Value.formed K2;rw [i6];simp [g]
 unfold keyOf;rw [i6];simp only [U,O,Bool.and_self,Hb];obtain ⟨d,K⟩:∃d,Tryz.prog.types.size+1=d+1+1:=⟨_,G⟩;rw [K];unfold Program.keyLits;rw [i6];have X:=Ov prog d a Cp I
 have Z:=Ov prog d b Cp J;simp [K2,Value.cells,hc,g,X,Z]) ut
structure H5(l:List ((Int×Int)×Value))(rs:List AU):Prop where
 mem:∀p,p∈l↔∃r∈rs,p=((r.t,r.k),SH r)
 kd:∀r∈rs,KD (r.t,r.k)
theorem rE:H5 [] []:=⟨fun p=>by simp,fun r h=>by cases h⟩
variable{l:List ((Int×Int)×Value)}
theorem H5.keys(h:H5 l rs):∀p∈l,KD p.1:=fun p g=>by
 obtain ⟨r,m,rfl⟩:=(h.mem p).1 g;exact h.kd r m
theorem YO{a b:AU}(h:SH a=SH b):a=b:=by
 obtain ⟨t,k,⟨x,y,z⟩⟩:=a;obtain ⟨m,g,⟨G,I,J⟩⟩:=b;unfold SH at h;simp only [Value.agg.injEq,nv,ke,Value.int.injEq,dp,V2]at h;obtain ⟨rfl,rfl,rfl,rfl,rfl⟩:=h;rfl
theorem H5.len{es:Array MapEntry}{ck:Nat}(I:Ck K2 es ck l)(h:H5 l rs)(K:BP rs):l.length=rs.length:=by
 have G:l.Nodup:=by
  have:=I.keys;rw [Wk,T7]at this;rw [Wk];exact this.imp (fun g e=>g (by rw [e]))
 have h2:(rs.map (fun r=>((r.t,r.k),SH r))).Nodup:=by
  rw [Wk,T7];refine K.imp (fun{a b} hab e=>?_);have e2:=YO (Prod.mk.inj e).2
  subst e2;unfold AU.lt2 at hab;omega
 have J:l.Perm (rs.map (fun r=>((r.t,r.k),SH r))):=by
  rw [OR G h2];intro p;rw [h.mem p,Bk];constructor
  · rintro ⟨r,m,rfl⟩;exact ⟨r,m,rfl⟩
  · rintro ⟨r,m,rfl⟩;exact ⟨r,m,rfl⟩
 rw [J.length_eq,B2]
theorem H5.get{es:Array MapEntry}{ck:Nat}(J:Ck K2 es ck l)(h:H5 l rs)(U:BP rs)(t k:Int):
 (EG (t,k) l).getD (SH AU.zero)=SH (Fh rs t k).1/\(EG (t,k) l).isSome=(Fh rs t k).2:=by
 cases hg:(Fh rs t k).2 with
 |true=>
  obtain ⟨r,m,hi,_,I⟩:=JF hg;have G:((t,k),SH r)∈l:=(h.mem _).2 ⟨r,m,by rw [show t=r.t from hi.1.symm,show k=r.k from hi.2.symm]⟩
  rw [D5 J.keys G,I];exact ⟨V,V⟩
 |false=>
  have g:∀r∈rs,¬r.is t k:=fun r m hi=>by rw [KH U m hi]at hg;cases hg
  have K:EG (t,k) l=none:=DW (fun p O e=>by
   obtain ⟨r,m,rfl⟩:=(h.mem p).1 O;injection e with e1 e2
   exact g r m ⟨e1,e2⟩)
  rw [K,QH g];exact ⟨V,V⟩
variable{c:Chg}
theorem H5.put{J:List ((Int×Int)×Value)}(h:H5 l rs)(I:BP rs)(G:GK rs c)(K:c.has=true)(O:KD (c.t,c.k))(U:∀p,p∈J↔p=((c.t,c.k),SH ⟨c.t,c.k,c.n⟩)\/(p∈l/\p.1≠(c.t,c.k))):H5 J (EI rs c):=by
 refine ⟨fun p=>?_,fun r m=>?_⟩
 · rw [U p]
   constructor
   · rintro (rfl|⟨g,h2⟩)
     · exact ⟨_,(Fy I G _).2 (.inr ⟨K,rfl⟩),rfl⟩
     · obtain ⟨r,m,rfl⟩:=(h.mem p).1 g
       exact ⟨r,(Fy I G _).2 (.inl ⟨m,fun hi=>h2 (by rw [show r.t=c.t from hi.1,show r.k=c.k from hi.2])⟩),rfl⟩
   · rintro ⟨r,m,rfl⟩
     rcases (Fy I G _).1 m with⟨g,h2⟩|⟨_,rfl⟩
     · exact .inr ⟨(h.mem _).2 ⟨r,g,rfl⟩,fun e=>h2 (by injection e with e1 e2;exact ⟨e1,e2⟩)⟩
     · exact .inl rfl
 · rcases (Fy I G _).1 m with⟨g,_⟩|⟨_,rfl⟩
   · exact h.kd r g
   · exact O
theorem H5.drop{K:List ((Int×Int)×Value)}(h:H5 l rs)(I:BP rs)(G:GK rs c)(J:c.has=false)(O:∀p,p∈K↔p∈l/\p.1≠(c.t,c.k)):H5 K (EI rs c):=by
 refine ⟨fun p=>?_,fun r m=>?_⟩
 · rw [O p]
   constructor
   · rintro ⟨g,h2⟩
     obtain ⟨r,m,rfl⟩:=(h.mem p).1 g;exact ⟨r,(Fy I G _).2 (.inl ⟨m,fun hi=>h2 (by rw [show r.t=c.t from hi.1,show r.k=c.k from hi.2])⟩),rfl⟩
   · rintro ⟨r,m,rfl⟩
     rcases (Fy I G _).1 m with⟨g,h2⟩|⟨h9,_⟩
     · exact ⟨(h.mem _).2 ⟨r,g,rfl⟩,fun e=>h2 (by injection e with e1 e2;exact ⟨e1,e2⟩)⟩
     · rw [J]at h9;cases h9
 · rcases (Fy I G _).1 m with⟨g,_⟩|⟨h9,_⟩
   · exact h.kd r g
   · rw [J]at h9;cases h9
theorem Un{n:Int}(h:-9223372036854775808<=n/\n<=9223372036854775807):(Lit.int .i64 n).wf=true:=by
 simp [Lit.wf,IntKind.min,IntKind.max,IntKind.signed,IntKind.bits];omega
theorem uM(h:c.ok):KD (c.t,c.k):=by
 obtain ⟨m,h2,_,_⟩:=h;have G:(0<=c.t/\c.t<=3)/\(1<=c.k/\c.k<=1000000):=by
  cases hh:c.had with
  |true=>
   have:c.before.ok:=aE (fun g=>h2 (.inl ⟨hh,g⟩));rw [PQ hh]at this;exact this.2
  |false=>
   cases hs:c.has with
   |true=>
    have:c.after.ok:=aE (fun g=>h2 (.inr ⟨hs,g⟩));rw [Ky hs]at this;exact this.2
   |false=>exact absurd (.inl ⟨by rw [hh];decide,by rw [hs];decide⟩) m
 exact ⟨Un (by show _<=c.t/\c.t<=_;omega),Un (by show _<=c.k/\c.k<=_;omega)⟩
theorem OT(c:Chg):BI prog 142 #[.agg c.A28] [] (.tuple #[.agg #[I4 (EK c c.has c.n).t,I4 (EK c c.has c.n).k,I4 (EK c c.has c.n).v.a,I4 (EK c c.has c.n).v.b,I4 (EK c c.has c.n).v.c],.bool c.has]):=by
 refine Se func142 ntmps142 [0] ?_;intro u R;refine A0<|Ze (Bx #[_,_,_,_,_,_,_,_,_,_])<|AD fun g=>Ze (Al DS #[_,_,_,_,_])<|AD fun m=>A3 Y<|A0<|Zo Wh (AA (cs:=#[_,_,_,_,_,_,_,_,_,_]) Ft C3 Y Ax AN) ?_;refine Zh 6 B8 V rfl CH Y<|Zl E0 Y ?_;refine Zh 7 B8 V rfl DG Y<|Zo Wh (AA (cs:=#[_,_,_]) HE DG Y Ax AN) ?_;refine Xr [_,_,_] Y call202 Y V (Wm c c.has c.n) ?_;refine Zd Y V<|Zd Y V<|Xe (Xw An _) ?_;refine AG Y<|Zn [2,3] ?_;refine Zx<|AJ<|Bi V results142 Y Wh (Ak CI An Wn (V)) Y (by exact ⟨V,V⟩)
theorem yf:BZ prog 100 #[] [] (fun r H'=>∃g mb,r=I5 g/\H'=[[(g,.cells #[.map (some mb),I4 0] 258 (0,0))],[(mb,.map #[] 0)]]):=by
 refine Se func100 ntmps100 [] ?_;intro u R;refine A0<|A3 Y<|A0<|Ze (DT)<|AD fun mb=>Zv (BL (vs:=[(0,_)]) (cs:=#[_,_]) Y (AY (pl:=#[(0,1),(1,1)]) zeroValue256 bm (fun _=>by kernel_rfl) V))<|Zv (BL (vs:=[(0,_)]) (cs:=#[_,_]) Y (AY (pl:=#[(0,2)]) zeroValue258 cA (fun _=>by kernel_rfl) V))<|Ze (Bx #[_,_])<|AD fun g=>A3 Y<|AJ<|AP V results100 Y (by exact ⟨g,mb,V,V⟩)
theorem vX(sp mb:Nat)(p rp:Int)(es:Array MapEntry)(ck:Nat)(lm:List ((Int×Int)×Value))(rs:List AU)(M:List A9)(q:Option Addr)(cap:Nat)(cs:List Chg)(hm:Ck K2 es ck lm)(hR:H5 lm rs)(hO:Cr M (.slice q cs.length cap) cs)(hs:BP rs)(hn:rs.length<=2000)(hA:KQ rs p rp cs):
 BI prog 168 #[I5 sp,.agg #[I4 rp,.slice q cs.length cap]] [[(sp,.cells #[.map (some mb),I4 p] 258 (0,0))],[(mb,.map es ck)],M] (.bool true):=by
 have kv:=mL;obtain ⟨p9,ic,e9,l5,hg⟩:=id hO;injection e9 with e91 e92 e93
 subst e91 e93;have J:=hA.ok
 have l8:=hA.pos;have j5:=J.len
 have l9:=J.pos;have j3:=U9 J.ord
 have gm:=hR.len hm hs;refine Se func168 ntmps168 [0,1] ?_;intro u R;refine A0<|Ze (Bx #[_,_])<|AD fun b1=>A3 Y<|Zq<|Zq<|Az (n:=14) (0::1::3::7::15::31::15::79::207::463::975::1999::4095::8191::[]) 2 A6 A6 V<|E6 0 V Wh (AA (cs:=#[_,_]) HW F2 Y Ax AN) ?_;refine Yw 1 3 V (Zu [_] Y call51 Y V (Pm rp q cap cs M hO)) ?_;rintro _ _ ⟨rfl,rfl⟩;rw [CM J];refine A2 2 V (Bo Y)<|A2 3 V (AO Y)<|Bu (t:=13) Y (fun h1=>?_) (fun h1=>?_)
 ·
  rw [h1];cases h1
 rw [h1];refine AH 4 V (AB (off:=0) GS V rfl A5 Y)<|DA 5 V Wh (BO AE Y AN) ?_;refine AH 6 V (AO Y)<|AH 7 V (Aq Y V)<|AH 8 V (AB (off:=0) cA V rfl dc Y)<|AH 9 V (Ap (off:=1) bm V rfl A5 Y)<|DA 10 V Wh (BO AE Y AN) ?_
 (refine AH 11 rfl (HV Y Y (IntWalk.i64_in _ ?_)) ?_;(focus (omega)))
 refine AH 12 V (J9 Y Y)<|A2 13 V (AL Y Y)<|Ah<|Zn [0,3,23] ?_;refine Zx<|Au Y (fun h2=>?_) (fun h2=>?_)
 ·
  exfalso;contradiction
 refine AC<|Zx<|A0<|Zm Y<|Zp Y V<|Zh 0 cA V rfl dc Y<|Zv (Ap (off:=0) bm V rfl sizeOf254 Y)<|Zl isAgg254 Y ?_;refine Zo Wh (QB i7 hm Y) ?_;refine A3 Y<|Zq<|A0<|Zh 1 GS V rfl Lw Y<|Zl ON Y ?_;refine Zv (Aa G4 Y)<|Zm Y<|A4<|AQ<|Zb [5,33,0,31,32] ?_;refine BB (e0:=[(5,_),(33,_)]) (fun m e H=>∃(i:Nat),m=cs.length -i/\(i<=cs.length)/\e=[(5,I4 (Gp rs (cs.take i))),(33,I4 (i:Int))]/\H=[]) (by exact ⟨0,rfl,C0 _,by rw [gm];rfl,rfl⟩) Wp ?_;rintro _ _ _ ⟨i,rfl,hi,rfl,rfl⟩;have gy:=OL rs cs i
 refine A0<|Zv (Av Y Y)<|A4<|Zq<|Au Y (fun bn=>?_) (fun bn=>?_)
 ·
  obtain ⟨x,K⟩:∃x,cs[i]?=some x:=⟨_,B4 bn⟩;obtain ⟨g,off,cur,T,zz,rfl,gq,o8,cO⟩:=hg i x K;have gB:=J.all i x K
  have ek:=uM gB;obtain ⟨d9,af⟩:=hA.fit x (DE K);have O:=hR.get hm hs x.t x.k
  obtain ⟨U,ax⟩:∃U,U=Fh rs x.t x.k:=⟨_,rfl⟩;rw [<-ax]at O d9 af;clear ax;refine AC<|Zx<|Zq<|AQ<|A0<|BX (Ac G4 C3 Y Y A1)<|CQ (cs:=[(g,.cells cur T zz)]) (by simp [gq]) (AA (cs:=x.A28) Ft C3 Y A1 cO) V rfl ?_;refine Ze (Al LN #[_,_,_,_,_,_,_,_,_,_])<|AD fun cb=>Xe (Xw C3 x.A28) ?_;refine A4<|Zq<|Az (n:=17) (0::1::3::7::15::0::32::0::128::480::1023::2047::4095::4095::0::24575::65535::[]) 49152 A6 A6 V<|A2 0 V (AO Y)<|A2 1 V (Aq Y V)<|A2 2 V (AB (off:=0) cA V rfl dc Y)<|A2 3 V (Ap (off:=0) bm V rfl sizeOf254 Y)<|B3 4 V isAgg254 Y ?_;refine A2 5 V (AB (off:=0) B8 V rfl A5 Y)<|B3 6 V AE Y ?_;refine A2 7 V (AB (off:=1) B8 V rfl A5 Y)<|B3 8 V AE Y ?_;refine A2 9 V (BL (vs:=[(0,_),(1,_)]) (cs:=#[_,_]) Y (AY (pl:=#[(0,1),(1,1)]) zeroValue260 i6 (fun _=>by kernel_rfl) V))<|E6 10 V Wh (E9 sN i7 DS hm hR.keys (ek) (O) Y Y) ?_;refine A2 11 V (AO Y)<|A2 12 V (C8 Y V)<|A2 13 V (C8 Y V)<|Zz (l:=[14])<|B1 [true,true,true,true] [(10,(_,_)),(8,(_,_)),(6,(_,_)),(4,(_,_))] V rfl (Al DS #[_,_,_,_,_]) ?_ (fun _ _ h=>h.elim) Ai;rintro _ _ ⟨ob,rfl,rfl⟩;refine B5<|Yw 15 65535 V (Xw An #[I4 U.1.t,I4 U.1.k,I4 U.1.v.a,I4 U.1.v.b,I4 U.1.v.c])<|CT<|A2 16 V (Aw Y)<|Ah<|Zn [0,5,7,8,9,31,32,33] ?_;refine Zx<|Zq<|A0<|Zm Y<|Zh 2 B8 V rfl CH Y<|Zl E0 Y ?_;refine Zv (Kc NO Y Y)<|Zm Y<|Am (t:=55) Y V (fun cu=>?_) (fun cu=>?_)
  ·
   exfalso;contradiction
  refine Zf Y Y<|Zf Y Y ?_;refine Ag (t:=57) Y V (fun X=>?_) (fun X=>?_)
  ·
   refine Yf 2 FG V rfl DG Y<|Dv Y Wh (AA (cs:=#[_,_,_]) HE DG Y Ax AN) V rfl ?_;refine Yf 3 B8 V rfl DG Y<|Dv Y Wh (AA (cs:=#[_,_,_]) HE DG Y Ax AN) V rfl ?_;refine Yg (Ke A6 Hj Cp AE A5 Y Y) ?_;refine Yg (AV Y Y)<|Zv (AL Y Y)<|Z0<|Zn [0,5,7,31,32,33,64] ?_;refine Zx<|Au Y (fun Z=>?_) (fun Z=>?_)
   ·
    exfalso;exact Z (af X)
   refine AC<|Zx<|Zq<|A0<|Zh 2 B8 V rfl CH Y<|Zl E0 Y ?_;refine A4<|AX Y (fun I=>?_) (fun I=>?_)
   ·
    refine Zg<|Zm Y ?_
    (refine BX (GG Y Y (IntWalk.i64_in _ ?_)) ?_;(focus (omega)))
    refine A3 Y<|A0<|Zh 6 B8 V rfl CH Y<|Zl E0 Y ?_;refine A4<|AX Y (fun G=>?_) (fun G=>?_)
    ·
     refine Zg<|Zm Y<|Yi Y Y<|AG Y<|A8<|Zx<|Zg<|Ya (n:=1) Y Y<|Zm Y<|Z0<|Zn [5,33,0,31,32] ?_;refine Ab (e':=[(5,_),(33,_)]) (by exact ⟨i+1,rfl,by omega,by rw [iI K I G],rfl⟩)
    refine AC<|A8<|Zx<|Zg<|Ya (n:=1) Y Y<|Zm Y<|Z0<|Zn [5,33,0,31,32] ?_;refine Ab (e':=[(5,_),(33,_)]) (by exact ⟨i+1,rfl,by omega,by rw [iJ K I G],rfl⟩)
   refine AC<|Zx<|A0<|Zh 6 B8 V rfl CH Y<|Zl E0 Y ?_;refine A4<|AX Y (fun G=>?_) (fun G=>?_)
   ·
    refine Zg<|Zm Y<|Yi Y Y<|AG Y<|A8<|Zx<|Zg<|Ya (n:=1) Y Y<|Zm Y<|Z0<|Zn [5,33,0,31,32] ?_;refine Ab (e':=[(5,_),(33,_)]) (by exact ⟨i+1,rfl,by omega,by rw [iK K I G],rfl⟩)
   refine AC<|A8<|Zx<|Zg<|Ya (n:=1) Y Y<|Zm Y<|Z0<|Zn [5,33,0,31,32] ?_;refine Ab (e':=[(5,_),(33,_)]) (by exact ⟨i+1,rfl,by omega,by rw [iL K I G],rfl⟩)
  repeat refine A7 Y rfl ?_
  refine Yg (AL Y Y)<|Zv (AL Y Y)<|Z0<|Zn [0,5,7,31,32,33,64] ?_;refine Zx<|Ch Y<|AC<|Zx<|Zq<|A0<|Zh 2 B8 V rfl CH Y<|Zl E0 Y ?_;refine A4<|AX Y (fun I=>?_) (fun I=>?_)
  ·
   refine Zg<|Zm Y ?_
   (refine BX (GG Y Y (IntWalk.i64_in _ ?_)) ?_;(focus (omega)))
   refine A3 Y<|A0<|Zh 6 B8 V rfl CH Y<|Zl E0 Y ?_;refine A4<|AX Y (fun G=>?_) (fun G=>?_)
   ·
    refine Zg<|Zm Y<|Yi Y Y<|AG Y<|A8<|Zx<|Zg<|Ya (n:=1) Y Y<|Zm Y<|Z0<|Zn [5,33,0,31,32] ?_;refine Ab (e':=[(5,_),(33,_)]) (by exact ⟨i+1,rfl,by omega,by rw [iI K I G],rfl⟩)
   refine AC<|A8<|Zx<|Zg<|Ya (n:=1) Y Y<|Zm Y<|Z0<|Zn [5,33,0,31,32] ?_;refine Ab (e':=[(5,_),(33,_)]) (by exact ⟨i+1,rfl,by omega,by rw [iJ K I G],rfl⟩)
  refine AC<|Zx<|A0<|Zh 6 B8 V rfl CH Y<|Zl E0 Y ?_;refine A4<|AX Y (fun G=>?_) (fun G=>?_)
  ·
   refine Zg<|Zm Y<|Yi Y Y<|AG Y<|A8<|Zx<|Zg<|Ya (n:=1) Y Y<|Zm Y<|Z0<|Zn [5,33,0,31,32] ?_;refine Ab (e':=[(5,_),(33,_)]) (by exact ⟨i+1,rfl,by omega,by rw [iK K I G],rfl⟩)
  refine AC<|A8<|Zx<|Zg<|Ya (n:=1) Y Y<|Zm Y<|Z0<|Zn [5,33,0,31,32] ?_;refine Ab (e':=[(5,_),(33,_)]) (by exact ⟨i+1,rfl,by omega,by rw [iL K I G],rfl⟩)
 have ei:i=cs.length:=by omega
 subst ei;rw [G0]at gy⊢;refine Ay<|Zt<|Zt<|AR<|Zx<|A0<|Zm Y<|Zv (NC Y Y)<|A3 Y<|AJ<|AP rfl results168 Y (by exact ⟨by rw [CM hA.size],rfl⟩)
theorem oN(sp mb:Nat)(p rp:Int)(es:Array MapEntry)(ck:Nat)(lm:List ((Int×Int)×Value))(rs:List AU)(M:List A9)(q:Option Addr)(cap:Nat)(cs:List Chg)(hm:Ck K2 es ck lm)(hR:H5 lm rs)(hO:Cr M (.slice q cs.length cap) cs)(hs:BP rs)(hn:rs.length<=2000)(hA:KQ rs p rp cs):
 BZ prog 101 #[I5 sp,.agg #[I4 rp,.slice q cs.length cap]] [[(sp,.cells #[.map (some mb),I4 p] 258 (0,0))],[(mb,.map es ck)],M] (fun r H'=>r=I4 0/\∃cu bn gq,Ck K2 cu bn gq/\H5 gq (DN rs cs)/\H'=[[(sp,.cells #[.map (some mb),I4 rp] 258 (0,0))],[(mb,.map cu bn)],M]):=by
 have o8:=mL;obtain ⟨p9,l8,e9,o9,hg⟩:=id hO;injection e9 with e91 e92 e93
 subst e91 e93;have J:=hA.ok
 have p8:=hA.pos;have l9:=J.len
 have pg:=J.pos;have cO:=U9 J.ord
 refine Se func101 ntmps101 [0,1] ?_;intro u R;refine A0<|Ze (Bx #[_,_])<|AD fun b1=>A3 Y<|Zq<|AQ<|A0<|Zm Y<|Zv (Be lO Y Y)<|A3 Y<|AX Y (fun h1=>by cases h1)<|fun h1=>A0<|Zm Y<|Zo Wh (AA (cs:=#[_,_]) HW F2 Y Ax AN) ?_;refine Xr [_,_] Y call168 Y V (vX sp mb p rp es ck lm rs M q cap cs hm hR hO hs hn hA) ?_;refine Zv (Bo Y)<|A3 Y<|AX Y (fun h2=>by cases h2)<|fun h2=>AC<|A8<|Zx<|Zq<|A0<|Zh 1 GS V rfl Lw Y<|Zl ON Y ?_;refine Zv (Aa G4 Y)<|Zm Y<|Z0<|Zn [0,3,19,20,21] ?_;refine Zx<|AQ<|Zb [21,0,3,19,20] ?_;refine BB (e0:=[(21,_)]) (fun m e H=>∃(i:Nat) (es:Array MapEntry) (ck:Nat) (lm:List ((Int×Int)×Value)),m=cs.length -i/\(i<=cs.length/\Ck K2 es ck lm/\H5 lm (DN rs (cs.take i)))/\e=[(21,I4 (i:Int))]/\H=[[(mb,.map es ck)]]) (by exact ⟨0,es,ck,lm,rfl,⟨C0 _,hm,by rw [Hx];exact hR⟩,rfl,rfl⟩) Wp ?_;rintro _ _ _ ⟨i,gB,gy,l5,rfl,⟨hi,Z,G⟩,rfl,rfl⟩;refine A0<|Zv (Av Y Y)<|A4<|Zq<|Au Y (fun ek=>?_) (fun ek=>?_)
 ·
  obtain ⟨x,hx⟩:∃x,cs[i]?=some x:=⟨_,B4 ek⟩;obtain ⟨g,off,cur,T,zz,rfl,j5,pq,ic⟩:=hg i x hx;have kv:=J.all i x hx
  have X:=uM kv;obtain ⟨gm,j3⟩:=KI hs cO hA.fit i hi;have d9:=j3 i x (CD _) hx
  refine AC<|Zx<|Zq<|AQ<|A0<|BX (Ac G4 C3 Y Y A1)<|CQ (cs:=[(g,.cells cur T zz)]) (by simp [j5]) (AA (cs:=x.A28) Ft C3 Y A1 ic) V rfl ?_;refine Ze (Al LN #[_,_,_,_,_,_,_,_,_,_])<|AD fun cb=>Xe (Xw C3 x.A28) ?_;refine A4<|A0<|Zh 0 B8 V rfl A5 Y<|Zl AE Y ?_;refine Zh 1 B8 V rfl A5 Y<|Zl AE Y ?_;refine Zv (BL (vs:=[(0,_),(1,_)]) (cs:=#[_,_]) Y (AY (pl:=#[(0,1),(1,1)]) zeroValue260 i6 (fun _=>by kernel_rfl) V))<|Ze (Al zeroValue260 #[_,_])<|AD fun kb=>Xe (BK sizeOf260 Y Y (by(simp [Value.oneCell',Value.cells];done)) Wu (by exact (rfl:_=(#[I4 x.t,I4 x.k]:Array Value))) E3 AW (by exact BA _)) ?_;refine A4<|A0<|Zo Wh (AA (cs:=#[_,_,_,_,_,_,_,_,_,_]) Ft C3 Y Ax AN) ?_;refine Xr [_] Y call142 Y V (OT x) ?_;refine Zm Y<|Zd Y V<|Zd Y V<|Ze (Al DS #[_,_,_,_,_])<|AD fun xb=>Xe (Xw An #[I4 (EK x x.has x.n).t,I4 (EK x x.has x.n).k,I4 (EK x x.has x.n).v.a,I4 (EK x x.has x.n).v.b,I4 (EK x x.has x.n).v.c]) ?_;refine AG Y<|Zn [0,3,7,8,9,19,20,21] ?_;refine Zx<|A0<|Zm Y<|A4<|AX Y (fun hh=>?_) (fun hh=>?_)
  ·
   rw [sS hh];refine Az (n:=8) (0::1::3::7::15::0::0::127::[]) 128 A6 A6 V<|A2 0 V (AO Y)<|A2 1 V (Aq Y V)<|A2 2 V (AB (off:=0) cA V rfl dc Y)<|A2 3 V (Ap (off:=0) bm V rfl sizeOf254 Y)<|B3 4 V isAgg254 Y ?_;refine E6 5 V Wh (AA (cs:=#[_,_]) isAgg260 sizeOf260 Y Ax AN) ?_;refine E6 6 V Wh (AA (cs:=#[_,_,_,_,_]) CI An Y Ax AN) ?_;refine Yw 7 255 V (F9 sN i7 Z G.keys (X) Y Y Y Wo) ?_;rintro _ _ ⟨rfl,O,K,I,af,ax,rfl⟩;have U:H5 I (DN rs (cs.take (i+1))):=by rw [EL rs cs i x hx];exact G.put gm d9 hh X ax
   refine Ah<|A8<|Zx<|Zg<|Ya (n:=1) Y Y<|Zm Y<|Z0<|Zn [21,0,3,19,20] ?_;refine Ab (e':=[(21,_)]) (by exact ⟨i+1,O,K,I,V,⟨by omega,af,U⟩,V,V⟩)
  refine Az (n:=7) (0::1::3::7::15::0::63::[]) 64 A6 A6 V<|A2 0 V (AO Y)<|A2 1 V (Aq Y V)<|A2 2 V (AB (off:=0) cA V rfl dc Y)<|A2 3 V (Ap (off:=0) bm V rfl sizeOf254 Y)<|B3 4 V isAgg254 Y ?_;refine E6 5 V Wh (AA (cs:=#[_,_]) isAgg260 sizeOf260 Y Ax AN) ?_;refine Yw 6 127 V (LK sN i7 Z G.keys (X) Y Y Wo) ?_;rintro _ _ ⟨rfl,O,K,I,af,ax,rfl⟩;have U:H5 I (DN rs (cs.take (i+1))):=by rw [EL rs cs i x hx];exact G.drop gm d9 hh ax
  refine Ah<|A8<|Zx<|Zg<|Ya (n:=1) Y Y<|Zm Y<|Z0<|Zn [21,0,3,19,20] ?_;refine Ab (e':=[(21,_)]) (by exact ⟨i+1,O,K,I,V,⟨by omega,af,U⟩,V,V⟩)
 have ei:i=cs.length:=by omega
 subst ei;rw [G0]at G;refine Ay<|Zt<|Zt<|AR<|Zx<|A0<|Zm Y<|Zh 0 GS V rfl A5 Y<|Zl AE Y ?_;refine Zp Y V<|Zh 0 cA V rfl dc Y<|Zv (Ap (off:=1) bm V rfl A5 Y)<|Xe (Zs A5 Y Y V (hc:=by exact (V:_=(#[.map (some mb),I4 rp]:Array Value))) (hi:=by(simp;done))) ?_;refine A4<|A0<|A3 Y<|AJ<|AP V results101 Y (by exact ⟨V,gB,gy,l5,Z,G,V⟩)
theorem q7(q:Option Addr)(cap:Nat)(l:List BU)(M:List A9)(af:EU M (.slice q l.length cap) l)(G:F6 l)(hl:l.length<=1000000)(k:Nat)(hk:k<=l.length):
 BZ prog 49 #[.slice q l.length cap,I4 (k:Int)] [M] (fun r H'=>∃J mb es ck lm,r= .tuple #[I5 J,I4 0]/\Ck K2 es ck lm/\H5 lm (Bd (l.take k))/\H'=[[(J,.cells #[.map (some mb),I4 (k:Int)] 258 (0,0))],[(mb,.map es ck)],M]):=by
 have gB:=mL;obtain ⟨p9,gq,e9,⟨ic,gy⟩,hg⟩:=id af;injection e9 with e91 e92 e93
 subst e91 e93;refine Se func49 ntmps49 [0,1] ?_;intro u R;refine A0<|Za Y<|A3 Y<|Zq<|A0<|Zm Y<|Zv (Av (n:=0) Y Y)<|Zm Y<|Am (t:=11) Y V (fun h1=>?_) (fun h1=>?_)
 ·
  exfalso;(cases h1;done)
 refine Zf Y Y<|Zf Y Y<|Yg (Aa GC Y)<|Yg (DJ Y Y)<|Zv (AL Y Y)<|A4<|Au Y (fun h2=>by omega)<|fun h2=>AC<|Zx<|A0<|Zc [] Y call100 Y V (yf) ?_;rintro _ _ ⟨_,⟨J,mb,rfl,rfl⟩,rfl⟩;refine A3 Y<|Zq<|A0<|Zm Y<|Zm Y<|BX (Bt GC F2 Y Y A1)<|Zv (Aa GC Y)<|Zm Y<|Z0<|Zn [6,20,21,22] ?_;refine Zx<|AQ<|Zb [22,6,20,21] ?_;refine BB (e0:=[(22,_)]) (fun m e H=>∃(i:Nat) (es:Array MapEntry) (ck:Nat) (lm:List ((Int×Int)×Value)),m=k -i/\(i<=k/\Ck K2 es ck lm/\H5 lm (Bd (l.take i)))/\e=[(22,I4 (i:Int))]/\H=[[(J,.cells #[.map (some mb),I4 (i:Int)] 258 (0,0))],[(mb,.map es ck)]]) (by exact ⟨0,#[],0,[],rfl,⟨C0 _,EQ _,by rw [Hx];exact rE⟩,rfl,rfl⟩) Wp ?_;rintro _ _ _ ⟨i,es,ck,lm,rfl,⟨hi,hm,hR⟩,rfl,rfl⟩;refine A0<|Zv (Av Y Y)<|A4<|Zq<|Au Y (fun cu=>?_) (fun cu=>?_)
 ·
  obtain ⟨r,hr⟩:∃r,l[i]?=some r:=⟨_,B4 A1⟩;obtain ⟨U,g,off,cur,T,zz,rfl,d9,j3,ax⟩:=hg i r hr;obtain ⟨hA,h3⟩:=G i r hr;have ek:=hA.pos
  obtain ⟨gm,bn⟩:=G.rows i A1;refine AC<|Zx<|Zq<|AQ<|A0<|BX (Ac GC F2 Y Y A1)<|CQ (cs:=[(g,.cells cur T zz)]) (by simp [d9]) (AA (cs:=#[I4 r.p,.slice r.q r.cs.length r.cap]) HW F2 Y A1 ax) V rfl ?_;refine Ze (Al Sx #[_,_])<|AD fun rb=>Xe (Xw F2 #[I4 r.p,.slice r.q r.cs.length r.cap]) ?_;refine A4<|A0<|Zm Y<|Zo Wh (AA (cs:=#[_,_]) HW F2 Y Ax AN) ?_;refine Zc [_,_] Y call101 Y V (oN J mb (i:Int) r.p es ck lm (Bd (l.take i)) M r.q r.cap r.cs hm hR U gm bn hA) ?_;rintro _ _ ⟨_,⟨rfl,O,K,I,cO,X,rfl⟩,rfl⟩;have Z:H5 I (Bd (l.take (i+1))):=by rw [PF,hr];show H5 I (Bd (l.take i++[r]));rw [Gf];exact X
  rw [show r.p=((i+1:Nat):Int) by rw [ek];rfl];refine Zv (FR (n:=0) Y Y)<|A4<|Au Y (fun h4=>?_) (fun h4=>?_)
  ·
   exfalso;exact h4 rfl
  refine AC<|A8<|Zx<|Zg<|Ya (n:=1) Y Y<|Zm Y<|Z0<|Zn [22,6,20,21] ?_;refine Ab (e':=[(22,_)]) (by exact ⟨i+1,O,K,I,V,⟨by omega,cO,Z⟩,V,V⟩)
 have ei:i=k:=by omega
 subst ei;refine Ay<|Zt<|Zt<|AR<|Zx<|A0<|Zm Y<|Za Y<|A3 Y<|AJ<|Cy V results49 Y Y (by exact ⟨J,mb,es,ck,lm,V,hm,hR,V⟩)
def Df(r:AU)(c:Nat):Int:=if c=0 then r.k else if c=1 then r.v.a else if c=2 then r.v.b else r.v.c
def dV(c:Nat)(out:List AU)(v:Int):Nat:=(out.reverse.dropWhile (fun r=>decide (v<Df r c))).length
def ZT(c:Nat)(out:List AU)(x:AU):List AU:=out.take (dV c out (Df x c))++[x]++out.drop (dV c out (Df x c))
def inR(t:Int)(c:Nat)(lo hi:Int)(r:AU):Bool:=decide (r.t=t/\lo<=Df r c/\Df r c<=hi)
def Dq(rs:List AU)(t:Int)(c:Nat)(lo hi:Int):List AU:=(rs.filter (inR t c lo hi)).foldl (ZT c) []
end Go.Proofs.YteaiajghbkenoaaGreatDoor
namespace Go.Proofs.YteaiajghbkenoaaGreatDoor
open Go.Proofs.Tryz
open Go Go.RowKit Gw
set_option maxRecDepth 100000
attribute [local irreducible] Gw.At Gw.Nx Gw.Ops
open Go.Sort
def Bl(r:AU)(c:Int):Int:=if c=0 then r.k else if c=1 then r.v.a else if c=2 then r.v.b else if c=3 then r.v.c else 0
set_option maxHeartbeats 1000000 in
theorem JS(r:AU)(c:Int)(hc:0<=c/\c<=3)(W:World):Calls prog 140 #[.agg r.A29,I4 c] W fun e g=>e= .returned (I4 (Bl r c))/\∃(q:Nat) (o:Obj),g=grow (W.drewN q) #[o]:=by
 obtain ⟨t,k,⟨m,G,I⟩⟩:=r;rcases (by omega:c=0\/c=1\/c=2\/c=3)with rfl|rfl|rfl|rfl
 all_goals
  go_enter func140,ntmps140
  go_wp2
  go_ret
  exact ⟨rfl,0,_,by rw [alloc_eq_grow];rfl⟩
def orL(x y:Int):Int:=if x=0 then y else x
theorem qY(b:Nat)(x y:Int)(W:World)(h0:W.cell? ⟨b,0,none⟩=some (I4 x))(K:W.cell? ⟨b,1,none⟩=some (I4 y)):Calls prog 237 #[I6 b 2 2] W fun e J=>e= .returned (I4 (orL x y))/\J=W:=by
 generalize hz:orL x y=z;have m:=Lib.hid hz
 clear hz
 go_enter func237,ntmps237
 go_wp2
 go_loop [5,8] (fun _ i=>∃(j:Nat),i=I4 j/\(j=0\/(j=1/\x=0)\/(j=2/\x=0/\y=0))) (fun _ i=>2 -(intOf i).toNat)
 case atStart=>exact ⟨0,rfl,.inl rfl⟩
 case round=>
  obtain ⟨j,rfl,I⟩:=hrel;rcases I with rfl|⟨rfl,g⟩|⟨rfl,g,G⟩
  · by_cases g:x=0
    · subst g
      go_wp2
      go_round
      case rel=>exact ⟨1,by go_num,by simp⟩
      case measure=>simp [intOf]
    · go_wp2
      go_ret
      exact ⟨by rw [<-m.out];unfold orL;rw [AK g];rfl,rfl⟩
  · subst g
    by_cases G:y=0
    · subst G
      go_wp2
      go_round
      case rel=>exact ⟨2,by go_num,by simp⟩
      case measure=>simp [intOf]
    · go_wp2
      go_ret
      exact ⟨by rw [<-m.out];unfold orL;rw [AM rfl];rfl,rfl⟩
  · subst g G
    go_wp2
    go_ret
    exact ⟨by rw [<-m.out];rfl,rfl⟩
theorem Ry{u w:World}{H:Hp}(h:Sat u H w)(q:Nat)(os:Array Obj):Sat u H (grow (w.drewN q) os):=by
 refine ⟨h.os,h.tape,h.output,h.nodup,fun p m=>?_⟩;have g:=h.lt m
 show(w.heap++os)[p.1]?=_;rw [dt g];exact h.get p m
theorem LM(r:AU)(c:Nat)(hc:c<=3):Bl r (c:Int)=Df r c:=by
 rcases (by omega:c=0\/c=1\/c=2\/c=3)with rfl|rfl|rfl|rfl<;>rfl
theorem OQ(r:AU)(c:Nat)(hc:c<=3):BI prog 140 #[.agg r.A29,I4 (c:Int)] [] (I4 (Df r c)):=fun u R w g=>
 (JS r (c:Int) A1 w).mono (by
   rintro e m ⟨rfl,q,o,rfl⟩;exact .inl ⟨_,[],rfl,⟨by rw [LM r c hc],rfl⟩,Ry g q _⟩)
theorem pQ(r:AU)(t:Int)(c:Nat)(lo hi:Int)(hc:c<=3)(g m G I:Nat):BI prog 180 #[.agg r.A29,I5 g,I5 m,I5 G,I5 I] [[(g,.cells #[I4 (c:Int)] 3 (0,0))],[(m,.cells #[I4 t] 3 (0,0))],[(G,.cells #[I4 lo] 3 (0,0))],[(I,.cells #[I4 hi] 3 (0,0))]] (.bool (inR t c lo hi r)):=by
 refine Se func180 ntmps180 [0,1,2,3,4] ?_;intro u R;refine A0<|Ze (Bx #[_,_,_,_,_])<|AD fun g=>A3 Y<|A0<|Zo Wh (Pa #[_,_,_,_,_] CI An Y) ?_;refine Zl AE Y ?_;refine Xr [_,_] Y S8 Y V (OQ r c hc) ?_;refine A3 Y<|A0<|Zh 0 FG V rfl A5 Y<|Zl AE Y ?_;refine Zl AE Y ?_;refine Zv (CP Y Y)<|Zm Y<|Am (t:=15) Y V (fun J=>?_) (fun J=>?_)
 ·
  refine Zf Y Y<|Yl AE Y ?_;refine Yg (H9 Y Y)<|Zv (AV Y Y)<|Zm Y<|Am (t:=20) Y V (fun h2=>?_) (fun h2=>?_)
  ·
   refine Zf Y Y<|Yl AE Y ?_;refine Yg (NC Y Y)<|Zv (AV Y Y)<|AG Y<|Zn [6] ?_;refine Zx<|AJ<|AP V results180 Y (by exact ⟨by unfold inR;(simp_all;done),V⟩)
  refine A7 Y V<|A7 Y V<|A7 Y V<|Zv (AL Y Y)<|AG Y<|Zn [6] ?_;refine Zx<|AJ<|AP V results180 Y (by exact ⟨by unfold inR;(congr 1;simp;omega),V⟩)
 repeat first|refine A7 Y rfl ?_|refine Zv (AL Y Y)<|Zm Y ?_
 refine Zv (AL Y Y)<|AG Y<|Zn [6] ?_;refine Zx<|AJ<|AP V results180 Y (by exact ⟨by unfold inR;(simp_all;done),V⟩)
end Go.Proofs.YteaiajghbkenoaaGreatDoor
namespace Go.Proofs.YteaiajghbkenoaaGreatDoor
open Go.Proofs.Tryz
open Go Go.RowKit Gw
set_option maxRecDepth 100000
attribute [local irreducible] Gw.At Gw.Nx Gw.Ops
theorem F4:∀(n:Nat) (js:List Nat),js.Nodup->(∀j∈js,j<n)->js.length<=n
 |0,js,_,h=>by
  cases js with
  |nil=>simp
  |cons a l=>exact absurd (h a B0) (eI _)
 |n+1,js,hn,h=>by
  by_cases G:n∈js
  · have m:=F4 n (js.erase n) (hn.erase n) (fun j g=>by
     have h2:=(hn.mem_erase_iff).1 g;have I:=h j h2.2
     have J:=h2.1;omega)
    rw [mS G]at m;omega
  · have m:=F4 n js hn (fun j g=>by
     have I:=h j g;have J:j≠n:=fun e=>G (e▸g)
     omega)
    omega
def Jb(r:AU):(Int×Int)×Value:=((r.t,r.k),SH r)
theorem MW{a b:AU}(h:Jb a=Jb b):a=b:=YO (Prod.mk.inj h).2
theorem dX{a b:List AU}(J:(a.map Jb).Nodup)(h:(a.map Jb).Perm (b.map Jb)):a.Perm b:=by
 have K:∀{l:List AU},(l.map Jb).Nodup->l.Nodup:=fun{l} hl=>by
  rw [Wk,T7]at hl;rw [Wk];exact hl.imp (fun m e=>m (by rw [e]))
 rw [OR (K J) (K (h.nodup J))];intro x;have g:=h.mem_iff (a:=Jb x)
 rw [Bk,Bk]at g;constructor
 · intro G
   obtain ⟨y,I,e⟩:=g.1 ⟨x,G,rfl⟩;rwa [MW e]at I
 · intro G
   obtain ⟨y,I,e⟩:=g.2 ⟨x,G,rfl⟩;rwa [MW e]at I
variable{rs:List AU}
theorem H5.perm{es:Array MapEntry}{ck:Nat}{l:List ((Int×Int)×Value)}(I:Ck K2 es ck l)(h:H5 l rs)(J:BP rs):l.Perm (rs.map Jb):=by
 have G:l.Nodup:=by
  have:=I.keys;rw [Wk,T7]at this;rw [Wk];exact this.imp (fun g e=>g (by rw [e]))
 have h2:(rs.map Jb).Nodup:=by
  rw [Wk,T7];refine J.imp (fun{a b} hab e=>?_);have e2:=MW e
  subst e2;unfold AU.lt2 at hab;omega
 rw [OR G h2];intro p;rw [h.mem p,Bk];constructor
 · rintro ⟨r,m,rfl⟩;exact ⟨r,m,rfl⟩
 · rintro ⟨r,m,rfl⟩;exact ⟨r,m,rfl⟩
structure Xp(lm:List ((Int×Int)×Value))(f:AU->Bool)(js:List Nat)(o:List AU):Prop where
 rows:∃rl:List AU,rl.map Jb=DR lm js/\o=rl.filter f
theorem oU(lm:List ((Int×Int)×Value))(f:AU->Bool):Xp lm f [] []:=⟨[],rfl,rfl⟩
theorem Xp.push{lm:List ((Int×Int)×Value)}{rs:List AU}{f:AU->Bool}{js:List Nat}{o:List AU}(h:Xp lm f js o){j:Nat}{r:AU}(m:lm[j]?=some (Jb r)):Xp lm f (js++[j]) (o++(if f r then [r]else [])):=by
 obtain ⟨rl,g,h2⟩:=h.rows;refine ⟨rl++[r],by rw [Bm,g,Fv lm js m];rfl,?_⟩;rw [Hh,<-h2];cases hf:f r<;>simp [hf]
theorem Xp.done{es:Array MapEntry}{ck:Nat}{lm:List ((Int×Int)×Value)}(K:Ck K2 es ck lm)(J:H5 lm rs)(m:BP rs){f:AU->Bool}{js:List Nat}{o:List AU}(h:Xp lm f js o)(O:(DR lm js).Perm lm):o.Perm (rs.filter f):=by
 obtain ⟨rl,G,rfl⟩:=h.rows;have h2:=J.perm K m
 have g:(rl.map Jb).Perm (rs.map Jb):=by rw [G];exact O.trans h2
 have I:(rs.map Jb).Nodup:=by
  rw [Wk,T7];refine m.imp (fun{a b} hab e=>?_);have e2:=MW e
  subst e2;unfold AU.lt2 at hab;omega
 exact (dX (g.symm.nodup I) g).filter f
def leV(c:Nat)(a b:AU):Prop:=Df a c<Df b c\/Df a c=Df b c/\a.k<=b.k
def ul:Prop:=∀(cb c:Nat) (w:Value) (o:List AU) (s:List A9),c<=3->o.length<=2000->Bb 5 83 w o.length (Af o) s->
    BZ prog 235 #[w,.func (.func 236) #[] #[I5 cb]] [s,[(cb,.cells #[I4 (c:Int)] 3 (0,0))]]
     (fun r H'=>r= .tuple #[]/\∃(s':List A9) (o':List AU),o'.Perm o/\o'.Pairwise (leV c)/\Bb 5 83 w o'.length (Af o') s'/\H'=[s',[(cb,.cells #[I4 (c:Int)] 3 (0,0))]])
theorem Xd(hS:ul)(sp mb:Nat)(p:Int)(es:Array MapEntry)(ck:Nat)(lm:List ((Int×Int)×Value))(rs:List AU)(hm:Ck K2 es ck lm)(hR:H5 lm rs)(hs:BP rs)(hn:rs.length<=2000)(t:Int)(c:Nat)(lo hi:Int)(hc:c<=3)(b1 b2 b3 b4:Nat):
 BZ prog 179 #[I5 sp,I4 (c:Int),.func (.func 180) #[] #[I5 b1,I5 b2,I5 b3,I5 b4]] [[(sp,.cells #[.map (some mb),I4 p] 258 (0,0))],[(mb,.map es ck)],[(b1,.cells #[I4 (c:Int)] 3 (0,0))],[(b2,.cells #[I4 t] 3 (0,0))],[(b3,.cells #[I4 lo] 3 (0,0))],[(b4,.cells #[I4 hi] 3 (0,0))]] (fun r H'=>∃(J:List A9) (o:List AU),Bb 5 83 r o.length (Af o) J/\o.Perm (rs.filter (inR t c lo hi))/\o.Pairwise (leV c)/\H'=[J,[(sp,.cells #[.map (some mb),I4 p] 258 (0,0))],[(mb,.map es ck)],[(b1,.cells #[I4 (c:Int)] 3 (0,0))],[(b2,.cells #[I4 t] 3 (0,0))],[(b3,.cells #[I4 lo] 3 (0,0))],[(b4,.cells #[I4 hi] 3 (0,0))]]):=by
 have kv:=mL;have j5:=hR.len hm hs
 refine Se func179 ntmps179 [0,1,2] ?_;intro u R;refine A0<|Ze (Bx #[_])<|AD fun cb=>A3 Y<|Zq<|A0<|Zm Y<|Zv (Be lO Y Y)<|A4<|AX Y (fun h1=>by cases h1)<|fun h1=>AC<|Zx<|A0<|A3 Y<|Zq<|A0<|Zm Y<|Zp Y V<|Zh 0 cA V rfl dc Y<|Zv (Ap (off:=0) bm V rfl sizeOf254 Y)<|Zl isAgg254 Y ?_;refine Ze (NL i7 Y Wh)<|AD fun ib=>A4<|AQ<|BV<|Zb [7,2,4,17] ?_;refine BB (e0:=[(7,_)]) (fun m e H=>∃(js:List Nat) (seen:Array Nat) (o:List AU) (w:Value) (J:List A9),m=lm.length -js.length/\(Im es js seen/\Xp lm (inR t c lo hi) js o/\Bb 5 83 w o.length (Af o) J/\o.length<=js.length)/\e=[(7,w)]/\H=[[(ib,.mapIter (some mb) ck seen ck)],J]) (by exact ⟨[],#[],[],.slice none 0 0,[],V,⟨KG _,oU _ _,Bf 5 _,CD _⟩,V,V⟩) Wp ?_;rintro _ _ _ ⟨js,seen,o,w,J,rfl,⟨U,cu,G,l5⟩,rfl,rfl⟩;obtain ⟨qo,gy,rfl⟩:=G.form;have cO:=F4 es.size js U.nodup U.lt
 rw [hm.size]at cO;refine A0<|Ze (PZ hm U Y Wo Wh) ?_;rintro _ _ d9;rcases d9 with⟨K,rfl,rfl⟩|⟨jn,pn,seen2,hpn,hjn,hi2,rfl,rfl⟩
 ·
  refine Zd Y V<|A4<|Zq<|AX Y (fun hb=>by cases hb)<|fun hb=>Ay<|Zt<|Zt<|AR<|Zx<|A0<|Zm Y<|Zv (Bg (vs:=[]) (us:=[_]) Y Y)<|Zc [_,_] Y call235 Y V (hS cb c _ o J hc A1 G) ?_;rintro _ _ ⟨_,⟨rfl,gq,o2,ek,gm,bn,rfl⟩,rfl⟩;refine A4<|A0<|Zm Y<|A3 Y<|AJ<|AP V results179 Y (by exact ⟨gq,o2,bn,ek.trans (cu.done hm hR hs K),gm,V⟩)
 obtain ⟨r,hr,rfl⟩:=(hR.mem pn).1 (DE hpn);refine Zd Y V<|A4<|Zq<|AX Y (fun hb=>?_) (fun hb=>?_)
 ·
  have af:=F4 es.size (js++[jn]) hi2.nodup hi2.lt;rw [hm.size,B7,E7]at af;have j3:(js++[jn]).length=js.length+1:=by rw [B7];rfl
  have g:=cu.push (r:=r) (rs:=rs) hpn;have Z:(inR t c lo hi) r=true->Xp lm (inR t c lo hi) (js++[jn]) (o++[r]):=fun h=>by rw [h]at g;exact g
  have X:(inR t c lo hi) r=false->Xp lm (inR t c lo hi) (js++[jn]) o:=fun h=>by rw [h]at g;simpa using g
  refine AC<|Zx<|AQ<|A0<|CQ (cs:=[(ib,.mapIter (some mb) ck seen2 ck),(mb,.map es ck)]) B0 (JA hm hi2 hpn Y) V rfl ?_;refine Zd Y V<|Ze (Al DS #[_,_,_,_,_])<|AD fun xb=>Xe (Xw An r.A29) ?_;refine A4<|A0<|Zm Y<|Zo Wh (Pa #[_,_,_,_,_] CI An Y) ?_;refine Xr [_] Y call180 Y V (pQ r t c lo hi hc b1 b2 b3 b4) ?_;refine A4<|AX Y (fun O=>?_) (fun O=>?_)
  ·
   refine Zg<|Zm Y<|Zo Wh (Pa #[_,_,_,_,_] CI An Y) ?_;refine Ze (Aj (vs:=[_]) (cs:=[_,_,_,_,_]) B6 An DS Y V rfl V rfl V)<|AD fun gb=>Ze (BR (by_:=40) (sz:=5) B6 (V:Tryz.prog.info? 83=some Tryz.t83) V rfl V rfl Y (G) Y (DC 5 gb 1 1 83 (0,0) [I4 r.t,I4 r.k,I4 r.v.a,I4 r.v.b,I4 r.v.c] V) Wo Wo Fl A1 A1) ?_;rintro _ _ ⟨l8,I,rfl⟩;have ax:=BS I (n':=(o++[r]).length) (xs':=Af (o++[r])) (by rw [B7];rfl) (by rw [Bh];rfl)
   obtain ⟨ic,gB,rfl⟩:=I.form;refine AG Y<|Zn [2,4,7,17] ?_;refine A8<|Zn [7,2,4,17] ?_;refine Ab (e':=[(7,_)]) (by exact ⟨js++[jn],seen2,o++[r],_,_,rfl,⟨hi2,Z O,ax,by rw [B7,B7];simp;omega⟩,rfl,rfl⟩)
  refine AC<|A8<|Zn [7,2,4,17] ?_;refine Ab (e':=[(7,_)]) (by exact ⟨js++[jn],seen2,o,_,J,rfl,⟨hi2,X O,G,by rw [B7];omega⟩,rfl,rfl⟩)
 cases hb
end Go.Proofs.YteaiajghbkenoaaGreatDoor
namespace Go.Proofs
open Go.Shelf
def Tryz.sortRow_ren:Go.Shelf.Ren:=⟨fun|6=>235|15=>117|14=>280|28=>199|29=>200|20=>308|21=>309|22=>310|23=>311|24=>312|25=>313|26=>314|27=>315|46=>335|47=>250|48=>251|49=>336|50=>337|57=>346|n=>n,fun|22=>51|24=>83|25=>336|3=>3|39=>222|0=>0|53=>300|55=>302|4=>4|46=>292|45=>291|50=>297|5=>5|9=>9|66=>348|70=>108|76=>385|77=>386|n=>n,fun|n=>n⟩
theorem Tryz.sortRow:Go.Proofs.SlLaysF0.n6 prog Tryz.sortRow_ren:={
 mixed:=by kernel_rfl
 f6:=⟨Tryz.f235.name,by decide,func235.trans (congrArg some A6)⟩
 f14:=⟨Tryz.f280.name,by decide,func280.trans (congrArg some A6)⟩
 f15:=func117.trans (congrArg some A6)
 f20:=⟨Tryz.f308.name,by decide,func308.trans (congrArg some A6)⟩
 f21:=⟨Tryz.f309.name,by decide,func309.trans (congrArg some A6)⟩
 f22:=⟨Tryz.f310.name,by decide,func310.trans (congrArg some A6)⟩
 f23:=⟨Tryz.f311.name,by decide,func311.trans (congrArg some A6)⟩
 f24:=⟨Tryz.f312.name,by decide,func312.trans (congrArg some A6)⟩
 f25:=⟨Tryz.f313.name,by decide,func313.trans (congrArg some A6)⟩
 f26:=⟨Tryz.f314.name,by decide,func314.trans (congrArg some A6)⟩
 f27:=⟨Tryz.f315.name,by decide,func315.trans (congrArg some A6)⟩
 f28:=func199.trans (congrArg some A6)
 f29:=func200.trans (congrArg some A6)
 f46:=⟨Tryz.f335.name,by decide,func335.trans (congrArg some A6)⟩
 f47:=func250.trans (congrArg some A6)
 f48:=func251.trans (congrArg some A6)
 f49:=⟨Tryz.f336.name,by decide,func336.trans (congrArg some A6)⟩
 f50:=⟨Tryz.f337.name,by decide,func337.trans (congrArg some A6)⟩
 f57:=⟨Tryz.f346.name,by decide,func346.trans (congrArg some A6)⟩
 t0:=cY
 a0:=isAgg0
 z0:=sizeOf0
 v0:=cn
 t3:=Cp
 a3:=AE
 z3:=A5
 v3:=H3
 t4:=NO
 a4:=E0
 z4:=CH
 v4:=V0
 t5:=Lq
 a5:=V1
 z5:=I2
 v5:=S5
 t9:=GF
 a9:=HB
 z9:=F1
 v9:=HQ
 t22:=B6
 a22:=FA
 z22:=C6
 v22:=zeroValue51
 t25:=underlying336
 a25:=isAgg336
 z25:=sizeOf336
 v25:=zeroValue336
 t39:=W4
 a39:=isAgg222
 z39:=fL
 v39:=eh
 t45:=kx
 a45:=isAgg291
 z45:=sizeOf291
 v45:=lf
 t46:=l3
 a46:=isAgg292
 z46:=sizeOf292
 v46:=lj
 t50:=kq
 a50:=isAgg297
 z50:=sizeOf297
 v50:=lR
 t53:=Sp
 a53:=HR
 z53:=Fc
 v53:=el
 t55:=W5
 a55:=a6
 z55:=db
 v55:=en
 t66:=l4
 a66:=isAgg348
 z66:=sizeOf348
 v66:=ln
 t70:=lA
 a70:=isAgg108
 z70:=T0
 v70:=WD
 t76:=lB
 a76:=isAgg385
 z76:=sizeOf385
 v76:=lr
 t77:=lE
 a77:=isAgg386
 z77:=sizeOf386
 v77:=lx}
end Go.Proofs
namespace Go.Proofs.YteaiajghbkenoaaGreatDoor
open Go.Proofs.Tryz
open Go Go.RowKit Gw
set_option maxRecDepth 100000
attribute [local irreducible] Gw.At Gw.Nx Gw.Ops
open Go.Sort Go.Shelf
attribute [local go_sem] Gl.evalE Gl.lookE Gl.linUpon Gl.wantedE Gl.yieldE Gl.putE
def nJ(c:Nat)(a b:AU):Int:=orL (Lib.compareInt (Bl a (c:Int)) (Bl b (c:Int))) (Lib.compareInt a.k b.k)
def Stg(W:World)(n:Nat)(w:World):Prop:=∃q os,os.size=n/\w=grow (W.drewN q) os
theorem vW(W:World):Stg W 0 W:=⟨0,#[],rfl,by simp [World.drewN]⟩
variable{w W:World}{n:Nat}
theorem oM(h:Stg W n w):Stg W n w.drew:=by
 obtain ⟨q,os,rfl,rfl⟩:=h;exact ⟨q+1,os,V,V⟩
theorem OG(h:Stg W n w)(m:Nat)(g:Array Obj):Stg W (n+g.size) (grow (w.drewN m) g):=by
 obtain ⟨q,os,rfl,rfl⟩:=h;refine ⟨q+m,os++g,by simp,?_⟩;simp [grow,World.drewN,Array.append_assoc,eK]
theorem IL{b:Nat}{o:Obj}(h:Stg W n w)(m:W.heap[b]?=some o):w.heap[b]?=some o:=by
 obtain ⟨q,os,rfl,rfl⟩:=h;have g:=(HK.1 m).1
 show(W.heap++os)[b]?=_;rw [dt g];exact m
theorem oL(h:Stg W n w):w.heap.size=W.heap.size+n:=by
 obtain ⟨q,os,rfl,rfl⟩:=h;show(W.heap++os).size=_
 simp
theorem QQ(w:World)(o:Obj):(w.alloc o).heap[w.heap.size]?=some o:=by
 show(w.heap.push o)[w.heap.size]?=some o;exact Array.getElem?_push_size
theorem gZ(w:World)(o:Obj):(w.alloc o).heap.size=w.heap.size+1:=Array.size_push _
def tA:Nat->Nat
 |0=>0|1=>1|2=>2|3=>2|4=>2|5=>3|_=>3
def tw(W:World)(T:Nat)(x y:Int)(k:Nat)(w:World):Prop:=Stg W (tA k) w/\(5<=k->w.heap[W.heap.size+2]?=some (.cells #[I4 x,I4 y] T (0,0)))
set_option maxHeartbeats 2000000 in
theorem nI(a b:AU)(c:Nat)(hc:c<=3)(cb:Nat)(W:World)(af:W.heap[cb]?=some (.cells #[I4 (c:Int)] 3 (0,0))):Calls prog 236 #[.agg a.A29,.agg b.A29,I5 cb] W fun e U=>e= .returned (I4 (nJ c a b))/\∃q O,U=grow (W.drewN q) O:=by
 have bn:=(HK.1 af).1
 go_enter func236,ntmps236
 go_wp2
 generalize hW2:(W.alloc _).alloc _=W2;have Z:Stg W 2 W2:=by
  rw [<-hW2,alloc_eq_grow,alloc_eq_grow,grow_grow];exact ⟨0,_,V,V⟩
 have ax:Stg (W.alloc (.cells a.A29 83 (0,0))) 1 W2:=by
  rw [<-hW2,alloc_eq_grow _ (.cells b.A29 83 (0,0))];exact ⟨0,_,V,V⟩
 have hA:=IL ax (QQ _ _);have hB:W2.heap[W.heap.size+1]?=some (.cells b.A29 83 (0,0)):=by
  rw [<-hW2,<-gZ W (.cells a.A29 83 (0,0))];exact QQ _ _
 have hC:=IL Z af;refine Gl.wp_region_lin [false,false,true,false,false,true,true,false,false,false,false,true,true,true,false] (tw W2 3 (Lib.compareInt (Bl a (c:Int)) (Bl b (c:Int))) (Lib.compareInt a.k b.k)) 20 V A6 A6 ⟨oM (vW W2),fun h=>absurd h AW⟩ ?_;intro fr J;have X:=Lib.hid J
 have e2:fr.tmps.getD 2 undef=I5 cb:=by rw [J];rfl
 have e3:fr.tmps.getD 3 undef= .pointer (some ⟨W.heap.size,0,none⟩):=by rw [J];rfl
 have e4:fr.tmps.getD 4 undef= .pointer (some ⟨W.heap.size+1,0,none⟩):=by rw [J];rfl
 clear J;apply Gl.wpLin_keep
 · intro j G g K m
   have I:=IL g.1 hA;have c0:=Ci (i:=0) I rfl
   have c1:=Ci (i:=1) I rfl;have c2:=Ci (i:=2) I rfl
   have c3:=Ci (i:=3) I rfl;have c4:=Ci (i:=4) I rfl
   go_simp
   exact m _ g
 apply Gl.wpLin_keep
 · intro j G g K m
   have c0:=Ci (i:=0) (IL g.1 hC) rfl
   go_simp
   exact m _ g
 apply Gl.wpLin_move
 · intro G g K m
   go_simp
   exact (JS a (c:Int) A1 _).mono (by
    rintro e U ⟨rfl,q,o,rfl⟩;exact ⟨_,V,m _ ⟨OG g.1 q #[o],fun h=>absurd h AW⟩⟩)
 apply Gl.wpLin_keep
 · intro j G g K m
   have I:=IL g.1 hB;have c0:=Ci (i:=0) I rfl
   have c1:=Ci (i:=1) I rfl;have c2:=Ci (i:=2) I rfl
   have c3:=Ci (i:=3) I rfl;have c4:=Ci (i:=4) I rfl
   go_simp
   exact m _ g
 apply Gl.wpLin_keep
 · intro j G g K m
   have c0:=Ci (i:=0) (IL g.1 hC) rfl
   go_simp
   exact m _ g
 apply Gl.wpLin_move
 · intro G g K m
   go_simp
   exact (JS b (c:Int) A1 _).mono (by
    rintro e U ⟨rfl,q,o,rfl⟩;exact ⟨_,V,m _ ⟨OG g.1 q #[o],fun h=>absurd h AW⟩⟩)
 apply Gl.wpLin_move
 · intro G g K m
   go_simp
   exact (Tryz.cmp_Compare_int _ _ _).mono (by
    rintro e U ⟨rfl,rfl⟩;exact ⟨_,V,m _ ⟨g.1,fun h=>absurd h AW⟩⟩)
 apply Gl.wpLin_keep
 · intro j G g K m
   go_simp
   exact m _ g
 apply Gl.wpLin_keep
 · intro j G g K m
   have c1:=Ci (i:=1) (IL g.1 hA) rfl
   go_simp
   exact m _ g
 apply Gl.wpLin_keep
 · intro j G g K m
   go_simp
   exact m _ g
 apply Gl.wpLin_keep
 · intro j G g K m
   have c1:=Ci (i:=1) (IL g.1 hB) rfl
   go_simp
   exact m _ g
 apply Gl.wpLin_move
 · intro G g K m
   go_simp
   exact (Tryz.cmp_Compare_int _ _ _).mono (by
    rintro e U ⟨rfl,rfl⟩;exact ⟨_,V,m _ ⟨g.1,fun h=>absurd h AW⟩⟩)
 apply Gl.wpLin_move (v:= .slice (some ⟨W2.heap.size+2,0,none⟩) 2 2)
 · intro G g K m
   have hz:=oL g.1;change G.heap.size=W2.heap.size+2 at hz
   go_simp
   have h:=m _ ⟨OG g.1 0 #[.cells #[I4 (Lib.compareInt (Bl a (c:Int)) (Bl b (c:Int))),I4 (Lib.compareInt a.k b.k)] 3 (0,0)],fun _=>?_⟩
   · rw [alloc_eq_grow]
     exact h
   · rw [<-hz]
     exact QQ G _
 apply Gl.wpLin_move
 · intro G g K m
   have I:=g.2 AW
   go_simp
   exact (qY _ _ _ _ (Ci (i:=0) I V) (Ci (i:=1) I V)).mono (by
    rintro e U ⟨rfl,rfl⟩;exact ⟨_,V,m _ ⟨g.1,fun _=>I⟩⟩)
 apply Gl.wpLin_keep
 · intro j G g K m
   go_simp
   exact m _ g
 apply Gl.wpLin_done;intro wz hz;rw [X.out];simp only [Gl.putE,Gl.putsE,Act.put,mN,List.set_cons_zero,List.set_cons_succ];obtain ⟨⟨q,os,-,rfl⟩,-⟩:=hz;clear X
 go_wp2
 go_ret
 obtain ⟨q',O,-,h⟩:=OG Z q os;exact ⟨V,q',O,h⟩
end Go.Proofs.YteaiajghbkenoaaGreatDoor
namespace Go.Proofs.YteaiajghbkenoaaGreatDoor
open Go.Proofs.Tryz
open Go Go.RowKit Gw
set_option maxRecDepth 100000
attribute [local irreducible] Gw.At Gw.Nx Gw.Ops
open Go.Sort Go.Shelf
instance:Inhabited AU:=⟨⟨0,0,⟨0,0,0⟩⟩⟩
def Tw(r:AU):List Value:=[I4 r.t,I4 r.k,I4 r.v.a,I4 r.v.b,I4 r.v.c]
theorem ltR(c:Nat)(a b:AU):ltOf (nJ c) a b=decide (Bl a (c:Int)<Bl b (c:Int)\/Bl a (c:Int)=Bl b (c:Int)/\a.k<b.k):=by
 unfold ltOf nJ orL Lib.compareInt;have g:=Int.lt_trichotomy (Bl a (c:Int)) (Bl b (c:Int))
 have h2:=Int.lt_trichotomy a.k b.k;generalize Bl a (c:Int)=x at*;generalize Bl b (c:Int)=y at*;apply decide_eq_decide.2;split<;>split<;>(try split)<;>(try split)<;>omega
theorem sn(c:Nat):SWO (ltOf (nJ c))where
 irrefl x:=by rw [ltR];simp
 trans x y z h1 h2:=by rw [ltR]at*;simp only [G1]at*;omega
 ntrans x y z h1 h2:=by rw [ltR]at*;simp only [N0]at*;omega
theorem vY:ul:=by
 intro I c w o s hc hn ic;obtain ⟨j5,⟨rfl,h0,rfl⟩|⟨g,cap,cur,z,rfl,rfl,gq,d9,U,j3,bn⟩⟩:=ic
 · intro u R X O
   have ho:o=[]:=LO h0;subst ho;have hN:=AnyF.slices_SortFunc_none Tryz.sortRow none 0 (.func (.func 236) #[] #[I5 I]) X
   exact hN.mono (by
    rintro e w' ⟨rfl,rfl⟩;exact .inl ⟨_,_,V,⟨V,[],[],.refl _,.nil,Bf _ _,V⟩,O⟩)
 · intro u R X O
   have hb:=O.get (g,.cells cur 83 z) B0;have cO:=O.get (I,.cells #[I4 (c:Int)] 3 (0,0)) B0
   have gB:g≠I:=by
    have:=O.nodup;simp at this;exact this.1.1
   have hH:=TZ (w:=X) (g:=g) (cur:=cur) (e:=83) (z:=z) Tw 5 (fun _=>rfl) o hb (by rw [U];omega) bn j3;have eg:∀(args:Array Value) (w:World),(callFunc 236 args).run prog w= .ok (.enter 236 args) w:=enters_of func236 A6 rfl
   have af:CmpLays prog 236 #[I5 I] Tw 5 (nJ c) g 0 o.toArray.size X:=by
    intro m os dk kv x y;refine nI x y c hc I _ ?_;have gy:=O.lt (p:=(I,.cells #[I4 (c:Int)] 3 (0,0))) B0
    rw [Pi Tw 5 X g m I dk os gB gy];exact cO
   have ax:=AnyQ.slices_SortFunc Tryz.sortRow 5 CI An Tw (fun _=>rfl) (fun x v hv=>by simp [Tw]at hv;rcases hv with rfl|rfl|rfl|rfl|rfl<;>rfl) (nJ c) (sn c) 236 #[I5 I] g 0 cap o.toArray X eg af hH (O.lt (p:=(g,.cells cur 83 z)) B0) HS;refine ax.mono ?_;rintro e w' ⟨rfl,G,n,os,⟨ek,-,hpm⟩,hso,rfl⟩;have J:G.size=o.length:=by simpa using ek
   have hF:(flatK Tw 5 G).toList=Af G.toList:=Nn Tw 5 (fun _=>rfl) G.toList;have Z:(flatK Tw 5 G).size=o.length*5:=by rw [size_flatK,J]
   have K:G.toList.Perm o:=by
    have e1:G.extract 0 o.toArray.size=G:=by
     rw [show o.toArray.size=G.size by rw [J];simp];exact Array.extract_size
    rw [e1]at hpm;simpa using hpm
   have cu:G.toList.length=o.length:=K.length_eq;refine .inl ⟨_,[[(g,.cells (putCells id 0 (flatK Tw 5 G) cur) 83 z)],[(I,.cells #[I4 (c:Int)] 3 (0,0))]],V,⟨V,_,G.toList,K,?_,?_,V⟩,O.sortedK Tw G os⟩
   · rw [du]
     intro i j hi hj gm;have h:=hso i j (C0 _) gm HS
     rw [ltR]at h;simp only [N0]at h;rw [getElem!_pos G i (by simpa using hi),getElem!_pos G j (by simpa using hj)]at h;rw [LM _ c hc,LM _ c hc]at h;unfold leV;simp only [Array.getElem_toList];omega
   · rw [cu]
     refine ⟨by rw [BF,cu],.inr ⟨g,cap,_,z,rfl,rfl,gq,d9,by rw [MQ];exact U,?_,by rw [MQ];exact bn⟩⟩;have h:=VL cur (flatK Tw 5 G) (by rw [Z,U];omega)
     rw [Z,hF]at h;exact h
end Go.Proofs.YteaiajghbkenoaaGreatDoor
namespace Go.Proofs.YteaiajghbkenoaaGreatDoor
open Go.Proofs.Tryz
open Go Go.RowKit Gw
set_option maxRecDepth 100000
attribute [local irreducible] Gw.At Gw.Nx Gw.Ops
theorem Vp(c:Nat)(out:List AU)(x:AU):∃A B,out=A++B/\ZT c out x=A++[x]++B/\(∀r∈B,Df x c<Df r c)/\(A=[]\/∃m r,A=m++[r]/\Df r c<=Df x c):=by
 let q:AU->Bool:=fun r=>decide (Df x c<Df r c)
 have e:out=(out.reverse.dropWhile q).reverse++(out.reverse.takeWhile q).reverse:=by
  rw [<-nF,List.takeWhile_append_dropWhile,List.reverse_reverse]
 have G:dV c out (Df x c)=(out.reverse.dropWhile q).reverse.length:=by
  rw [jx];rfl
 refine ⟨(out.reverse.dropWhile q).reverse,(out.reverse.takeWhile q).reverse,e,?_,?_,?_⟩
 · unfold ZT
   rw [G];generalize (out.reverse.dropWhile q).reverse=A at*;generalize (out.reverse.takeWhile q).reverse=B at*;subst e;rw [HM,W3];all_goals rfl
 · intro r g
   rw [eC]at g;have:=List.all_takeWhile (p:=q) (l:=out.reverse)
   rw [MY]at this;simpa [q]using this r g
 · cases h:out.reverse.dropWhile q with
   |nil=>left;rfl
   |cons r l=>
    right;refine ⟨l.reverse,r,by simp,?_⟩;have:=List.head?_dropWhile_not q out.reverse
    rw [h]at this;simpa [q]using this
theorem Vo(c:Nat)(out:List AU)(x:AU):(ZT c out x).Perm (x::out):=by
 obtain ⟨A,B,e1,e2,_,_⟩:=Vp c out x;rw [e2,e1,CN];exact RW
theorem Tf(c:Nat):∀(l out:List AU),(l.foldl (ZT c) out).Perm (out++l)
 |[],out=>by simp
 |x::l,out=>by
  rw [TO];refine (Tf c l _).trans ?_;refine ((Vo c out x).append_right l).trans ?_;exact RW.symm
variable{c:Nat}{x:AU}
theorem ZR{out:List AU}(h:out.Pairwise (leV c))(K:∀r∈out,r.k<x.k):(ZT c out x).Pairwise (leV c):=by
 obtain ⟨A,B,e1,e2,X,U⟩:=Vp c out x;rw [e2];rw [e1]at h K;rw [P0]at h;obtain ⟨G,h2,O⟩:=h;have I:∀r∈A,Df r c<=Df x c:=by
  rcases U with rfl|⟨A',r0,rfl,h0⟩
  · intro r g;simp at g
  · intro r g
    rcases BE.1 g with hr'|hr'
    · rw [P0]at G
      have:=G.2.2 r hr' r0 B0;unfold leV at this;omega
    · rw [BT]at hr'
      subst hr';exact h0
 rw [CN,P0];refine ⟨G,?_,?_⟩
 · rw [MA,PC]
   exact ⟨fun r g=> .inl (X r g),h2⟩
 · intro a J b m
   rw [MA,D2]at m;rcases m with rfl|m
   · have Z:=I a J
     have h5:=K a (DP _ J);unfold leV;omega
   · exact O a J b m
theorem PG(c:Nat):∀(l out:List AU),out.Pairwise (leV c)->l.Pairwise (fun a b=>a.k<b.k)->(∀r∈out,∀x∈l,r.k<x.k)->(l.foldl (ZT c) out).Pairwise (leV c)
 |[],out,h,_,_=>h
 |x::l,out,h,h2,h3=>by
  rw [TO];rw [PC]at h2;refine PG c l _ (ZR h fun r g=>h3 r g x B0) h2.2 ?_;intro r g y m;have:=(Vo c out x).mem_iff.1 g
  rcases D2.1 this with rfl|hm
  · exact h2.1 y m
  · exact h3 r hm y (by simp [m])
variable{rs:List AU}{t:Int}{f:AU->Bool}
theorem QD(K:BP rs)(m:∀r,f r=true->r.t=t):(rs.filter f).Pairwise (fun a b=>a.k<b.k):=by
 have G:(rs.filter f).Pairwise (fun a b=>a.lt2 b.t b.k):=K.filter f;refine G.imp_of_mem ?_;intro a b I J g;have h2:=m a (Ek.1 I).2
 have O:=m b (Ek.1 J).2;unfold AU.lt2 at g;omega
theorem rX{l:List AU}(h:l.Pairwise (fun a b=>a.k<b.k)):∀a∈l,∀b∈l,a.k=b.k->a=b:=by
 induction l with
 |nil=>intro a g;simp at g
 |cons x l ih=>
  rw [PC]at h;intro a g b m e;rcases D2.1 g with ea|ha'<;>rcases D2.1 m with eb|hb'
  · rw [ea,eb]
  · have:=h.1 b hb';rw [ea]at e;omega
  · have:=h.1 a ha';rw [eb]at e;omega
  · exact ih h.2 a ha' b hb' e
variable{r:AU}
theorem jF{lo hi:Int}(h:inR t c lo hi r=true):r.t=t:=(HX h).1
theorem EO(rs:List AU)(t:Int)(c:Nat)(lo hi:Int):(Dq rs t c lo hi).Perm (rs.filter (inR t c lo hi)):=by
 have:=Tf c (rs.filter (inR t c lo hi)) [];rw [Ks]at this;exact this
theorem Ej(m:BP rs)(t:Int)(c:Nat)(lo hi:Int):(Dq rs t c lo hi).Pairwise (leV c):=
 PG c _ [] .nil (QD m fun r h=>jF h) (by intro r g;simp at g)
theorem Rt(U:BP rs)(K:∀r,f r=true->r.t=t){a b:List AU}(G:a.Perm (rs.filter f))(I:b.Perm (rs.filter f))(J:a.Pairwise (leV c))(h2:b.Pairwise (leV c)):a=b:=by
 have O:=QD U K;refine (G.trans I.symm).eq_of_pairwise ?_ J h2;intro x y X Z g m;refine rX O x (G.mem_iff.1 X) y (I.mem_iff.1 Z) ?_;unfold leV at g m;omega
theorem VK(g:BP rs){lo hi:Int}{o:List AU}(m:o.Perm (rs.filter (inR t c lo hi)))(h2:o.Pairwise (leV c)):o=Dq rs t c lo hi:=
 Rt g (fun r h=>jF h) m (EO rs t c lo hi) h2 (Ej g t c lo hi)
def inT(t:Int)(r:AU):Bool:=decide (r.t=t)
def IK(rs:List AU)(t:Int):List AU:=rs.filter (inT t)
def RG(v:Value)(p:Int)(rs:List AU)(s:List A9):Prop:=∃sp mb es ck lm,v=I5 sp/\Ck K2 es ck lm/\H5 lm rs/\BP rs/\rs.length<=2000/\s=[(sp,.cells #[.map (some mb),I4 p] 258 (0,0)),(mb,.map es ck)]
theorem jk(m mb:Nat)(p:Int)(es:Array MapEntry)(ck:Nat)(lm:List ((Int×Int)×Value))(rs:List AU)(hm:Ck K2 es ck lm)(hR:H5 lm rs)(O:BP rs)(hn:rs.length<=2000)(t:Int)(c:Nat)(lo hi:Int)(hc:c<=3):
 BZ prog 105 #[I5 m,I4 t,I4 (c:Int),I4 lo,I4 hi] [[(m,.cells #[.map (some mb),I4 p] 258 (0,0))],[(mb,.map es ck)]] (fun r H'=>∃g,Bb 5 83 r (Dq rs t c lo hi).length (Af (Dq rs t c lo hi)) g/\H'=[g,[(m,.cells #[.map (some mb),I4 p] 258 (0,0))],[(mb,.map es ck)]]):=by
 refine Se func105 ntmps105 [0,1,2,3,4] ?_;intro u R;refine A0<|Ze (Bx #[_])<|AD fun X=>Ze (Bx #[_])<|AD fun U=>Ze (Bx #[_])<|AD fun Z=>Ze (Bx #[_])<|AD fun b4=>A3 Y<|Zq<|A0<|Zl AE Y ?_;refine Zv (Av (n:=0) Y Y)<|Zm Y<|Am (t:=13) Y V (fun K=>?_) (fun K=>?_)
 ·
  exfalso;(cases K;done)
 refine Yl AE Y ?_;refine Yg (Fw (n:=4) Y Y)<|Zv (AL Y Y)<|A4<|Au Y (fun h2=>by omega)<|fun h2=>AC<|Zx<|A0<|Zm Y<|Zl AE Y ?_;refine Zv (Bg (vs:=[]) (us:=[_,_,_,_]) Y Y)<|Zc [_,_,_] Y call179 Y V (Xd vY m mb p es ck lm rs hm hR O hn t c lo hi hc U X Z b4) ?_;rintro _ _ ⟨_,⟨g,o,J,G,I,rfl⟩,rfl⟩;have e9:=VK O G I
 subst e9;refine AG Y<|Zn [10] ?_;refine Zx<|AJ<|AP V results105 Y (by exact ⟨g,J,V⟩)
theorem YB(v:Value)(p:Int)(rs:List AU)(s:List A9)(hv:RG v p rs s)(t:Int)(c:Nat)(lo hi:Int)(hc:c<=3):BZ prog 105 #[v,I4 t,I4 (c:Int),I4 lo,I4 hi] [s] (fun r H'=>∃g,Bb 5 83 r (Dq rs t c lo hi).length (Af (Dq rs t c lo hi)) g/\H'=[g,s]):=by
 obtain ⟨O,mb,es,ck,lm,rfl,I,G,K,J,rfl⟩:=hv;refine Gv (jk O mb p es ck lm rs I G K J t c lo hi hc) B0 ?_;rintro r H' ⟨g,m,rfl⟩;exact ⟨_,⟨g,m,V⟩,by simp⟩
def De(M:List A9)(v:Value)(rs:List AU):Prop:=∃p cap,v= .slice p rs.length cap/\(rs.length<=maxLen/\rs.length<=cap)/\∀(i:Nat) (x:AU),rs[i]?=some x->∃g off cur T zz,p=some ⟨g,off,none⟩/\(g,Obj.cells cur T zz)∈M/\off+i*5+5<=cur.size/\cur.extract (off+i*5) (off+i*5+5)=x.A29
variable{v:Value}{s:List A9}
theorem DU{e:TypeId}(h:Bb 5 e v rs.length (Af rs) s)(J:rs.length<=maxLen):De s v rs:=by
 obtain ⟨b,cap,rfl⟩:=h.form;refine ⟨b,cap,V,⟨J,Et h⟩,fun i x I=>?_⟩;obtain ⟨g,G,cur,z,hv,rfl,K,m⟩:=J7 h i (B9.1 I).1;injection hv with hv1 hv2 hv3
 refine ⟨g,0,cur,e,z,hv1,by simp,by omega,?_⟩;unfold Af at m;rw [IG _ 5 (fun _=>rfl) rs i x I]at m;rw [Cl];exact HC.1 m
variable{M:List A9}
theorem De.mono{m:List A9}{ls:List AU}(h:De M v ls)(K:∀c∈M,c∈m):De m v ls:=by
 obtain ⟨p,cap,e,J,I⟩:=h;refine ⟨p,cap,e,J,fun i s O=>?_⟩;obtain ⟨g,off,cur,T,zz,e1,G,h2⟩:=I i s O;exact ⟨g,off,cur,T,zz,e1,K _ G,h2⟩
theorem Fs(r:AU)(c:Int)(hc:0<=c/\c<=3):BI prog 140 #[.agg r.A29,I4 c] [] (I4 (Bl r c)):=fun u R w g=>
 (JS r c hc w).mono (by
   rintro e m ⟨rfl,q,o,rfl⟩;exact .inl ⟨_,[],V,⟨V,V⟩,Ry g q _⟩)
variable{n:Nat}
theorem PI{cur xs:Array Value}{a:Nat}(h:cur.extract a (a+n)=xs)(m:a+n<=cur.size)(j:Nat)(g:j<n):cur[a+j]?=xs[j]?:=by
 rw [<-h,al,AM A1]
theorem Tz{p q:Prop} [Decidable p] [Decidable q](h:p↔q):Value.bool (decide p)=Value.bool (decide q):=by rw [decide_eq_decide.2 h]
variable{P:Program}{args:Array Value}
theorem Qp{f:FuncId}(h:BI P f args [] v):BI P f args [M] v:=fun u R w m=>
 Calls.mono (h u ([M]++R) w m) fun e I g=>by
  rcases g with⟨G,H',rfl,⟨rfl,rfl⟩,h2⟩|⟨ch,H',rfl,h1,h2⟩
  · exact .inl ⟨_,[M],rfl,⟨rfl,rfl⟩,h2⟩
  · exact h1.elim
variable{B A:List A9}
theorem aV{f:FuncId}(h:BI P f args [B] v):BI P f args [A++B] v:=fun u R w m=>
 Calls.mono (h u ([A]++R) w (m.perm (by simp only [GO,C5,FF,DB];rw [<-CN];exact LR.append_right _))) fun e I g=>by
  rcases g with⟨G,H',rfl,⟨rfl,rfl⟩,h2⟩|⟨ch,H',rfl,h1,h2⟩
  · refine .inl ⟨_,[A++B],rfl,⟨rfl,rfl⟩,h2.perm ?_⟩
    simp only [GO,C5,FF,DB];rw [<-CN];exact LR.append_right _
  · exact h1.elim
theorem W9{f:FuncId}(h:BI P f args [A++B] v):BI P f args [A,B] v:=by
 refine Gv h B0 ?_;rintro r H' ⟨rfl,rfl⟩;exact ⟨_,⟨V,V⟩,by simp⟩
variable{α:Type}
theorem Bn{xs:List α}{j:Nat}{x:α}(h:xs[j]?=some x):xs.take (j+1)=xs.take j++[x]:=by rw [PF,h];rfl
variable{k:Nat}
theorem jl(h:rs[k]?=some r):Af rs=Af (rs.take k)++(Af [r]++Af (rs.drop (k+1))):=by
 rw [<-Bh,<-Bh];congr 1;obtain ⟨g,rfl⟩:=B9.1 h;rw [MA,<-RE g,I3]
theorem LZ(h:rs[k]?=some r)(j:Nat)(g:j<5):(Af rs)[k*5+j]?=(Af [r])[j]?:=by
 have m:=(B9.1 h).1;have e:(Af (rs.take k)).length=k*5:=by rw [BF,C1];omega
 rw [jl h,OS A1,Wr (by rw [e,BF];simp;omega),e,Nat.add_sub_cancel_left]
theorem YK{p:Option Addr}{cap:Nat}(h:De M (.slice p n cap) rs):FJ M p (Af rs):=by
 obtain ⟨p',J,e,hl,X⟩:=h;injection e with e1 e2 e3
 subst e1;intro j u K;have G:=(B9.1 K).1
 rw [BF]at G;obtain ⟨x,O⟩:∃x,rs[j/5]?=some x:=⟨_,B4 A1⟩;obtain ⟨g,off,cur,T,zz,rfl,Z,I,m⟩:=X (j/5) x O;refine ⟨g,off,cur,T,zz,V,Z,?_⟩;have U:=PI m I (j%5) A1
 have h2:=LZ O (j%5) A1;rw [show j/5*5+j%5=j by omega,K]at h2;rw [show off+j=off+j/5*5+j%5 by omega,U,h2,<-HG];rfl
theorem Gg(hv:De M v rs)(hb:rs.length<=1000000000000):BZ prog 109 #[v] [M] (fun r H'=>∃O,Bb 5 83 r rs.length (Af rs) O/\H'=[O,M]):=by
 have af:=mL;obtain ⟨p,cap,rfl,⟨hl,Z⟩,X⟩:=id hv;have G:FJ M p (Af rs):=YK hv
 refine Se func109 ntmps109 [0] ?_;intro u R;refine A0<|A3 Y<|Zq<|A0<|Zm Y<|Zv (Dn B6 Y Y)<|A4<|AX Y (fun K=>?_) (fun K=>?_)
 ·
  have I:p=none:=by cases p with
   |none=>rfl
   |some x=>cases K
  have h0:rs=[]:=by
   cases rs with
   |nil=>rfl
   |cons x l=>obtain ⟨g,off,cur,T,zz,J,_⟩:=X 0 x rfl;rw [I]at J;cases J
  refine Zq<|BV<|Zg<|A3 Y<|AJ<|Zt<|AP rfl results109 Y (by exact ⟨[],by rw [h0];exact Bf 5 _,rfl⟩)
 refine AC<|Zx<|A0<|Ze (EM B6 An)<|AD fun U=>Zm Y<|Ze (Ha (by_:=40) (sz:=5) B6 (V:Tryz.prog.info? 83=some Tryz.t83) V rfl V rfl Y (IP 5 83 U 0 [] V AW) Y (G) (by exact BF _) AW Wo Wo (by exact CU _) A1 A1) ?_;rintro _ _ ⟨ax,m,rfl⟩;replace m:=BS m (Cl _) (Ks _);refine A3 Y<|AJ<|AP V results109 Y (by exact ⟨_,m,V⟩)
theorem wT{a b:List α}(g:a.length=b.length)(h:∀j,j<a.length->a[j]?=b[j]?):a=b:=by
 apply Ln;intro i;rcases Dg i a.length with h9|h9
 · exact h i h9
 · rw [LS h9,LS A1]
theorem aR [DecidableEq α]{a b:α}(h:¬a=b):Value.bool false=Value.bool (decide (a=b)):=congrArg Value.bool (C4 h).symm
theorem u6 [DecidableEq α]{a b:α}(h:a=b):Value.bool true=Value.bool (decide (a=b)):=congrArg Value.bool (CM h).symm
theorem ow{a b:AU}:UD a.t b.t a.k b.k a.v b.v↔a=b:=by
 obtain ⟨t,k,v⟩:=a;obtain ⟨t2,g,m⟩:=b;simp [UD]
def R9(pd:AU->Bool)(rows:List AU):Int:=(rows.findIdx? pd).elim (-1) fun i=>(i:Int)
variable{rows:List AU}{i:Nat}
theorem sH{g:AU->Bool}(h:∀(j:Nat) (y:AU),j<i->rows[j]?=some y->g y=false)(I:rows[i]?=some x)(G:g x=true):R9 g rows=(i:Int):=by
 obtain ⟨hi,rfl⟩:=B9.1 I;unfold R9;rw [Wg.2 ⟨hi,G,fun j m=>by simp [h j _ m (B4 A1)]⟩];rfl
theorem sI{m:AU->Bool}(h:∀(j:Nat) (y:AU),j<rows.length->rows[j]?=some y->m y=false):R9 m rows=-1:=by
 unfold R9;rw [cM.2 fun y G=>by
  obtain ⟨j,g⟩:=GW G;exact h j y (B9.1 g).1 g]
 rfl
theorem lw(g:AU->Bool)(rows:List AU):(R9 g rows=-1/\∀y∈rows,g y=false)\/∃(i:Nat) (x:AU),R9 g rows=(i:Int)/\rows[i]?=some x/\g x=true/\∀(j:Nat) (y:AU),j<i->rows[j]?=some y->g y=false:=by
 unfold R9;cases h:rows.findIdx? g with
 |none=>exact .inl ⟨rfl,cM.1 h⟩
 |some i=>
  obtain ⟨m,h2,G⟩:=Wg.1 h;refine .inr ⟨i,_,V,B4 m,h2,fun j y I J=>?_⟩;obtain ⟨K,rfl⟩:=B9.1 J;simpa using G j I
theorem qC(g:k<rs.length)(x:AU):(Af rs).take (k*5)++Af [x]++(Af rs).drop (k*5+(Af [x]).length)=Af (rs.set k x):=by
 rw [show k*5+(Af [x]).length=(k+1)*5 by rw [BF];simp;omega,EB,Dh,<-Bh,<-Bh,iu,AM g];simp
theorem aM{cur:Array Value}(g:C9 cur 0 (Af rs))(G:rs[k]?=some x):k*5+5<=cur.size/\cur.extract (0+k*5) (0+k*5+5)=(Af [x]).toArray:=by
 have X:=(B9.1 G).1;have U:k*5+5<=cur.size:=by
  have K:=LZ G 4 AW;have O:=g.get (k*5+4) _ (K.trans AN)
  have:=(HK.1 O).1;omega
 refine ⟨U,?_⟩;apply HC.1;apply Ln;intro j;rw [HG,al];split
 · rename_i hj
   have m:j<5:=by omega
   have I:=LZ G j m;obtain ⟨u,J⟩:∃u,(Af [x])[j]?=some u:=⟨_,B4 (by rw [BF];simpa using m)⟩;rw [J]at I;have h2:=g.get _ _ I
   rw [Cl]at h2;rw [Cl,h2];exact J.symm
 · rw [LS]
   show(Af [x]).length<=j;rw [BF];simp only [E7];omega
theorem YE{xs:List α}(hi:i<xs.length)(x:α):(xs.set i x).take (i+1)=xs.take i++[x]:=by
 rw [iu,AM hi,List.take_append,C1,N3 A1];rw [Hv (by rw [C1];omega),show i+1 -i=1 by omega];simp
theorem M3{j:Nat}(f:AU->Bool)(g:rows[j]?=some x):(rows.take (j+1)).filter f=(rows.take j).filter f++(if f x then [x]else []):=by
 rw [Bn g,Hh];congr 1;rw [bj,kh]
theorem Nq(h:∀(j:Nat) (y:AU),rows[j]?=some y->f y=true):rows.filter f=rows:=jt.2 fun y m=>by
 obtain ⟨j,g⟩:=GW m;exact h j y g
theorem TW(hv:De A v rows)(G:Nat)(us:List Value)(pd:AU->Bool)(U:∀(args:Array Value) (w:World),(callFunc G args).run prog w= .ok (.enter G args) w)(hf:∀x:AU,BI prog G (.agg x.A29::us).toArray [B] (.bool (pd x))):BI prog 172 #[v,.func (.func G) #[] us.toArray] [A,B] (I4 (R9 pd rows)):=by
 have bn:=mL;obtain ⟨p,cap,rfl,⟨hl,ax⟩,hg⟩:=id hv;refine Se func172 ntmps172 [0,1] ?_;intro u R;refine A0<|A3 Y<|Zq<|A0<|Zm Y<|Zv (Aa B6 Y)<|Zm Y<|A4<|AQ<|Zb [8,0,1,7] ?_;refine BB (e0:=[(8,_)]) (fun m e H=>∃(i:Nat),m=rows.length -i/\(i<=rows.length/\∀(j:Nat) (y:AU),j<i->rows[j]?=some y->pd y=false)/\e=[(8,I4 (i:Int))]/\H=[]) (by exact ⟨0,V,⟨C0 _,fun j y h=>by omega⟩,V,V⟩) Wp ?_;rintro _ _ _ ⟨i,rfl,⟨hi,I⟩,rfl,rfl⟩;refine A0<|Zv (Av Y Y)<|A4<|Zq<|Au Y (fun O=>?_) (fun O=>?_)
 ·
  obtain ⟨x,Z⟩:∃x,rows[i]?=some x:=⟨_,B4 O⟩;obtain ⟨g,off,cur,T,zz,rfl,X,af,K⟩:=hg i x Z;refine AC<|Zx<|Zq<|AQ<|A0<|Zm Y<|A3 Y<|A0<|Zm Y<|Zm Y<|Zm Y<|BX (Ac B6 An Y Y A1)<|CQ (cs:=[(g,.cells cur T zz)]) (by simp [X]) (AA (cs:=x.A29) CI An Y A1 K) V rfl ?_;refine Xr [_] Y (U) Y V (hf x) ?_;refine A4<|AX Y (fun J=>?_) (fun J=>?_)
  ·
   refine A0<|Zm Y<|A3 Y<|AJ<|Ae<|Zt<|Zt<|Ae<|Zt<|AP V ew Y (by exact ⟨congrArg (Value.int .i64) (sH I Z J).symm,V⟩)
  refine AC<|A8<|Zx<|Zg<|Ya (n:=1) Y Y<|Zm Y<|Z0<|Zn [8,0,1,7] ?_;refine Ab (e':=[(8,_)]) (by exact ⟨i+1,rfl,⟨by omega,fun j y h1 h2=>by rcases Dg j i with h9|h9;exact I j y h9 h2;obtain rfl:j=i:=A1;rw [Z]at h2;injection h2 with h2;subst h2;exact J⟩,rfl,rfl⟩)
 have ei:i=rows.length:=by omega
 subst ei;refine Ay<|Zt<|Zt<|AR<|Zx<|A0<|A3 Y<|AJ<|AP V ew Y (by exact ⟨congrArg (Value.int .i64) (sI I).symm,V⟩)
set_option maxHeartbeats 1000000 in
theorem aY(G:Bb 5 83 v rows.length (Af rows) s)(hn:rows.length<=1000000000)(J:Nat)(us:List Value)(U:AU->Bool)(bn:∀(args:Array Value) (w:World),(callFunc J args).run prog w= .ok (.enter J args) w)(hf:∀x:AU,BI prog J (.agg x.A29::us).toArray [B] (.bool (U x))):BZ prog 255 #[v,.func (.func J) #[] us.toArray] [s,B] (fun r H'=>∃s',Bb 5 83 r (rows.filter fun x=>!U x).length (Af (rows.filter fun x=>!U x)) s'/\H'=[s',B]):=by
 have o9:=mL;obtain ⟨p,cap,rfl⟩:=G.form;have hU:=DU G A1
 refine Se func255 ntmps255 [0,1] ?_;intro u R;refine A0<|A3 Y<|A0<|Zm Y<|Zm Y<|Xr [_,_] Y call172 Y V (TW hU J us U bn hf) ?_;rcases lw U rows with⟨e9,X⟩|⟨k,x0,e9,hx0,hp0,hno⟩
 ·
  rw [e9];refine A3 Y<|Zq<|A0<|Zm Y<|Zv (CP Y Y)<|A4<|Au Y (fun h1=>?_) (fun h1=>?_)
  ·
   refine A0<|Zm Y<|A3 Y<|AJ<|Zt<|AP rfl results255 Y (by exact ⟨_,BS G (congrArg List.length (Nq fun j y hy=>by rw [X y (DE hy)];rfl).symm) (congrArg Af (Nq fun j y hy=>by rw [X y (DE hy)];rfl).symm),rfl⟩)
  exact absurd V h1
 rw [e9];have o8:=(B9.1 hx0).1
 obtain ⟨g,ic,cur,z,gB,rfl,kv,j5⟩:=Dz G A1;injection gB with hv1 hv2 hv3
 subst hv1 hv3;refine A3 Y<|Zq<|A0<|Zm Y<|Zv (CP Y Y)<|A4<|Au Y (fun h2=>by omega)<|fun h2=>AC<|Zx<|Zq<|A0<|Zm Y<|Ya (n:=1) Y Y<|A3 Y<|AQ<|Zb [5,6,0,1] ?_;refine BB (e0:=[(5,_),(6,_)]) (fun m e H=>∃(i j:Nat) (W:List AU) (cur:Array Value),m=rows.length -j/\((i<j/\j<=rows.length)/\W.length=rows.length/\Bb 5 83 (I6 g rows.length cap) rows.length (Af W) [(g,.cells cur 83 z)]/\W.take i=(rows.take j).filter (fun x=>!U x)/\∀t,j<=t->W[t]?=rows[t]?)/\e=[(5,I4 (i:Int)),(6,I4 (j:Int))]/\H=[[(g,.cells cur 83 z)]]) (by exact ⟨k,k+1,rows,cur,rfl,⟨⟨by omega,by omega⟩,rfl,G,by rw [M3 _ hx0,hp0];simp only [S1,MT,HI,DB];exact (Nq (fun j y hy=>by rw [HA]at hy;split at hy;rw [hno j y dr hy];rfl;cases hy)).symm,fun t _=>rfl⟩,rfl,rfl⟩) Wp ?_;rintro _ _ _ ⟨i,j,W,cur,rfl,⟨l9,ax,O,K,af⟩,rfl,rfl⟩;obtain ⟨d9,cu,l5,j3,Z⟩:=JX O;refine Zq<|A0<|Zm Y<|Zm Y<|Zv (Aa B6 Y)<|Zv (Av Y Y)<|A4<|Au Y (fun ek=>?_) (fun ek=>?_)
 ·
  obtain ⟨x,hx⟩:∃x,rows[j]?=some x:=⟨_,B4 ek⟩;obtain ⟨l8,cO⟩:=aM d9 ((af j (CD _)).trans hx);refine AC<|Zx<|Zq<|AQ<|A0<|Zm Y<|Zm Y<|BX (Ac B6 An Y Y A1)<|Zo Wh (AA (cs:=x.A29) CI An Y A1 cO) ?_;refine Ze (Al DS #[_,_,_,_,_])<|AD fun bx=>Xe (Xw An x.A29) ?_;refine A4<|A0<|Zm Y<|Zo Wh (AA (cs:=#[_,_,_,_,_]) CI An Y Ax AN) ?_;refine Xr [_] Y (bn) Y V (hf x) ?_;refine Zv (Bo Y)<|Z0<|Zn [0,1,5,6,7,29] ?_;refine Zx<|AX Y (fun I=>?_) (fun I=>?_)
  ·
   have I:U x=false:=by simpa using I
   have gm:=BS (xs':=Af (W.set i x)) (EP (i:=0+i*5) (ys:=Af [x]) O (by rw [BF,BF,E7];omega)) rfl (by rw [Cl];exact qC A1 x);refine A0<|Zm Y<|Zm Y<|Zo Wh (AA (cs:=#[_,_,_,_,_]) CI An Y Ax AN) ?_;refine BX (Ac B6 An Y Y A1)<|Xe (BK An Y Y HJ Wu (by exact (rfl:_=EJ cur (0+i*5) (Af [x]))) E3 A1 (by exact Z)) ?_;refine A4<|Zg<|Zm Y<|Ya (n:=1) Y Y<|AG Y<|A8<|Zx<|Zg<|Zm Y<|Ya (n:=1) Y Y<|AG Y<|Zn [5,6,0,1] ?_;refine Ab (e':=[(5,_),(6,_)]) (by exact ⟨i+1,j+1,W.set i x,_,rfl,⟨by omega,by rw [cQ];exact ax,gm,by rw [YE A1,K,M3 _ hx];simp [I],fun t ht=>by rw [List.getElem?_set_ne A1];exact af t A1⟩,rfl,rfl⟩)
  have I:U x=true:=by simpa using I
  refine AC<|A8<|Zx<|Zg<|Zm Y<|Ya (n:=1) Y Y<|AG Y<|Zn [5,6,0,1] ?_;refine Ab (e':=[(5,_),(6,_)]) (by exact ⟨i,j+1,W,cur,rfl,⟨by omega,ax,O,by rw [K,M3 _ hx];simp [I],fun t ht=>af t A1⟩,rfl,rfl⟩)
 have ej:j=rows.length:=by omega
 subst ej;rw [G0]at K;have gy:(rows.filter fun x=>!U x).length=i:=by rw [<-K,C1];omega
 refine Ay<|Zt<|Zt<|AR<|Zx<|A0<|Zm Y<|Zm Y<|BX (CB B6 An Y Y A1)<|Ze (O8 B6 (V:Tryz.prog.info? 83=some Tryz.t83) V rfl (by simp [Value.cells,Value.oneCell']) Y A1 cu Z Wo) ?_;rintro _ _ rfl;have gq:=VE (EP (i:=i*5) (ys:=(Builtin.zeroCells (Value.agg #[I4 0,I4 0,I4 0,I4 0,I4 0]).cells (rows.length -i)).toList) O (by rw [SR,size_zeroCells,BF];show i*5+(rows.length -i)*5<=_;omega)) i A1
 refine A4<|A0<|Zm Y<|Zm Y<|BX (Bt B6 An Y Y A1)<|A3 Y<|AJ<|AP V results255 Y (by
  refine ⟨_,BS gq gy.symm ?_,V⟩;rw [CN,HM (by rw [C1,BF];omega),EB,K])
theorem sD{A Y D:List Value}(g:A.length=(n+1)*5)(hi:i<=n)(G:Y.length=5)(m:D.length=(n -i)*5):(A.take (0+i*5)++Y++A.drop (0+i*5+Y.length)).take (0+(i+1)*5)++D++(A.take (0+i*5)++Y++A.drop (0+i*5+Y.length)).drop (0+(i+1)*5+D.length)=A.take (i*5)++Y++D:=by
 rw [Cl,Cl,HM (by rw [B7,C1];omega),SO (by simp only [B7,C1,C2];omega),DB]
theorem lZ{A Y D:List Value}(g:A.length=(n+1)*5)(hi:i<=n)(G:Y.length=5)(m:D.length=(n -i)*5):(A.take (0+(i+1)*5)++D++A.drop (0+(i+1)*5+D.length)).take (0+i*5)++Y++(A.take (0+(i+1)*5)++D++A.drop (0+(i+1)*5+D.length)).drop (0+i*5+Y.length)=A.take (i*5)++Y++D:=by
 rw [Cl,Cl,SO (l:=A) A1,DB,a8 (by rw [C1];omega),TX,N3 A1,W3 (by rw [C1];omega)]
theorem YJ(rows:List AU)(i:Nat)(y:AU):(Af rows).take (i*5)++Af [y]++Af (rows.drop i)=Af (rows.take i++[y]++rows.drop i):=by
 rw [EB,Bh,Bh]
theorem U2{c:Array Value}(h:C9 c 0 (Af rows))(i:Nat)(hi:i<=rows.length):C9 c (0+i*5) (Af (rows.drop i)):=by
 have g:=Iw h (i*5) ((rows.length -i)*5) (by rw [BF];omega);rw [Dh,Hv (by rw [BF,C2];omega)]at g;exact g
theorem gP{c:Array Value}(h:C9 c 0 (Af rows))(i:Nat)(hi:i<=rows.length):C9 c 0 (Af (rows.take i)):=by
 have g:=Iw h 0 (i*5) (by rw [BF];omega);rw [Pr,EB]at g;exact g
theorem XO(rows:List AU)(i:Nat)(hi:i<=rows.length)(y:AU):(rows.take i++[y]++rows.drop i).length=rows.length+1:=by
 simp only [B7,C1,C2,E7];omega
set_option maxHeartbeats 1000000 in
theorem ZP(m:Bb 5 83 v rows.length (Af rows) s)(hn:rows.length<=1000000000)(i:Nat)(hi:i<=rows.length)(y:AU)(U:Nat):BZ prog 256 #[v,I4 (i:Int),I6 U 1 1] [s,[(U,.cells y.A29 83 (0,0))]] (fun r H'=>∃s' s2,Bb 5 83 r (rows.take i++[y]++rows.drop i).length (Af (rows.take i++[y]++rows.drop i)) s'/\H'=[s',s2,[(U,.cells y.A29 83 (0,0))]]):=by
 have o8:=mL;obtain ⟨p,cap,rfl⟩:=m.form;have l9:=Et m
 refine Se func256 ntmps256 [0,1,2] ?_;intro u R;refine A0<|A3 Y<|Zq<|BV<|Zg<|Zm Y<|Zm Y<|BX (CB B6 An Y Y A1)<|A4<|A0<|Zm Y<|Zv (Aa B6 Y)<|A3 Y<|Zq<|A0<|Zm Y<|Zv (CR (n:=0) Y Y)<|A4<|Au Y (fun h0=>by cases h0)<|fun h0=>AC<|Zx<|A0<|Zm Y<|Zv (Aa B6 Y)<|A3 Y<|Zq<|A0<|Zm Y<|Zm Y<|Zv (CR Y Y)<|Z0<|Zn [0,1,2,7,8,22] ?_;refine Zx<|Au Y (fun X=>?_) (fun X=>?_)
 ·
  refine A0<|Zm Y<|Zm Y<|Ze (BR (by_:=40) (sz:=5) B6 (V:Tryz.prog.info? 83=some Tryz.t83) V rfl V rfl Y (m) Y (DC 5 U 1 1 83 (0,0) (Af [y]) V) Wo Wo (by exact CU _) A1 A1) ?_;rintro _ _ ⟨o9,O,rfl⟩;obtain ⟨kv,j5,rfl⟩:=O.form;refine A3 Y<|AJ<|Zt<|AP V results256 Y (by
   have X:i=rows.length:=by omega
   subst X;exact ⟨_,[],BS O (XO rows _ (CD _) y).symm (by rw [G0,gS,DB,Bh]),rfl⟩)
 obtain ⟨g,ek,cur,z,cO,rfl,j3,I⟩:=Dz m A1;injection cO with hv1 hv2 hv3
 subst hv1 hv3;obtain ⟨_,l8,_,l5,af⟩:=JX m;refine AC<|Zx<|Zq<|A0<|Zm Y<|Zm Y<|Ya Y Y<|Zm Y<|Zv (Qi B6 Y)<|Zv (DJ Y Y)<|A4<|Au Y (fun hg=>?_) (fun hg=>?_)
 ·
  refine A0<|Zm Y<|Zm Y<|BX (Bt B6 An Y Y A1)<|Zm Y<|Zm Y<|Ya Y Y<|Zm Y<|Yb Y Y ?_;refine Ze (L6 (by_:=40) (sz:=5) (xs:=Af (rows.take i)) B6 Cp (rfl:Tryz.prog.info? 83=some Tryz.t83) rfl rfl rfl rfl Y Y Wh (gP I i hi) (by rw [BF,C1];omega) A1 AW A1 A1 A1) ?_;rintro _ _ ⟨s9,J,rfl⟩;rw [show i+(rows.length+1 -i)=rows.length+1 by omega]at J;have G:=J.1
  obtain ⟨g3,d9,gm,z3,rfl,rfl,ic,gB⟩:=Dz J A1;obtain ⟨_,gy,_,gq,K⟩:=JX J;refine AG Y<|Zn [0,1,2,7,9] ?_;refine Zx<|A0<|Zm Y<|Zm Y ?_
  (refine BX (Bq B6 An Y Y ?_ ?_) ?_;(focus (omega));(focus (omega)))
  refine Zm Y<|Xe (JQ (cs:=Af [y]) B6 An Y Y Wh Wo ((rfl:C9 (y.A29:Array Value) 0 (Af [y]))) (by rw [BF,E7];omega) (by rw [BF,E7];omega) (K) (CU _)) ?_;refine A4<|Zq<|Az (n:=9) (0::0::0::6::15::0::0::96::255::[]) 256 A6 A6 V<|A2 0 V (AO Y)<|A2 1 V (AO Y)<|A2 2 V (AO Y)<|A2 3 V (Dm Y Y A1) ?_
  (refine Dp (D':=31) 4 (Bq B6 An Y Y ?_ ?_) ?_;(focus (omega));(focus (omega)))
  refine A2 5 V (AO Y)<|A2 6 V (AO Y) ?_
  (refine Dp (D':=255) 7 (Bq B6 An Y Y ?_ ?_) ?_;(focus (omega));(focus (omega)))
  refine Yw 8 511 rfl (JQ (cs:=Af (rows.drop i)) B6 An Y Y Wh Wo (U2 I i hi) (by rw [BF,C2];omega) (by rw [BF,C2,GH (by rw [BF,E7];omega)];omega) (by rw [GH (by rw [BF,E7];omega)];exact K) (CU _))<|CT<|Ah<|Zn [9] ?_;refine Zx<|A0<|Zm Y<|A3 Y<|AJ<|Zt<|AP V results256 Y (by
   refine ⟨_,[(g,.cells cur 83 z)],BS (EP (i:=0+(i+1)*5) (ys:=Af (rows.drop i)) (EP (i:=0+i*5) (ys:=Af [y]) J (by rw [G,BF,E7];omega)) ?_) (XO rows i hi y).symm ?_,rfl⟩
   · simp only [B7,C1,C2,G,BF,E7];omega
   · rw [sD G hi (by rw [BF];rfl) (by rw [BF,C2]),HM (by rw [BF,C1];omega),<-EB,YJ])
 refine AC<|Zx<|Zq ?_;obtain ⟨p8,cu,bn⟩:=VD m (rows.length+1) A1 A1;have G:=bn.1
 refine Zg<|Zm Y<|Zm Y<|Zm Y<|Ya Y Y ?_;refine BX (Bt B6 An Y Y A1)<|A3 Y<|Zq<|Zq<|yO (s1:=[(U,_)]) (s2:=[(g,_)]) (a:=U) (b:=g) Wo Wo (BT.2 V) (BT.2 V) (fun ax=>?_);refine Zg<|Zm Y<|Zm Y<|Zm Y<|Zm Y<|Ya Y Y ?_
 (refine BX (Bq B6 An Y Y ?_ ?_) ?_;(focus (omega));(focus (omega)))
 refine CQ (cs:=[(U,.cells y.A29 83 (0,0)),(g,.cells cur 83 z)]) B0 (Sz (tR:=4) func294 A6 A6 A6 A6 B6 An Y ax A1) V rfl ?_;refine Zv (Bo Y)<|Z0<|Zn [0,1,2,7,8,68] ?_;refine Zx<|AX Y (fun Z=>?_) (fun Z=>?_)
 ·
  refine Zq<|Az (n:=9) (0::0::0::6::15::0::0::96::255::[]) 256 A6 A6 V<|A2 0 V (AO Y)<|A2 1 V (AO Y)<|A2 2 V (AO Y)<|A2 3 V (Dm Y Y A1) ?_
  (refine Dp (D':=31) 4 (Bq B6 An Y Y ?_ ?_) ?_;(focus (omega));(focus (omega)))
  refine A2 5 V (AO Y)<|A2 6 V (AO Y) ?_
  (refine Dp (D':=255) 7 (Bq B6 An Y Y ?_ ?_) ?_;(focus (omega));(focus (omega)))
  refine Yw 8 511 rfl (JQ (cs:=Af (rows.drop i)) B6 An Y Y Wh Wo (U2 I i hi) (by rw [BF,C2];omega) (by rw [BF,C2];omega) (af) (CU _))<|CT<|Ah<|Zx<|A0<|Zm Y<|Zm Y ?_
  (refine BX (Bq B6 An Y Y ?_ ?_) ?_;(focus (omega));(focus (omega)))
  refine Zm Y<|Xe (JQ (cs:=Af [y]) B6 An Y Y Wh Wo ((rfl:C9 (y.A29:Array Value) 0 (Af [y]))) (by rw [BF,E7];omega) (by rw [BF,E7,GH (by rw [BF,C2];omega)];omega) (by rw [GH (by rw [BF,C2];omega)];exact af) (CU _)) ?_;refine Z0<|Zn [0] ?_;refine Zx<|A0<|Zm Y<|A3 Y<|AJ<|Zt<|AP V results256 Y (by
   refine ⟨_,[],BS (EP (i:=0+i*5) (ys:=Af [y]) (EP (i:=0+(i+1)*5) (ys:=Af (rows.drop i)) bn (by rw [G,BF,C2];omega)) ?_) (XO rows i hi y).symm ?_,rfl⟩
   · simp only [B7,C1,C2,BF,cu,E7];omega
   · rw [lZ G hi (by rw [BF];rfl) (by rw [BF,C2]),a8 (by rw [BF];omega),YJ])
 cases Z
structure QM where
 kd:Int
 tb:Int
 cl:Int
 lo:Int
 hi:Int
 bq:Int
 ot:Int
deriving DecidableEq
abbrev QM.G2(q:QM)(c:Chg)(x y:Option Go.Addr)(o n:Int):Array Go.Value:=#[I4 q.kd,I4 q.tb,I4 q.cl,I4 q.lo,I4 q.hi,I4 q.bq,I4 q.ot,I4 c.t,I4 c.k,.bool c.had,I4 c.o.a,I4 c.o.b,I4 c.o.c,.bool c.has,I4 c.n.a,I4 c.n.b,I4 c.n.c,.pointer x,.pointer y,I4 o,I4 n]
abbrev QM.A30(c:QM):Array Go.Value:=#[I4 c.kd,I4 c.tb,I4 c.cl,I4 c.lo,I4 c.hi,I4 c.bq,I4 c.ot]
structure CE where
 rows:List AU
 val:Int
 fnd:Bool
deriving DecidableEq
def inQ(q:QM)(r:AU):Bool:=decide (r.t=q.tb/\q.lo<=Bl r q.cl/\Bl r q.cl<=q.hi)
def BJ(q:QM):Prop:=(0<=q.tb/\q.tb<=3)/\(0<=q.cl/\q.cl<=3)/\(-1000000000<=q.lo/\q.lo<=q.hi/\q.hi<=1000000000)/\
 ((q.kd=1/\q.cl=0/\q.lo=q.hi/\(1<=q.lo/\q.lo<=1000000)/\q.bq=0/\q.ot=0)\/((q.kd=2\/q.kd=3)/\q.bq=0/\q.ot=0)\/
  ((q.kd=4\/q.kd=5\/q.kd=6)/\(1<=q.bq/\q.bq<=3)/\q.ot=0)\/(q.kd=7/\(1<=q.bq/\q.bq<=3)/\(0<=q.ot/\q.ot<=3)))
instance(q:QM):Decidable (BJ q):=by unfold BJ;infer_instance
def CE.none:CE:=⟨[],0,false⟩
def LU(ms:List Int):Int:=ms.foldl (·+·) 0
def ER(lt:Int->Int->Bool)(ms:List Int):CE:=ms.foldl (fun r n=>⟨r.rows,if !r.fnd||lt n r.val then n else r.val,true⟩) CE.none
def Da(q:QM)(others:List AU)(k:Int):Option AU:=others.find? (fun x=>decide (x.t=q.ot/\x.k=k))
def Ii(q:QM)(others:List AU)(r:AU):List AU:=match Da q others (Bl r q.bq)with
 |some x=>[r,x]
 |none=>[]
def Ij(q:QM)(rows others:List AU):List AU:=rows.flatMap (Ii q others)
def Cu(q:QM)(rows:List AU):List Int:=rows.map fun r=>Bl r q.bq
def FN(q:QM)(rows others:List AU):CE:=
 if q.kd=3 then⟨[],rows.length,false⟩else if q.kd=4 then⟨[],LU (Cu q rows),false⟩
 else if q.kd=5 then ER (fun a b=>decide (a<b)) (Cu q rows)else if q.kd=6 then ER (fun a b=>decide (b<a)) (Cu q rows)
 else if q.kd=7 then⟨Ij q rows others,0,false⟩else⟨rows,0,false⟩
def CS(rs:List AU)(q:QM):List AU:=Dq rs q.tb q.cl.toNat q.lo q.hi
def Cj(rs:List AU)(q:QM):CE:=FN q (CS rs q) (IK rs q.ot)
def kw(c:Chg):List AU:=if c.had then [⟨c.t,c.k,c.o⟩]else []
def Ht(q:QM)(b:Bool)(r:AU):Option AU:=if b&&inQ q r then some r else none
def bfQ(q:QM)(c:Chg):Option AU:=Ht q c.had ⟨c.t,c.k,c.o⟩
def afQ(q:QM)(c:Chg):Option AU:=Ht q c.has ⟨c.t,c.k,c.n⟩
def mQ(q:QM):Option AU->Int
 |some r=>Bl r q.bq
 |none=>0
def Nz(q:QM)(c:Chg):Bool:=(bfQ q c).isSome||(afQ q c).isSome
def UZ(q:QM)(c:Chg):Bool:=(bfQ q c).isSome !=(afQ q c).isSome
def Co(q:QM)(c:Chg):Bool:=
 if q.kd=1\/q.kd=2 then Nz q c else if q.kd=3 then UZ q c else if q.kd=4 then decide (mQ q (bfQ q c)≠mQ q (afQ q c))
 else if q.kd=5\/q.kd=6 then UZ q c||decide (mQ q (bfQ q c)≠mQ q (afQ q c))else Nz q c||decide (c.t=q.ot)
theorem Q0{c:Chg}(J:GK rs c):∃A B,rs=A++kw c++B/\EI rs c=A++Na c++B:=by
 refine ⟨rs.take (E5 rs c.t c.k),(rs.drop (E5 rs c.t c.k)).drop (if c.had then 1 else 0),?_,V⟩;unfold kw;cases hh:c.had with
 |false=>simp
 |true=>
  have m:(Fh rs c.t c.k).2=true:=by rw [J.1,hh]
  obtain ⟨r,X,hi,O,U⟩:=JF m;have hv:=J.2 m
  rw [U]at hv;have e:r=⟨c.t,c.k,c.o⟩:=by
   obtain ⟨t,k,v⟩:=r;obtain ⟨G,I⟩:=hi;simp only at G I hv;subst G I hv;rfl
  rw [e]at O;obtain ⟨K,g⟩:=B9.1 O;simp only [Hb,CN];conv=>lhs;rw [<-I3 (E5 rs c.t c.k) rs,RE K,g]
  rw [MA,RE K];rfl
variable{q:QM}
theorem yK(h:BJ q)(r:AU):inR q.tb q.cl.toNat q.lo q.hi r=inQ q r:=by
 have hc:=h.2.1;have:=LM r q.cl.toNat A1
 rw [show((q.cl.toNat:Nat):Int)=q.cl by omega]at this;unfold inR inQ;rw [this]
theorem QU(h:BJ q)(rs:List AU):CS rs q=(rs.filter (inQ q)).foldl (ZT q.cl.toNat) []:=by
 unfold CS Dq;rw [fz fun r _=>yK h r]
theorem Hl(h:BJ q)(rs:List AU):(CS rs q).Perm (rs.filter (inQ q)):=by
 have:=EO rs q.tb q.cl.toNat q.lo q.hi;rwa [fz fun r _=>yK h r]at this
theorem TG(q:QM)(c:Chg):(kw c).filter (inQ q)=(bfQ q c).toList:=by
 unfold kw bfQ Ht;cases c.had with
 |false=>rfl
 |true=>simp only [Hb,Th,bj,kh];split<;>rfl
theorem TI(q:QM)(c:Chg):(Na c).filter (inQ q)=(afQ q c).toList:=by
 unfold Na afQ Ht;cases c.has with
 |false=>rfl
 |true=>simp only [Hb,Th,bj,kh];split<;>rfl
def Jm:List Int->Int
 |[]=>0
 |x::l=>x+Jm l
theorem Mg(l:List Int):∀a,l.foldl (·+·) a=a+Jm l:=by
 induction l with
 |nil=>intro a;simp [Jm]
 |cons x l ih=>intro a;rw [TO,ih];simp only [Jm];omega
theorem Y8(a b:List Int):Jm (a++b)=Jm a+Jm b:=by
 induction a with
 |nil=>simp [Jm]
 |cons x a ih=>simp only [PJ,Jm,ih];omega
theorem MG{a b:List Int}(h:a.Perm b):Jm a=Jm b:=by
 induction h with
 |nil=>rfl
 |cons x _ ih=>simp only [Jm,ih]
 |swap x y l=>simp only [Jm];omega
 |trans _ _ ih1 ih2=>exact ih1.trans ih2
theorem xV(lt:Int->Int->Bool)(J:∀a b c,lt b a=false->lt c b=false->lt c a=false)(I:∀a,lt a a=false)(G:∀a b,lt a b=true->lt b a=false)(l:List Int):∀(m:Int),∃x,(x=m\/x∈l)/\lt m x=false/\(∀y∈l,lt y x=false)/\l.foldl (fun(r:CE) n=>(⟨r.rows,if !r.fnd||lt n r.val then n else r.val,true⟩:CE)) ⟨[],m,true⟩=⟨[],x,true⟩:=by
 induction l with
 |nil=>intro m;exact ⟨m,.inl rfl,I m,by simp,rfl⟩
 |cons z l ih=>
  intro m;rw [TO];cases hz:lt z m with
  |true=>
   obtain ⟨x,K,h2,O,U⟩:=ih z;simp only [S1,kj,hz,Hb];refine ⟨x,.inr (by rcases K with h|h;rw [h];simp;exact EV _ h),J x z m h2 (G z m hz),fun y g=>?_,U⟩;rcases D2.1 g with rfl|g
   · exact h2
   · exact O y g
  |false=>
   obtain ⟨x,K,h2,O,U⟩:=ih m;simp only [S1,kj,hz,MT,HI];refine ⟨x,by rcases K with h|h;exact .inl h;exact .inr (EV _ h),h2,fun y g=>?_,U⟩;rcases D2.1 g with rfl|g
   · exact J x m y h2 hz
   · exact O y g
theorem KJ(lt:Int->Int->Bool)(G:∀a b c,lt b a=false->lt c b=false->lt c a=false)(m:∀a,lt a a=false)(g:∀a b,lt a b=true->lt b a=false)(z:Int)(l:List Int):∃x∈z::l,(∀y∈z::l,lt y x=false)/\ER lt (z::l)=⟨[],x,true⟩:=by
 obtain ⟨x,J,h2,K,O⟩:=xV lt G m g l z;refine ⟨x,by rcases J with h|h;rw [h];simp;exact EV _ h,fun y I=>?_,?_⟩
 · rcases D2.1 I with rfl|I
   · exact h2
   · exact K y I
 · unfold ER
   rw [TO];exact O
theorem PK(lt:Int->Int->Bool)(I:∀a b c,lt b a=false->lt c b=false->lt c a=false)(m:∀a,lt a a=false)(g:∀a b,lt a b=true->lt b a=false)(J:∀a b,lt a b=false->lt b a=false->a=b){l G:List Int}(h:∀y,y∈l↔y∈G):ER lt l=ER lt G:=by
 match l,G,h with
 |[],[],_=>rfl
 |[],y::G,h=>have:=(h y).2 B0;cases this
 |y::l,[],h=>have:=(h y).1 B0;cases this
 |y::l,y'::G,h=>
  obtain ⟨x,O,U,X⟩:=KJ lt I m g y l;obtain ⟨K,Z,b2,b3⟩:=KJ lt I m g y' G;rw [X,b3,J x K (b2 x ((h x).1 O)) (U K ((h K).2 Z))]
theorem iH{c:Chg}(g:GK rs c)(h:c.t≠t):IK (EI rs c) t=IK rs t:=by
 obtain ⟨A,B,e1,e2⟩:=Q0 g;have z1:(kw c).filter (inT t)=[]:=by
  unfold kw;split
  · simp [inT,h]
  · rfl
 have z2:(Na c).filter (inT t)=[]:=by
  unfold Na;split
  · simp [inT,h]
  · rfl
 unfold IK;rw [e2];conv=>rhs;rw [e1]
 simp only [Hh,z1,z2,DB]
theorem Ri{o:Option AU}(h:o.isSome=false):o.toList=[]:=by
 cases o with
 |none=>rfl
 |some x=>cases h
theorem tu{c:Chg}(J:BJ q)(hf:GK rs c)(h:Co q c=false):Cj (EI rs c) q=Cj rs q:=by
 obtain ⟨A,B,e1,e2⟩:=Q0 hf;have X:rs.filter (inQ q)=A.filter (inQ q)++(bfQ q c).toList++B.filter (inQ q):=by
  conv=>lhs;rw [e1]
  rw [Hh,Hh,TG]
 have Z:(EI rs c).filter (inQ q)=A.filter (inQ q)++(afQ q c).toList++B.filter (inQ q):=by
  rw [e2,Hh,Hh,TI]
 have K:=Hl J rs;have O:=Hl J (EI rs c)
 rw [X]at K;rw [Z]at O;have I:(bfQ q c).isSome=false->(afQ q c).isSome=false->CS (EI rs c) q=CS rs q:=fun h1 h2=>by
  rw [QU J,QU J,X,Z,Ri h1,Ri h2]
 unfold Co at h;unfold Cj FN;split at h
 · rename_i hk
   unfold Nz at h;rw [fx]at h;rw [I h.1 h.2,AK A1,AK A1,AK A1,AK A1,AK A1,AK A1,AK A1,AK A1,AK A1,AK A1]
 · split at h
   · rename_i hk
     rw [AM hk,AM hk];have hl:(CS (EI rs c) q).length=(CS rs q).length:=by
      rw [K.length_eq,O.length_eq];simp only [B7];unfold UZ at h;cases hb:bfQ q c<;>cases g:afQ q c<;>simp [hb,g]at h⊢
     rw [hl]
   · split at h
     · rename_i hk3 hk
       rw [AK hk3,AK hk3,AM hk,AM hk];have hs:LU (Cu q (CS (EI rs c) q))=LU (Cu q (CS rs q)):=by
        unfold LU Cu;rw [Mg,Mg,MG (K.map _),MG (O.map _)];simp only [Bm,Y8];have U:=cL h
        have key:∀o:Option AU,Jm (o.toList.map fun r=>Bl r q.bq)=mQ q o:=fun o=>by
         cases o with
         |none=>rfl
         |some x=>simp [Jm,mQ]
        rw [key,key];omega
       rw [hs]
     · split at h
       · rename_i hk3 hk4 hk
         rw [fx]at h;have U:=cL h.2
         have G:=h.1;have m:∀y,y∈Cu q (CS (EI rs c) q)↔y∈Cu q (CS rs q):=fun y=>by
          unfold Cu;rw [(K.map _).mem_iff,(O.map _).mem_iff];unfold UZ at G;cases hb:bfQ q c<;>cases g:afQ q c<;>simp [hb,g]at G⊢
          simp [hb,g,mQ]at U;rw [U]
         rw [AK hk3,AK hk3,AK hk4,AK hk4];rcases hk with hk|hk
         · rw [AM hk,AM hk]
           exact PK _ (by intro a b c;simp;omega) (by intro a;simp) (by intro a b;simp;omega) (by intro a b;simp;omega) m
         · rw [AK (show¬q.kd=5 by omega),AK (show¬q.kd=5 by omega),AM hk,AM hk]
           exact PK _ (by intro a b c;simp;omega) (by intro a;simp) (by intro a b;simp;omega) (by intro a b;simp;omega) m
       · rw [fx]at h
         have g:=h.1;unfold Nz at g;rw [fx]at g;rw [I g.1 g.2,iH hf (cL h.2)]
end Go.Proofs.YteaiajghbkenoaaGreatDoor
