/- A patch gives the result on the rows after the change: rows, numbers, sums, least and greatest values. -/
/- A patch gives the result on the rows after the change: the pairs of a join. -/
/- proof.Replay. -/
/- Records of a log replayed: the result at the later position. -/
/- Roots of lists, in plain words. -/
/- slices.Backward; digest.Root. -/
/- digest.left, Proof. -/
/- digest.Verify. -/
/- Rows encoded; the orders of a state, its summaries and its root. -/
/- All orders; the summaries; the root of a state. -/
import Derived.Test.YteaiajghbkenoaaGreatDoorEz
import Derived.Test.YteaiajghbkenoaaGreatDoorPr5
import Derived.Test.YteaiajghbkenoaaGreatDoorQe1
import Derived.Test.YteaiajghbkenoaaGreatDoorLg5
import Derived.Test.YteaiajghbkenoaaGreatDoorEx36
set_option linter.unusedVariables false
set_option linter.unusedSimpArgs false
namespace Go.Proofs.YteaiajghbkenoaaGreatDoor
open Go.Proofs.Tryz
open Go Go.RowKit Gw
set_option maxRecDepth 100000
attribute [local irreducible] Gw.At Gw.Nx Gw.Ops
variable{rs:List AQ}
theorem Nt(hs:BM rs):rs.Nodup:=hs.imp (by
 intro a b h e;subst e;unfold AQ.lt2 at h;omega)
variable{q:QM}
theorem Ny(hq:BH q)(rs:List AQ)(x:AQ):x∈CF rs q↔x∈rs/\inQ q x=true:=by rw [(Gn hq rs).mem_iff,AA2]
theorem RG(hq:BH q)(hs:BM rs):(CF rs q).Nodup:=(Gn hq rs).nodup_iff.2 ((Nt hs).filter _)
theorem RF(hq:BH q){o:List AQ}(hs:BM rs)(hn:o.Nodup)(hm:∀x,x∈o↔x∈rs/\inQ q x=true)(h2:o.Pairwise (leV q.cl.toNat)):o=CF rs q:=by
 have h:=Gn hq rs;refine RA hs (f:=inQ q) (t:=q.tb) (fun r h9=>(An1 h9).1) ?_ h h2 (ER hs _ _ _ _);exact (AC0 hn ((Nt hs).filter _)).2 fun x=>by rw [hm,AA2]
variable{y x:AQ}
theorem OH{b:Bool}(h:Gx q b x=some y):y=x/\b=true/\inQ q y=true:=by
 unfold Gx at h;split at h
 · rename_i h9
   rw [zy]at h9;injection h with h
   subst h;exact ⟨V,h9⟩
 · cases h
theorem nP{b:Bool}(h:Gx q b x=none)(hh:b=true):inQ q x=false:=by
 unfold Gx at h;rw [hh,AJ1]at h;split at h
 · cases h
 · simp_all
theorem Ql(hq:BH q)(y x:AQ):Jz q y x=true↔DR y q.cl.toNat<DR x q.cl.toNat\/(DR x q.cl.toNat=DR y q.cl.toNat/\y.k<x.k):=by
 have hc:=hq.2.1;have e:∀r,Be r q.cl=DR r q.cl.toNat:=fun r=>by
  have:=Kr r q.cl.toNat Ao7;rwa [show((q.cl.toNat:Nat):Int)=q.cl by omega]at this
 unfold Jz;rw [e,e,AG7,zy,Am9,Am9,Am9]
theorem wh(hq:BH q)(h:Jz q y x=false):leV q.cl.toNat x y:=by
 have h1:=Ql hq y x;rw [h]at h1;unfold leV;have:¬(DR y q.cl.toNat<DR x q.cl.toNat\/(DR x q.cl.toNat=DR y q.cl.toNat/\y.k<x.k)):=fun h9=>by cases h1.2 h9
 omega
theorem wm(hq:BH q)(h:Jz q y x=true):leV q.cl.toNat y x:=by
 have:=(Ql hq y x).1 h;unfold leV;omega
theorem Un(hq:BH q){L:List AQ}(hL:L.Pairwise (leV q.cl.toNat))(y:AQ):∃A B,L=A++B/\QT (Jz q y) L y=A++[y]++B/\(∀x∈A,Jz q y x=false)/\(∀x∈B,Jz q y x=true):=by
 cases h:L.findIdx? (Jz q y)with
 |none=>
  refine ⟨L,[],by simp,?_,AH4.1 h,by simp⟩;unfold QT;rw [h];simp
 |some i=>
  obtain ⟨h1,h2,h3⟩:=AC5.1 h;refine ⟨L.take i,L.drop i,(AB4 i L).symm,?_,fun x hx=>?_,fun x hx=>?_⟩
  · unfold QT
    rw [h];rfl
  · obtain ⟨j,hj⟩:=AA1 hx
    rw [AA7]at hj;split at hj
    · rename_i hji
      obtain ⟨h4,rfl⟩:=zF.1 hj;simpa using h3 j hji
    · cases hj
  · have h5:=hL.sublist (List.drop_sublist i L)
    rw [AD0 h1]at hx h5;rcases za.1 hx with rfl|hx
    · exact h2
    · have h6:=(AE5.1 h5).1 x hx
      have h7:=(Ql hq y _).1 h2;rw [Ql hq];unfold leV at h6;omega
theorem YA(pd:AQ->Bool)(L:List AQ)(y:AQ):(QT pd L y).Perm (y::L):=by
 unfold QT;simp only [zM,AC2];refine AF7.trans ?_;rw [AB4]
theorem bX(hq:BH q){L:List AQ}(hL:L.Pairwise (leV q.cl.toNat))(y:AQ):(QT (Jz q y) L y).Pairwise (leV q.cl.toNat):=by
 obtain ⟨A,B,e,e2,hA,hB⟩:=Un hq hL y;rw [e2];rw [e]at hL;obtain ⟨h1,h2,h3⟩:=AD1.1 hL;rw [zM];refine AD1.2 ⟨h1,AE5.2 ⟨fun x hx=>wm hq (hB x hx),h2⟩,fun a ha b hb=>?_⟩;rcases za.1 hb with rfl|hb
 · exact wh hq (hA a ha)
 · exact h3 a ha b hb
theorem wN(c:Chg)(x:AQ):Ja c x=true↔x.is c.t c.k:=by
 unfold Ja AQ.is;rw [zy,Am9,Am9]
variable{c:Chg}
theorem Rn(hq:BH q)(hs:BM rs)(hf:IG rs c):Dc q c (CF rs q)=CF (Es rs c) q:=by
 have hL:((CF rs q).filter fun x=>!Ja c x).Pairwise (leV q.cl.toNat):=(ER hs _ _ _ _).sublist AF5;have hN:((CF rs q).filter fun x=>!Ja c x).Nodup:=(RG hq hs).filter _
 have hM:∀x,x∈((CF rs q).filter fun x=>!Ja c x)↔(x∈rs/\¬x.is c.t c.k)/\inQ q x=true:=fun x=>by
  rw [AA2,Ny hq,AG0,<-AS9,wN];constructor
  · rintro ⟨⟨a,b⟩,d⟩;exact ⟨⟨a,d⟩,b⟩
  · rintro ⟨⟨a,d⟩,b⟩;exact ⟨⟨a,b⟩,d⟩
 unfold Dc;cases ha:afQ q c with
 |none=>
  refine RF hq (Il hs hf) hN (fun x=>?_) hL;rw [hM,Fa hs hf];constructor
  · rintro ⟨a,b⟩;exact ⟨.inl a,b⟩
  · rintro ⟨a|⟨a,rfl⟩,b⟩
    · exact ⟨a,b⟩
    · rw [nP ha a]at b;cases b
 |some y=>
  obtain ⟨hy,hh,hi⟩:=OH ha;have hyn:y∉((CF rs q).filter fun x=>!Ja c x):=fun h=>((hM y).1 h).1.2 (by rw [hy];exact ⟨rfl,rfl⟩)
  refine RF hq (Il hs hf) ((YA _ _ y).nodup_iff.2 (AB9.2 ⟨hyn,hN⟩)) (fun x=>?_) (bX hq hL y);rw [(YA _ _ y).mem_iff,za,hM,Fa hs hf];constructor
  · rintro (rfl|⟨a,b⟩)
    · exact ⟨.inr ⟨hh,hy⟩,hi⟩
    · exact ⟨.inl a,b⟩
  · rintro ⟨a|⟨a,e⟩,b⟩
    · exact .inr ⟨a,b⟩
    · exact .inl (e.trans hy.symm)
theorem YX(lt:Int->Int->Bool)(hlt:∀a b c,lt b a=false->lt c b=false->lt c a=false)(hirr:∀a,lt a a=false)(hasy:∀a b,lt a b=true->lt b a=false)(htot:∀a b,lt a b=false->lt b a=false->a=b){l:List Int}{x:Int}(hx:x∈l)(h:∀y∈l,lt y x=false):E8 lt l=⟨[],x,true⟩:=by
 match l,hx,h with
 |z::l,hx,h=>
  obtain ⟨x',a1,a2,a3⟩:=Jw lt hlt hirr hasy z l;rw [a3,htot x x' (a2 x hx) (h x' a1)]
theorem pK(lt:Int->Int->Bool)(l:List Int)(n:Int):E8 lt (l++[n])=⟨(E8 lt l).rows,if !(E8 lt l).fnd||lt n (E8 lt l).val then n else(E8 lt l).val,true⟩:=by
 unfold E8;rw [AJ6];rfl
theorem jl(lt:Int->Int->Bool)(hlt:∀a b c,lt b a=false->lt c b=false->lt c a=false)(hirr:∀a,lt a a=false)(hasy:∀a b,lt a b=true->lt b a=false)(htot:∀a b,lt a b=false->lt b a=false->a=b)(X:List Int)(b a:Option Int)
 (h:(G8 lt b.isSome a.isSome (b.getD 0) (a.getD 0) (E8 lt (X++b.toList))).2=true):(G8 lt b.isSome a.isSome (b.getD 0) (a.getD 0) (E8 lt (X++b.toList))).1=E8 lt (X++a.toList):=by
 have hadd:∀r:Bw,r=E8 lt X->(if a.isSome then((⟨r.rows,if !r.fnd||lt (a.getD 0) r.val then a.getD 0 else r.val,true⟩:Bw),true)else(r,true)).1=E8 lt (X++a.toList):=fun r hr=>by
  subst hr;cases a with
  |none=>simp
  |some n=>rw [AS2,pK];rfl
 cases b with
 |none=>
  have e:E8 lt (X++(none:Option Int).toList)=E8 lt X:=by simp
  rw [e]at h⊢;exact hadd _ V
 |some o=>
  have hne:∃x∈X++[o],(∀y∈X++[o],lt y x=false)/\E8 lt (X++[o])=⟨[],x,true⟩:=by
   cases hx:X++[o]with
   |nil=>simp at hx
   |cons z l=>exact Jw lt hlt hirr hasy z l
  obtain ⟨x,h1,h2,h3⟩:=hne;rw [AS2]at h⊢;rw [h3]at h⊢;unfold G8 at h⊢;simp only [Option.isSome_some,AN4,AJ1,AK8,AS6]at h⊢;cases hxo:lt x o with
  |false=>
   rw [hxo]at h;simp only [AT7,An4]at h⊢;have hox:=h2 o Ap0
   have exo:=htot x o hxo hox;subst exo;cases a with
   |none=>simp at h
   |some n=>
    simp only [Option.isSome_some,AN4,AJ1,Bool.and_true,AG0]at h;rw [AS2,YX lt hlt hirr hasy htot (x:=n) Ap0 fun y hy=>?_]
    · rfl
    · rcases zJ.1 hy with hy|hy
      · exact hlt n x y h (h2 y (by simp [hy]))
      · rw [zI.1 hy];exact hirr n
  |true=>
   simp only [AK8,AD4,An2];have hxX:x∈X:=by
    rcases zJ.1 h1 with h9|h9
    · exact h9
    · rw [zI.1 h9,hirr]at hxo;cases hxo
   have e:(⟨[],x,true⟩:Bw)=E8 lt X:=(YX lt hlt hirr hasy htot hxX fun y hy=>h2 y (by simp [hy])).symm;have:=hadd _ e
   simpa using this
theorem OM(q:QM)(a b:List AQ):Cg q (a++b)=Cg q a++Cg q b:=zK
theorem Xl(q:QM)(o:Option AQ):Cg q o.toList=(o.map fun r=>Be r q.bq).toList:=by cases o<;>rfl
theorem bH(q:QM)(o:Option AQ):mQ q o=(o.map fun r=>Be r q.bq).getD 0:=by cases o<;>rfl
theorem ed(q:QM)(o:Option AQ):o.isSome=(o.map fun r=>Be r q.bq).isSome:=by cases o<;>rfl
theorem rf(o:Option Int):JX o.toList=o.getD 0:=by
 cases o with
 |none=>rfl
 |some x=>show x+0=x;omega
theorem XY(hq:BH q)(hs:BM rs)(hf:IG rs c)(h7:q.kd≠7)(ht:CU q c=true)(h:(Bo q c (Cc rs q)).2=true):(Bo q c (Cc rs q)).1=Cc (Es rs c) q:=by
 obtain ⟨A,B,e1,e2⟩:=PP hf;have f1:rs.filter (inQ q)=A.filter (inQ q)++(bfQ q c).toList++B.filter (inQ q):=by
  conv=>lhs;rw [e1]
  rw [AB3,AB3,SB]
 have f2:(Es rs c).filter (inQ q)=A.filter (inQ q)++(afQ q c).toList++B.filter (inQ q):=by
  rw [e2,AB3,AB3,SE]
 have p1:=Gn hq rs;have p2:=Gn hq (Es rs c)
 rw [f1]at p1;rw [f2]at p2;have hk:=hq.2.2.2
 have l1:=p1.length_eq;have l2:=p2.length_eq
 simp only [zG]at l1 l2;have m1:(Cg q (CF rs q)).Perm ((Cg q (A.filter (inQ q))++Cg q (B.filter (inQ q)))++((bfQ q c).map fun r=>Be r q.bq).toList):=by
  rw [<-Xl,<-OM,<-OM];refine (p1.map _).trans (List.Perm.map _ ?_);simp only [zM];exact AD2 _ AB7
 have m2:(Cg q (CF (Es rs c) q)).Perm ((Cg q (A.filter (inQ q))++Cg q (B.filter (inQ q)))++((afQ q c).map fun r=>Be r q.bq).toList):=by
  rw [<-Xl,<-OM,<-OM];refine (p2.map _).trans (List.Perm.map _ ?_);simp only [zM];exact AD2 _ AB7
 have hx:∀lt:Int->Int->Bool,(∀a b c,lt b a=false->lt c b=false->lt c a=false)->(∀a,lt a a=false)->(∀a b,lt a b=true->lt b a=false)->(∀a b,lt a b=false->lt b a=false->a=b)->(G8 lt (bfQ q c).isSome (afQ q c).isSome (mQ q (bfQ q c)) (mQ q (afQ q c)) (E8 lt (Cg q (CF rs q)))).2=true->(G8 lt (bfQ q c).isSome (afQ q c).isSome (mQ q (bfQ q c)) (mQ q (afQ q c)) (E8 lt (Cg q (CF rs q)))).1=E8 lt (Cg q (CF (Es rs c) q)):=fun lt a1 a2 a3 a4 h9=>by
  rw [Oa lt a1 a2 a3 a4 (fun y=>m1.mem_iff),bH,bH,ed,ed]at h9⊢;rw [Oa lt a1 a2 a3 a4 (fun y=>m2.mem_iff)];exact jl lt a1 a2 a3 a4 _ _ _ h9
 unfold Bo Cc F8 at h⊢;unfold CU at ht;rcases (by omega:(q.kd=1\/q.kd=2)\/q.kd=3\/q.kd=4\/q.kd=5\/q.kd=6)with h8|h8|h8|h8|h8
 · have g3:¬q.kd=3:=by omega
   have g4:¬q.kd=4:=by omega
   have g5:¬q.kd=5:=by omega
   have g6:¬q.kd=6:=by omega
   simp only [Am7 h8,g3,g4,g5,g6,h7,An2,Rn hq hs hf]
 · have g2:¬(q.kd=1\/q.kd=2):=by omega
   simp only [Am6 g2,Am7 h8]at ht⊢;unfold Tn at ht;cases hb:bfQ q c<;>cases ha:afQ q c<;>rw [hb,ha]at ht<;>rw [hb]at l1<;>rw [ha]at l2<;>simp at ht l1 l2⊢<;>omega
 · have g2:¬(q.kd=1\/q.kd=2):=by omega
   have g3:¬q.kd=3:=by omega
   simp only [Am6 g2,g3,Am7 h8,An2];have s1:=Ll m1
   have s2:=Ll m2;rw [X4,rf,<-bH]at s1 s2;have g:∀l,Kw l=JX l:=fun l=>by unfold Kw;rw [M8];omega
   simp only [g];congr 1;omega
 · have g2:¬(q.kd=1\/q.kd=2):=by omega
   have g3:¬q.kd=3:=by omega
   have g4:¬q.kd=4:=by omega
   simp only [Am6 g2,g3,g4,Am7 h8,An2]at h⊢;exact hx _ (fun a b c h1 h2=>by simp only [An0]at*;omega) (fun a=>by simp) (fun a b h=>by simp only [Am9,An0]at*;omega) (fun a b h1 h2=>by simp only [An0]at*;omega) h
 · have g2:¬(q.kd=1\/q.kd=2):=by omega
   have g3:¬q.kd=3:=by omega
   have g4:¬q.kd=4:=by omega
   have g5:¬q.kd=5:=by omega
   simp only [Am6 g2,g3,g4,g5,Am7 h8,An2]at h⊢;exact hx _ (fun a b c h1 h2=>by simp only [An0]at*;omega) (fun a=>by simp) (fun a b h=>by simp only [Am9,An0]at*;omega) (fun a b h1 h2=>by simp only [An0]at*;omega) h
theorem FP(hs:BM rs)(k:Int)(x:AQ):DJ q (Ht rs q.ot) k=some x↔x∈rs/\x.is q.ot k:=by
 have hu:∀a∈rs,∀b∈rs,a.is q.ot k->b.is q.ot k->a=b:=fun a ha b hb h1 h2=>by
  have e1:=Ju hs ha h1;have e2:=Ju hs hb h2
  rw [e1]at e2;injection e2
 have hin:∀y,y∈Ht rs q.ot/\decide (y.t=q.ot/\y.k=k)=true↔y∈rs/\y.is q.ot k:=fun y=>by
  unfold Ht inT AQ.is;rw [AA2,Am9,Am9];constructor
  · rintro ⟨⟨a,_⟩,b⟩;exact ⟨a,b⟩
  · rintro ⟨a,b⟩;exact ⟨⟨a,b.1⟩,b⟩
 unfold DJ;constructor
 · intro h
   exact (hin x).1 ⟨AL2 h,by simpa using AR2 (p:=fun x:AQ=>decide (x.t=q.ot/\x.k=k)) h⟩
 · intro h
   cases hf:(Ht rs q.ot).find? fun x=>decide (x.t=q.ot/\x.k=k)with
   |none=>
    have:=AO9.1 hf x ((hin x).2 h).1;exact absurd ((hin x).2 h).2 this
   |some y=>
    have h2:=(hin y).1 ⟨AL2 hf,by simpa using AR2 (p:=fun x:AQ=>decide (x.t=q.ot/\x.k=k)) hf⟩;rw [hu y h2.1 x h.1 h2.2 h.2]
def prQ(rs:List AQ)(q:QM)(r:AQ):Option BS:=(DJ q (Ht rs q.ot) (Be r q.bq)).map fun x=>⟨r,x⟩
def xN(rs:List AQ)(q:QM):List BS:=(CF rs q).filterMap (prQ rs q)
theorem Y0(rs:List AQ)(q:QM):∀l:List AQ,IL q l (Ht rs q.ot)=D8 (l.filterMap (prQ rs q))
 |[]=>rfl
 |r::l=>by
  have h:=Y0 rs q l;unfold IL at h⊢;rw [AB2,h,AN7];unfold IK prQ;cases DJ q (Ht rs q.ot) (Be r q.bq)<;>rfl
theorem ak(ps:List BS):EZ (D8 ps)=ps:=by
 have hl:(D8 ps).length=2*ps.length:=Ha ps;have hat:∀(ps:List BS) (k:Nat) (p:BS),ps[k]?=some p->(D8 ps)[2*k]?=some p.l/\(D8 ps)[2*k+1]?=some p.r:=by
  intro ps;induction ps with
  |nil=>intro k p h;cases h
  |cons a ps ih=>
   intro k p h;have e:D8 (a::ps)=a.l::a.r::D8 ps:=rfl
   rw [e];cases k with
   |zero=>injection h with h;subst h;exact ⟨rfl,rfl⟩
   |succ k=>
    have:=ih k p h;rw [show 2*(k+1)=2*k+2 by omega];exact this
 apply AD5;intro k;have hlen:(EZ (D8 ps)).length=ps.length:=by rw [Jo];omega
 rcases AB1 k ps.length with h|h
 · obtain ⟨h1,h2⟩:=hat ps k _ (zD h)
   unfold EZ;rw [zY,AH5 Ao7,AG6,AB5,AB5,h1,h2,zD h];rfl
 · rw [AC7 Ao7,AC7 h]
variable{α:Type}
theorem sZ{a b:Option α}(h:∀x,a=some x↔b=some x):a=b:=Option.ext h
variable{r:AQ}
theorem UT{p:BS}(h:prQ rs q r=some p):p.l=r/\DJ q (Ht rs q.ot) (Be r q.bq)=some p.r:=by
 unfold prQ at h;cases hp:DJ q (Ht rs q.ot) (Be r q.bq)with
 |none=>rw [hp]at h;cases h
 |some x=>rw [hp]at h;injection h with h;subst h;exact ⟨rfl,rfl⟩
theorem Sm{α β:Type}{f g:α->Option β}:∀{l:List α},(∀x∈l,f x=g x)->l.filterMap f=l.filterMap g
 |[],_=>rfl
 |x::l,h=>by rw [AN7,AN7,h x Ap0,Sm fun y hy=>h y (by simp [hy])]
theorem Mk{β γ:Type}(f:α->Option β)(g:β->Option γ)(h:α->Option γ)(l:List α)(e:∀x∈l,(f x).bind g=h x):(l.filterMap f).filterMap g=l.filterMap h:=by
 rw [AO3];exact Sm e
theorem pG(pd:BS->Bool)(A B:List BS)(y:BS)(hA:∀x∈A,pd x=false)(hB:∀x∈B,pd x=true):OT pd (A++B) y=A++[y]++B:=by
 have e:((A++B).findIdx? pd).getD (A++B).length=A.length:=by
  rw [List.findIdx?_append,AH4.2 hA];cases B with
  |nil=>simp
  |cons b B=>rw [List.findIdx?_cons,hB b Ap0];simp
 unfold OT;rw [e];simp
theorem XX(hq:BH q)(hs:BM rs)(hf:IG rs c)(h7:q.kd=7)(ht:CU q c=true)(h:(Bo q c (Cc rs q)).2=true):(Bo q c (Cc rs q)).1=Cc (Es rs c) q:=by
 have hs2:=Il hs hf;have hev:∀rs,Cc rs q=⟨D8 (xN rs q),0,false⟩:=fun rs=>by
  unfold Cc F8;simp only [show¬q.kd=3 by omega,show¬q.kd=4 by omega,show¬q.kd=5 by omega,show¬q.kd=6 by omega,h7,An4,An2];rw [Y0];rfl
 have hpt:∀r,Bo q c r=Cs q c r:=fun r=>by
  unfold Bo;simp only [show¬(q.kd=1\/q.kd=2) by omega,show¬q.kd=3 by omega,show¬q.kd=4 by omega,show¬q.kd=5 by omega,show¬q.kd=6 by omega,An2]
 have htq:NZ q c=true\/c.t=q.ot:=by
  unfold CU at ht;simp only [show¬(q.kd=1\/q.kd=2) by omega,show¬q.kd=3 by omega,show¬q.kd=4 by omega,show¬(q.kd=5\/q.kd=6) by omega,An2,AG7,Am9]at ht;exact ht
 rw [hpt,hev]at h⊢;rw [hev];unfold Cs at h⊢;split
 · rename_i h9;rw [Am7 h9]at h;cases h
 rename_i hto;rw [Am6 hto]at h;simp only [ak]at h⊢;congr 2;have hsame:c.t≠q.tb->CF (Es rs c) q=CF rs q:=fun hne=>by
  refine (RF hq hs2 (RG hq hs) (fun x=>?_) (ER hs _ _ _ _)).symm;rw [Ny hq,Fa hs hf];constructor
  · rintro ⟨a,b⟩
    exact ⟨.inl ⟨a,fun h9=>hne (h9.1.symm.trans (An1 b).1)⟩,b⟩
  · rintro ⟨⟨a,_⟩|⟨a,rfl⟩,b⟩
    · exact ⟨a,b⟩
    · exact absurd (An1 b).1 hne
 unfold jnT xN at h⊢;by_cases hot:c.t=q.ot
 · rw [Am7 hot]at h⊢
   rw [hsame Ao7];have hpart:∀k,DJ q (Ht (Es rs c) q.ot) k=if k=c.k then(if c.has then some ⟨c.t,c.k,c.n⟩else none)else DJ q (Ht rs q.ot) k:=fun k=>by
    apply sZ;intro x;rw [FP hs2,Fa hs hf];unfold AQ.is;split
    · rename_i hk
      split
      · rename_i hh
        rw [Option.some_inj];constructor
        · rintro ⟨⟨_,a⟩|⟨_,rfl⟩,b,d⟩
          · exact absurd ⟨b.trans hot.symm,d.trans hk⟩ a
          · rfl
        · rintro rfl;exact ⟨.inr ⟨hh,rfl⟩,hot,hk.symm⟩
      · rename_i hh
        constructor
        · rintro ⟨⟨_,a⟩|⟨a,_⟩,b,d⟩
          · exact absurd ⟨b.trans hot.symm,d.trans hk⟩ a
          · exact absurd a hh
        · intro h9;cases h9
    · rename_i hk
      rw [FP hs];unfold AQ.is;constructor
      · rintro ⟨⟨a,_⟩|⟨_,rfl⟩,b⟩
        · exact ⟨a,b⟩
        · exact absurd b.2.symm hk
      · rintro ⟨a,b,d⟩
        exact ⟨.inl ⟨a,fun h9=>hk (d.symm.trans h9.2)⟩,b,d⟩
   have hold:c.had=true->∃x,DJ q (Ht rs q.ot) c.k=some x:=fun hh=>by
    obtain ⟨r,hr,hi,_⟩:=Jv (hf.1.trans hh);exact ⟨r,(FP hs c.k r).2 ⟨hr,by rw [<-hot];exact hi⟩⟩
   have hkey:∀{k x},DJ q (Ht rs q.ot) k=some x->x.k=k:=fun h9=>((FP hs _ _).1 h9).2.2;split
   · rename_i hh
     rw [Am7 hh]at h;obtain ⟨x0,hx0⟩:=hold h;rw [<-List.filterMap_eq_map];refine Mk _ _ _ _ fun r _=>?_;unfold prQ;rw [hpart,hh];by_cases hk:Be r q.bq=c.k
     · rw [hk,hx0,Am7 rfl]
       simp only [AG6,AC4,Function.comp_apply,Gd,hkey hx0,decide_true,An4]
     · rw [Am6 hk]
       cases hp:DJ q (Ht rs q.ot) (Be r q.bq)with
       |none=>rfl
       |some x=>simp only [AG6,AC4,Function.comp_apply,Gd,hkey hp,hk,An5,AD4,An2]
   · rename_i hh
     rw [Am6 hh]at h;rw [<-AO4];refine Mk _ _ _ _ fun r _=>?_;unfold prQ;rw [hpart,Am6 hh];by_cases hk:Be r q.bq=c.k
     · rw [hk,Am7 rfl]
       obtain ⟨x0,hx0⟩:=hold h;rw [hx0];simp [Option.guard,Gd,hkey hx0]
     · rw [Am6 hk]
       cases hp:DJ q (Ht rs q.ot) (Be r q.bq)with
       |none=>rfl
       |some x=>simp [Option.guard,Gd,hkey hp,hk]
 · rw [Am6 hot]at h⊢
   have hg:∀r,prQ (Es rs c) q r=prQ rs q r:=fun r=>by unfold prQ;rw [dx hf hot]
   have hgf:prQ (Es rs c) q=prQ rs q:=funext hg;rw [hgf];have htb:c.t=q.tb:=by
    rcases htq with h9|h9
    · unfold NZ at h9
      rw [AG7]at h9;rcases h9 with h9|h9
      · obtain ⟨y,hy⟩:=AK2.1 h9
        obtain ⟨e,_,hi⟩:=OH hy;rw [e]at hi;exact (An1 hi).1
      · obtain ⟨y,hy⟩:=AK2.1 h9
        obtain ⟨e,_,hi⟩:=OH hy;rw [e]at hi;exact (An1 hi).1
    · exact absurd h9 hot
   have hrest:((CF rs q).filterMap (prQ rs q)).filter (fun p=>!Pb c.k p)=((CF rs q).filter fun x=>!Ja c x).filterMap (prQ rs q):=by
    rw [<-AO4,<-AO4,AO3,AO3];refine Sm fun r hr=>?_;have hrt:r.t=c.t:=((An1 ((Ny hq rs r).1 hr).2).1).trans htb.symm
    by_cases hk:r.k=c.k
    · cases hp:prQ rs q r with
      |none=>simp [Option.guard,Ja,hrt,hk]
      |some p=>simp [Option.guard,Ja,hrt,hk,Pb,(UT hp).1]
    · cases hp:prQ rs q r with
      |none=>simp [Option.guard,Ja,hrt,hk,hp]
      |some p=>simp [Option.guard,Ja,hrt,hk,Pb,(UT hp).1,hp]
   rw [hrest]at h⊢;have hscan:=Rn hq hs hf
   rw [<-hscan];unfold Dc;cases ha:afQ q c with
   |none=>rfl
   |some y=>
    rw [ha]at h;simp only [ha]at h⊢;have hm:mQ q (some y)=Be y q.bq:=rfl
    rw [hm]at h⊢;have hL:((CF rs q).filter fun x=>!Ja c x).Pairwise (leV q.cl.toNat):=(ER hs _ _ _ _).sublist AF5
    obtain ⟨A,B,e1,e2,hA,hB⟩:=Un hq hL y;rw [e2];cases hfi:((CF rs q).filterMap (prQ rs q)).findIdx? (Gd (Be y q.bq))with
    |none=>
     have hi:GV (Gd (Be y q.bq)) ((CF rs q).filterMap (prQ rs q))=-1:=by unfold GV;rw [hfi];rfl
     rw [hi,Am7 Ao9]at h⊢;rw [zy,Am9]at h;obtain ⟨b,hb⟩:=AK2.1 h.1;obtain ⟨eb,hbh,hbi⟩:=OH hb;have h9:=h.2
     rw [hb]at h9;have hbm:b∈CF rs q:=by
      refine (Ny hq rs b).2 ⟨?_,hbi⟩;obtain ⟨r,hr,hi,_,he⟩:=Jv (hf.1.trans hbh);have hv:=hf.2 (hf.1.trans hbh)
      rw [he]at hv;have:b=r:=by
       rw [eb];obtain ⟨t,k,v⟩:=r;obtain ⟨h5,h6⟩:=hi;simp only at h5 h6 hv;subst h5 h6 hv;rfl
      rw [this];exact hr
     have hgb:prQ rs q b=none:=by
      cases hp:prQ rs q b with
      |none=>rfl
      |some p=>
       have h10:=AH4.1 hfi p (AI0.2 ⟨b,hbm,hp⟩);have h11:=(FP hs _ _).1 (UT hp).2
       unfold Gd at h10;rw [An0]at h10;exact absurd (h11.2.2.trans h9) h10
     have hgy:prQ rs q y=none:=by
      unfold prQ at hgb⊢;rw [show Be y q.bq=Be b q.bq from h9.symm];cases hp:DJ q (Ht rs q.ot) (Be b q.bq)with
      |none=>rfl
      |some x=>rw [hp]at hgb;cases hgb
     rw [e1,AJ9,AJ9,AJ9];simp [hgy]
    |some i=>
     obtain ⟨h1,h2,h3⟩:=AC5.1 hfi;have hi:GV (Gd (Be y q.bq)) ((CF rs q).filterMap (prQ rs q))=(i:Int):=by unfold GV;rw [hfi];rfl
     rw [hi,Am6 Ao7]at h⊢;rw [AH7,AB5,zD h1,AN4];obtain ⟨r,hr,hp⟩:=AI0.1 (AT1 h1);generalize ((CF rs q).filterMap (prQ rs q))[i]=p at h2 hp;have h4:=(FP hs _ _).1 (UT hp).2
     unfold Gd at h2;rw [Am9]at h2;have hgy:prQ rs q y=some ⟨y,p.r⟩:=by
      unfold prQ;rw [(FP hs (Be y q.bq) p.r).2 ⟨h4.1,h4.2.1,h2⟩];rfl
     rw [e1,AJ9,pG]
     · simp [hgy]
     · intro x hx
       obtain ⟨r9,hr9,hp9⟩:=AI0.1 hx;rw [(UT hp9).1];exact hA r9 hr9
     · intro x hx
       obtain ⟨r9,hr9,hp9⟩:=AI0.1 hx;rw [(UT hp9).1];exact hB r9 hr9
theorem ae(hq:BH q)(hs:BM rs)(hf:IG rs c)(ht:CU q c=true)(h:(Bo q c (Cc rs q)).2=true):(Bo q c (Cc rs q)).1=Cc (Es rs c) q:=by
 by_cases h7:q.kd=7
 · exact XX hq hs hf h7 ht h
 · exact XY hq hs hf h7 ht h
def FX(q:QM)(base:Int):Nat->Bw×Int->List BN->Option (Bw×Int)
 |_,st,[]=>some st
 |i,st,x::l=>if(BQ q st.1 x.cs).2.2=true/\base<=9223372036854775806 -(i:Int)/\x.p=base+1+(i:Int)then FX q base (i+1) ((BQ q st.1 x.cs).1,if(BQ q st.1 x.cs).2.1 then x.p else st.2) l else none
theorem O4(q:QM)(base:Int):∀(a:List BN) (i:Nat) (st:Bw×Int) (b:List BN),FX q base i st (a++b)=(FX q base i st a).bind fun st'=>FX q base (i+a.length) st' b
 |[],i,st,b=>rfl
 |x::a,i,st,b=>by
  show(if(BQ q st.1 x.cs).2.2=true/\base<=9223372036854775806 -(i:Int)/\x.p=base+1+(i:Int)then FX q base (i+1) _ (a++b)else none)=(if(BQ q st.1 x.cs).2.2=true/\base<=9223372036854775806 -(i:Int)/\x.p=base+1+(i:Int)then FX q base (i+1) _ a else none).bind _;split
  · rw [O4 q base a (i+1) _ b,ze,show i+(a.length+1)=i+1+a.length by omega]
  · rfl
theorem Ig{base:Int}{st sk:Bw×Int}{l:List BN}{k:Nat}{x:BN}(h:FX q base 0 st (l.take k)=some sk)(hx:l[k]?=some x):FX q base 0 st (l.take (k+1))=if(BQ q sk.1 x.cs).2.2=true/\base<=9223372036854775806 -(k:Int)/\x.p=base+1+(k:Int)then some ((BQ q sk.1 x.cs).1,if(BQ q sk.1 x.cs).2.1 then x.p else sk.2)else none:=by
 have hk:=(zF.1 hx).1;rw [Bc hx,O4,h,zN,AG8 Ao7,zo];rfl
theorem Lm{base:Int}{st:Bw×Int}{l:List BN}{k:Nat}(h:FX q base 0 st (l.take k)=none):FX q base 0 st l=none:=by
 rw [<-AB4 k l,O4,h];rfl
def Av(q:QM)(r:Bw)(base:Int)(l:List BN):Bw×Int×Bool:=match FX q base 0 (r,base) l with
 |some st=>(st.1,st.2,true)
 |none=>(Bw.none,0,false)
theorem Lg{r:Bw}{cs:List Chg}(h:(BQ q r cs).2.2=true):Gp q r cs=some (BQ q r cs).1/\(BQ q r cs).2.1=cs.any (DI q):=by
 unfold BQ at*;split at h
 · rename_i h9;rw [h9];exact ⟨rfl,rfl⟩
 · cases h
theorem O3{q:QM}{base:Int}:∀(l:List BN) (i:Nat) (st st':Bw×Int) (B:Int) (n:Nat),FX q base i st l=some st'->(∀x∈l,x.cs.length<=1000)->(-B<=st.1.val/\st.1.val<=B)->0<=B->st.1.rows.length<=n->(-(B+2000000000000*(l.length:Int))<=st'.1.val/\st'.1.val<=B+2000000000000*(l.length:Int))/\st'.1.rows.length<=n+2000*l.length
 |[],i,st,st',B,n,h,hl,h1,h2,h3=>by
  unfold FX at h;injection h with h
  subst h;simp only [AF4];exact ⟨⟨by omega,by omega⟩,h3⟩
 |x::l,i,st,st',B,n,h,hl,h1,h2,h3=>by
  unfold FX at h;split at h
  · rename_i h9
    have h4:=VV _ _ _ B n (Lg h9.1).1 h1 h2 h3;have h5:=hl x Ap0
    have h6:=O3 l (i+1) _ st' (B+2000000000000) (n+2000) h (fun y hy=>hl y (by simp [hy])) ⟨by simp only;omega,by simp only;omega⟩ Ao7 (by simp only;omega);rw [ze];obtain ⟨⟨h7,h8⟩,h10⟩:=h6;refine ⟨⟨?_,?_⟩,by omega⟩<;>(push_cast;omega)
  · cases h
set_option maxHeartbeats 1000000 in
theorem Py(q:QM)(hq:BH q)(base:Int)(hb:-9223372036854775808<=base/\base<=9223372036854775807){l:List BN}{lv:Value}{ML:List A8}(hL:EA ML lv l)(hll:l.length<=1000)(hcs:∀x∈l,x.cs.length<=1000){r:Bw}{rv:Value}{A:List A8}(hr:Dh A rv r.rows)(hn:r.rows.length<=1000000)(hv:-1000000000000000000<=r.val/\r.val<=1000000000000000000):BR Tryz.prog 91 #[.agg #[I4 q.kd,I4 q.tb,I4 q.cl,I4 q.lo,I4 q.hi,I4 q.bq,I4 q.ot],.agg #[rv,I4 r.val,.bool r.fnd],I4 base,lv] [A,ML] (fun w H'=>∃rv' s',w= .tuple #[.agg #[rv',I4 (Av q r base l).1.val,.bool (Av q r base l).1.fnd],I4 (Av q r base l).2.1,.bool (Av q r base l).2.2]/\BZ 5 83 rv' (Av q r base l).1.rows.length (Ac (Av q r base l).1.rows) s'/\H'=[s',A,ML]):=by
 have hml:=mL;obtain ⟨pv,cv,rfl,_⟩:=id hr;obtain ⟨pl,capl,rfl,⟨hlm,hlc⟩,hgl⟩:=id hL;refine Se func91 ntmps91 [0,1,2,3] ?_;intro u R;refine Zq<|Zg<|Ze (Bx #[I4 q.kd,I4 q.tb,I4 q.cl,I4 q.lo,I4 q.hi,I4 q.bq,I4 q.ot]) ?_;rintro _ _ ⟨bq,rfl,rfl⟩;refine Ze (Bx #[.slice pv r.rows.length cv,I4 r.val,.bool r.fnd]) ?_;rintro _ _ ⟨br,rfl,rfl⟩;refine Ze (Al AW5 #[_,_,_]) ?_;rintro _ _ ⟨bo,rfl,rfl⟩;refine Za Y<|Za Y<|Z0<|Zx<|Zq<|Zg<|Zm Y<|Za Y<|Z0<|Zx<|Zq<|Zg<|Zh 0 AU6 V rfl AW8 Y<|Zl Ab2 Y ?_;refine Zc [_] Y call109 Y V (GJ hr Ao7) ?_;rintro _ _ ⟨_,⟨s1,h1,rfl⟩,rfl⟩;obtain ⟨g1,c1,rfl⟩:=h1.form;refine Zh 0 AU6 V rfl AW8 Y<|Xe (Zs AW8 Y Y V (hi:=by(simp;done))) ?_;refine Z0<|Zx<|Zq<|Zq<|Zg<|Zm Y<|Zv (Aa AV9 Y)<|Zm Y<|Z0<|Zn [2,4,5,8,11,22,23,24] ?_;refine Zx<|AO<|Zb [11,24,2,4,5,8,22,23] ?_;refine BI (e0:=[(11,_),(24,_)]) (fun m e H=>∃(k:Nat) (rk:Bw×Int) (gk:Option Addr) (ck:Nat) (sk:List A8),m=l.length -k/\(k<=l.length/\FX q base 0 (r,base) (l.take k)=some rk/\BZ 5 83 (.slice gk rk.1.rows.length ck) rk.1.rows.length (Ac rk.1.rows) sk)/\e=[(11,I4 rk.2),(24,I4 (k:Int))]/\H=[[(br,.cells #[.slice gk rk.1.rows.length ck,I4 rk.1.val,.bool rk.1.fnd] 53 (0,0))],sk]) (by exact ⟨0,(r,base),g1,c1,s1,rfl,⟨zT _,by rw [AC9];rfl,h1⟩,rfl,rfl⟩) Wp ?_;rintro _ _ _ ⟨k,rk,gk,ck,sk,rfl,⟨hk,hrk,hsk⟩,rfl,rfl⟩;obtain ⟨hkv,hkn⟩:=O3 (l.take k) 0 (r,base) rk 1000000000000000000 1000000 hrk (fun x hx=>hcs x (AI9 hx)) hv Ao7 hn;have hkl:(l.take k).length=k:=by rw [zN];omega
 rw [hkl]at hkv hkn;have hUk:=D7 hsk Ao7
 refine Zq<|Zg<|Zv (Au Y Y)<|Z0<|Zx<|Zq<|Aw Y (fun hlt=>?_) (fun hlt=>?_)
 ·
  obtain ⟨x,hx⟩:∃x,l[k]?=some x:=⟨_,zD hlt⟩;have hxc:=hcs x (zP hx)
  obtain ⟨hOx,g2,off2,cur2,T2,zz2,rfl,hm2,hsz2,hex2⟩:=hgl k x hx;refine AJ<|Zx<|Zq<|AO<|Zq<|Zg<|Zm Y<|Bq (Ai AV9 AX5 Y Y Ao7)<|CW (cs:=[(g2,.cells cur2 T2 zz2)]) (by simp [hm2]) (AA (cs:=#[I4 x.p,.slice x.q x.cs.length x.cap]) Ad7 AX5 Y Ao7 hex2) V rfl ?_;refine Ze (Al Ac0 #[_,_]) ?_;rintro _ _ ⟨bx,rfl,rfl⟩;refine Za Y<|Xe (Xw AX5 #[I4 x.p,.slice x.q x.cs.length x.cap]) ?_;refine Z0<|Zx<|Zq<|Zg<|Zo Wh (AA (cs:=#[_,_,_,_,_,_,_]) AX9 AV8 Y (by(simp;done)) Ap1) ?_;refine Zo Wh (AA (cs:=#[_,_,_]) AV6 AU3 Y (by(simp;done)) Ap1) ?_;refine Zo Wh (AA (cs:=#[_,_]) Ad7 AX5 Y (by(simp;done)) Ap1) ?_;refine Zc [_,_,_] Y call55 Y V (J5 q hq x.p x.q x.cap x.cs hOx hxc hUk Ao7 Ao7) ?_;rintro _ _ ⟨_,⟨rv3,s3,rfl,h3,rfl⟩,rfl⟩;obtain ⟨g3,c3,rfl⟩:=h3.form;refine Zm Y<|Zd Y V<|Zd Y V<|Zd Y V<|Ze (Al AW5 #[_,_,_]) ?_;rintro _ _ ⟨bn,rfl,rfl⟩;refine Xe (Xw AU3 #[.slice g3 (BQ q rk.1 x.cs).1.rows.length c3,I4 (BQ q rk.1 x.cs).1.val,.bool (BQ q rk.1 x.cs).1.fnd]) ?_;refine Za Y<|Za Y<|Z0<|Zn [2,4,5,8,11,12,13,14,15,16,22,23,24] ?_;refine Zx<|Zq<|Zq<|Zg<|Zm Y<|Zv (Br Y)<|Zm Y<|Aj (t:=39) Y V (fun h1g=>?_) (fun h1g=>?_)
  ·
   have h1k:(BQ q rk.1 x.cs).2.2=false:=by simpa using h1g
   refine A7 Y V<|A7 Y V<|A7 Y V<|A7 Y V<|Zv (AZ Y Y)<|Zm Y<|A7 Y V<|A7 Y V<|A7 Y V<|A7 Y V<|A7 Y V<|A7 Y V<|A7 Y V<|Zv (AZ Y Y)<|Z0<|Zn [2,4,5,8,11,13,14,15,22,23,24,53] ?_;refine Zx<|DV Y<|Zq<|BV ?_;have e8:Av q r base l=(Bw.none,0,false):=by unfold Av;rw [Lm (k:=k+1) (by rw [Ig hrk hx,Am6 (by(rw [h1k];rintro ⟨h,_⟩;cases h;done))])]
   refine Zg<|Zv (BL (vs:=[]) (cs:=#[_,_,_]) Y (AY (pl:=#[(0,1),(1,1),(2,1)]) AW5 AU6 (fun _=>by kernel_rfl) V))<|Xe (Xw AU3 _) ?_;refine Za Y<|Za Y<|Z0<|Zx<|AC<|Zt<|Ab<|Zt<|Zt<|Ab<|Zt<|Gy rfl results91 Y Wh (Ap AV6 AU3 Wn (rfl)) Y Y (by exact ⟨.slice none 0 0,[],by rw [e8];rfl,by rw [e8];exact Bf 5 _,rfl⟩)
  have h1k:(BQ q rk.1 x.cs).2.2=true:=by simpa using h1g
  refine Zf Y Y<|Zf Y Y ?_
  (refine Kg Y (CS (m:=9223372036854775806) Y Y ?_ ?_) rfl rfl ?_;(focus (omega));(focus (omega)))
  refine Yg (FI Y Y)<|Zv (AU Y Y)<|Zm Y<|Ak (t:=45) Y V (fun h2g=>?_) (fun h2g=>?_)
  ·
   refine A7 Y V<|A7 Y V<|A7 Y V<|A7 Y V<|A7 Y V<|A7 Y V<|A7 Y V<|Zv (AZ Y Y)<|Z0<|Zn [2,4,5,8,11,13,14,15,22,23,24,53] ?_;refine Zx<|DV Y<|Zq<|BV ?_;have e8:Av q r base l=(Bw.none,0,false):=by unfold Av;rw [Lm (k:=k+1) (by rw [Ig hrk hx,Am6 (by(rintro ⟨_,h8,h9⟩;omega))])]
   refine Zg<|Zv (BL (vs:=[]) (cs:=#[_,_,_]) Y (AY (pl:=#[(0,1),(1,1),(2,1)]) AW5 AU6 (fun _=>by kernel_rfl) V))<|Xe (Xw AU3 _) ?_;refine Za Y<|Za Y<|Z0<|Zx<|AC<|Zt<|Ab<|Zt<|Zt<|Ab<|Zt<|Gy rfl results91 Y Wh (Ap AV6 AU3 Wn (rfl)) Y Y (by exact ⟨.slice none 0 0,[],by rw [e8];rfl,by rw [e8];exact Bf 5 _,rfl⟩)
  refine Yf 0 AY1 V rfl AU1 Y<|Yl AU2 Y ?_;refine Zf Y Y ?_
  (refine Kg Y (Ke Y Y (IntWalk.i64_in _ ?_)) rfl rfl ?_;(focus (omega)))
  refine Zf Y Y ?_
  (refine Kg Y (Ke Y Y (IntWalk.i64_in _ ?_)) rfl rfl ?_;(focus (omega)))
  refine Yg (JN Y Y)<|Zv (AU Y Y)<|Z0<|Zn [2,4,5,8,11,13,14,15,22,23,24,53] ?_;refine Zx<|Aw Y (fun h3g=>?_) (fun h3g=>?_)
  ·
   refine Zq<|BV ?_;have e8:Av q r base l=(Bw.none,0,false):=by unfold Av;rw [Lm (k:=k+1) (by rw [Ig hrk hx,Am6 (by(rintro ⟨_,h8,h9⟩;omega))])]
   refine Zg<|Zv (BL (vs:=[]) (cs:=#[_,_,_]) Y (AY (pl:=#[(0,1),(1,1),(2,1)]) AW5 AU6 (fun _=>by kernel_rfl) V))<|Xe (Xw AU3 _) ?_;refine Za Y<|Za Y<|Z0<|Zx<|AC<|Zt<|Ab<|Zt<|Zt<|Ab<|Zt<|Gy rfl results91 Y Wh (Ap AV6 AU3 Wn (rfl)) Y Y (by exact ⟨.slice none 0 0,[],by rw [e8];rfl,by rw [e8];exact Bf 5 _,rfl⟩)
  refine AJ<|Zx<|Zq<|Zg<|Zo Wh (AA (cs:=#[_,_,_]) AV6 AU3 Y (by(simp;done)) Ap1) ?_;refine Xe (BK AU3 Y Y Ap9 Wu Ap1 Ap3 (by(simp;done)) (by exact BF _)) ?_;refine Z0<|Zx<|Zq<|Zg<|Zm Y<|Z0<|Zx<|AR Y (fun ht=>?_) (fun ht=>?_)
  ·
   refine Zg<|Zh 0 AY1 V rfl AU1 Y<|Zl AU2 Y ?_;refine Za Y<|Z0<|A9<|Zx<|Zg<|Ya (n:=1) Y Y<|Zm Y<|Z0<|Zn [11,24,2,4,5,8,22,23] ?_;refine Ad (e':=[(11,_),(24,_)]) (by exact ⟨k+1,((BQ q rk.1 x.cs).1,x.p),g3,c3,s3,rfl,⟨by omega,by rw [Ig hrk hx,Am7 ⟨h1k,by omega,by omega⟩,ht];rfl,h3⟩,rfl,rfl⟩)
  refine AJ<|A9<|Zx<|Zg<|Ya (n:=1) Y Y<|Zm Y<|Z0<|Zn [11,24,2,4,5,8,22,23] ?_;refine Ad (e':=[(11,_),(24,_)]) (by exact ⟨k+1,((BQ q rk.1 x.cs).1,rk.2),g3,c3,s3,rfl,⟨by omega,by rw [Ig hrk hx,Am7 ⟨h1k,by omega,by omega⟩,ht];rfl,h3⟩,rfl,rfl⟩)
 have ek:k=l.length:=by omega
 subst ek;rw [AA4]at hrk;have e8:Av q r base l=(rk.1,rk.2,true):=by unfold Av;rw [hrk]
 refine BG<|Zt<|Zt<|AX<|Zx<|Zq<|Zg<|Zo Wh (AA (cs:=#[_,_,_]) AV6 AU3 Y (by(simp;done)) Ap1) ?_;refine Zm Y<|Xe (Xw AU3 _) ?_;refine Za Y<|Za Y<|Z0<|Zx<|AC<|Gy rfl results91 Y Wh (Ap AV6 AU3 Wn (rfl)) Y Y (by exact ⟨.slice gk _ ck,sk,by rw [e8];rfl,by rw [e8];exact hsk,rfl⟩)
theorem gK(hq:BH q)(hs:BM rs)(hf:IG rs c)(hok:c.ok)(h:(Co q c (Cc rs q)).2=true):(Co q c (Cc rs q)).1=Cc (Es rs c) q:=by
 unfold Co at h⊢;cases ht:DI q c with
 |false=>
  rw [Am6 Ao9];unfold DI at ht;rw [Am8 hok,AJ1]at ht;exact (pR hq hf ht).symm
 |true=>
  rw [ht,Am7 rfl]at h;rw [Am7 rfl];unfold DI at ht;rw [zy]at ht;split at h
  · rename_i h9
    rw [Am7 h9];exact ae hq hs hf ht.2 h9
  · cases h
theorem UF{q:QM}(hq:BH q){rs:List AQ}{cs:List Chg}(hs:BM rs)(ha:uo cs)(hf:∀c∈cs,IG rs c)(hok:∀c∈cs,c.ok):∀i,i<=cs.length->∀r,Gp q (Cc rs q) (cs.take i)=some r->r=Cc (EC rs (cs.take i)) q
 |0,_,r,h=>by
  rw [AC9]at h⊢;injection h with h
  exact h.symm
 |i+1,hi,r,h=>by
  obtain ⟨c,hc⟩:∃c,cs[i]?=some c:=⟨_,zD Ao7⟩;obtain ⟨h1,h2⟩:=Lb hs ha hf i Ao7;cases hr:Gp q (Cc rs q) (cs.take i)with
  |none=>
   have:=PE (cs:=cs.take (i+1)) (k:=i) (q:=q) (r:=Cc rs q) (by rw [AJ5,AG8 Ao7];exact hr);rw [this]at h;cases h
  |some rk=>
   have e:=UF hq hs ha hf hok i Ao7 rk hr;rw [Jg hr hc,e]at h;split at h
   · rename_i h9
     injection h with h
     rw [<-h,GR rs cs i c hc];exact gK hq h1 (h2 i c (zh _) hc) (hok c (zP hc)) h9
   · cases h
theorem lY(hq:BH q){p rp:Int}{cs:List Chg}(hs:BM rs)(h:QN rs p rp cs){r:Bw}(hr:Gp q (Cc rs q) cs=some r):r=Cc (EC rs cs) q:=by
 have:=UF hq hs (WU h.ok.ord) h.fit (fun c hc=>by obtain ⟨i,hi⟩:=AA1 hc;exact h.ok.all i c hi) cs.length (zh _) r (by rw [AA4];exact hr);rwa [AA4]at this
def Kt(q:QM)(x:BN):Bool:=x.cs.any (DI q)
theorem gH{x:BN}(h:∀c∈x.cs,c.ok):Kt q x=x.cs.any (CU q):=by
 unfold Kt;rw [AO5,AM2,AM2];constructor
 · rintro ⟨c,hc,h9⟩
   unfold DI at h9;rw [zy]at h9;exact ⟨c,hc,h9.2⟩
 · rintro ⟨c,hc,h9⟩
   exact ⟨c,hc,by unfold DI;rw [Am8 (h c hc),h9];rfl⟩
structure qc(q:QM)(l:List BN)(base k:Nat)(s:Int):Prop where
 le:(base:Int)<=s/\s<=((base+k:Nat):Int)
 at_:s≠(base:Int)->∃(j:Nat) (x:BN),(j:Int)+1=s/\l[j]?=some x/\Kt q x=true
 no:∀(j:Nat) (x:BN),s<=(j:Int)->j<base+k->l[j]?=some x->Kt q x=false
theorem PD{q:QM}(hq:BH q){l:List BN}(hl:FL l){base:Nat}(hb:base<=l.length):∀k,base+k<=l.length->∀st,FX q (base:Int) 0 (Cc (Bg (l.take base)) q,(base:Int)) ((l.drop base).take k)=some st->st.1=Cc (Bg (l.take (base+k))) q/\qc q l base k st.2
 |0,_,st,h=>by
  rw [AC9]at h;injection h with h
  subst h;exact ⟨V,⟨by simp only;omega,fun h=>absurd V h,fun j x h1 h2=>by simp only at h1;omega⟩⟩
 |k+1,hk,st,h=>by
  obtain ⟨x,hx⟩:∃x,l[base+k]?=some x:=⟨_,zD Ao7⟩;have hx2:(l.drop base)[k]?=some x:=by rw [AE1];exact hx
  obtain ⟨ha,_⟩:=hl _ x hx;have hp:x.p=((base+k:Nat):Int)+1:=ha.pos
  cases hr:FX q (base:Int) 0 (Cc (Bg (l.take base)) q,(base:Int)) ((l.drop base).take k)with
  |none=>
   have:=Lm (l:=(l.drop base).take (k+1)) (k:=k) (q:=q) (base:=(base:Int)) (st:=(Cc (Bg (l.take base)) q,(base:Int))) (by rw [AJ5,AG8 Ao7];exact hr);rw [this]at h;cases h
  |some sk=>
   obtain ⟨e1,e2⟩:=PD hq hl hb k Ao7 sk hr;rw [Ig hr hx2]at h;split at h
   · rename_i h9
     injection h with h
     subst h;have hA:=Lg h9.1
     have h1:=(hl.rows (base+k) Ao7).1;rw [e1]at hA;refine ⟨?_,?_⟩
     · have:=lY hq h1 ha hA.1
       rw [show base+(k+1)=base+k+1 by omega,Bc hx,GH,<-this,e1]
     · have hT:(BQ q sk.1 x.cs).2.1=Kt q x:=by rw [e1];exact hA.2
       simp only [hT];obtain ⟨⟨a1,a2⟩,a3,a4⟩:=e2;cases ht:Kt q x with
       |true=>
        simp only [An4];refine ⟨by omega,fun _=>⟨base+k,x,hp.symm,hx,ht⟩,fun j y h5 h6=>by omega⟩
       |false=>
        simp only [AD4,An2];refine ⟨by push_cast at a2⊢;omega,a3,fun j y h5 h6 h7=>?_⟩;rcases AB1 j (base+k)with h8|h8
        · exact a4 j y h5 h8 h7
        · obtain rfl:j=base+k:=by omega
          rw [hx]at h7;injection h7 with h7
          rw [<-h7];exact ht
   · cases h
theorem XW(hk:1<=q.kd/\q.kd<=4)(c:Chg)(r:Bw):(Co q c r).2=true:=by
 have:(Bo q c r).2=true:=by
  unfold Bo;split
  · rfl
  · split
    · rfl
    · rw [Am7 Ao7]
 unfold Co;rw [Am7 this];split<;>rfl
theorem Mx{q:QM}(hk:1<=q.kd/\q.kd<=4):∀(cs:List Chg) (r:Bw),∃r',Gp q r cs=some r'
 |[],r=>⟨r,rfl⟩
 |c::cs,r=>by
  unfold Gp;rw [Am7 (XW hk c r)];exact Mx hk cs _
theorem RO{q:QM}(hk:1<=q.kd/\q.kd<=4){base:Int}:∀(l:List BN) (i:Nat) (st:Bw×Int),(∀(k:Nat) (x:BN),l[k]?=some x->base<=9223372036854775806 -((i+k:Nat):Int)/\x.p=base+1+((i+k:Nat):Int))->∃st',FX q base i st l=some st'
 |[],i,st,_=>⟨st,rfl⟩
 |x::l,i,st,h=>by
  have h0:=h 0 x rfl;rw [AH6]at h0;obtain ⟨r',hr⟩:=Mx hk x.cs st.1;unfold FX;rw [Am7 ⟨by unfold BQ;rw [hr],h0.1,h0.2⟩];exact RO hk l (i+1) _ fun k y hy=>by
   have:=h (k+1) y hy;rwa [show i+(k+1)=i+1+k by omega]at this
abbrev Bs:=List UInt8
def Xq(s:Bs):Bs:=sha (0::s)
def Iw(a b:Bs):Bs:=sha (1::(a++b))
def DF(n:Nat):Nat:=2^Nat.log2 (n -1)
theorem OP(n:Nat):0<DF n:=AL4 _
variable{n:Nat}
theorem OQ(h:2<=n):DF n<n:=by
 have:=Nat.log2_self_le (n:=n -1) Ao7;unfold DF;omega
theorem tO{e:Nat}(h1:2^e<n)(h2:n<=2^(e+1)):DF n=2^e:=by
 unfold DF;congr 1;refine (Nat.log2_eq_iff (by have:=AL4 e;omega)).2 ⟨by omega,by omega⟩
def DU(l:List Bs):Bs:=
 if h:2<=l.length then Iw (DU (l.take (DF l.length))) (DU (l.drop (DF l.length)))
 else match l with
  |[]=>sha []
  |x::_=>Xq x
termination_by l.length
decreasing_by
 · have:=OQ h;rw [zN];omega
 · have:=OP l.length;rw [zO];omega
theorem mE:DU []=sha []:=by rw [DU];rfl
theorem mD(x:Bs):DU [x]=Xq x:=by rw [DU];rfl
variable{l:List Bs}
theorem iA(h:2<=l.length):DU l=Iw (DU (l.take (DF l.length))) (DU (l.drop (DF l.length))):=by
 rw [DU,dif_pos h]
theorem UK{a b:List Bs}{e:Nat}(ha:a.length=2^e)(h0:0<b.length)(hb:b.length<=2^e):DU (a++b)=Iw (DU a) (DU b):=by
 have hp:=AL4 e;have hl:DF (a++b).length=a.length:=by
  rw [ha];exact tO (by rw [zG];omega) (by rw [zG,AP4];omega)
 rw [iA (by rw [zG];omega),hl,AC3,AJ7]
 · rfl
 · rfl
structure JA(ps:List (List Bs)):Prop where
 pow:∀p∈ps,∃e,p.length=2^e
 lt:ps.Pairwise (fun a b=>b.length<a.length)
theorem qK:JA []:=⟨by simp,.nil⟩
theorem mX{a b:Nat}(h:2^a<2^b):2*2^a<=2^b:=by
 have:=(Nat.pow_lt_pow_iff_right (a:=2) Ao7).1 h
 calc 2*2^a=2^(a+1):=by rw [AP4];omega
  _<=2^b:=Nat.pow_le_pow_right Ao7 this
variable{p:List Bs}{ps:List (List Bs)}
theorem JA.tail(h:JA (p::ps)):JA ps:=⟨fun q hq=>h.pow q (by simp [hq]),(AE5.1 h.lt).2⟩
theorem JA.init(h:JA (ps++[p])):JA ps:=⟨fun q hq=>h.pow q (by simp [hq]),(AD1.1 h.lt).1⟩
theorem JA.sum:∀{ps:List (List Bs)} {e:Nat},JA ps->(∀p∈ps,p.length<2^e)->ps.flatten.length<2^e
 |[],e,_,_=>by simpa using AL4 e
 |p::ps,e,h,hl=>by
  obtain ⟨e1,h1⟩:=h.pow p Ap0;have h2:=hl p Ap0
  rw [h1]at h2;have h3:=mX h2
  have h4:=JA.sum (e:=e1) h.tail (fun q hq=>by rw [<-h1];exact (AE5.1 h.lt).1 q hq);rw [zL,zG,h1];omega
theorem JA.nonempty(h:JA ps)(hn:ps≠[]):0<ps.flatten.length:=by
 cases ps with
 |nil=>exact absurd rfl hn
 |cons p ps=>
  obtain ⟨e,he⟩:=h.pow p Ap0;have:=AL4 e
  rw [zL,zG];omega
theorem JA.root:∀{ps:List (List Bs)} {q:List Bs},JA (ps++[q])->ps.foldr (fun p o=>Iw (DU p) o) (DU q)=DU (ps.flatten++q)
 |[],q,_=>by simp
 |p::ps,q,h=>by
  rw [List.foldr_cons,JA.root (ps:=ps) (q:=q) h.tail,zL,zM];obtain ⟨e,he⟩:=h.pow p Ap0;have hf:(ps++[q]).flatten=ps.flatten++q:=by simp
  have ht:JA (ps++[q]):=h.tail;have h1:0<(ps++[q]).flatten.length:=JA.nonempty ht Ap0
  have h2:=JA.sum (e:=e) ht (fun r hr=>by rw [<-he];exact (AE5.1 h.lt).1 r hr);rw [hf]at h1 h2;exact (UK he h1 Ao7).symm
structure Nb(ls:List Bs)(ps:List (List Bs))(q:List Bs)(i:Nat):Prop where
 bin:JA ps
 pow:∃e,q.length=2^e
 le:∀p∈ps,q.length<=p.length
 flat:ps.flatten++q=ls.take i
variable{ls:List Bs}{i:Nat}
theorem iy{s:Bs}(h:JA ps)(hf:ps.flatten=ls.take i)(hs:ls[i]?=some s):Nb ls ps [s] (i+1):=
 ⟨h,⟨0,rfl⟩,fun p hp=>by
   obtain ⟨e,he⟩:=h.pow p hp;have:=AL4 e
   rw [he];simp;omega,by rw [AH3,hs,hf];rfl⟩
theorem Nb.step{q:List Bs}(h:Nb ls (ps++[p]) q i)(e:p.length=q.length):Nb ls ps (p++q) i/\DU (p++q)=Iw (DU p) (DU q):=by
 obtain ⟨e1,he⟩:=h.pow;have hp:=AL4 e1
 refine ⟨⟨h.bin.init,⟨e1+1,by rw [zG,e,he,AP4];omega⟩,?_,?_⟩,UK (e.trans he) Ao7 Ao7⟩
 · intro r hr
   obtain ⟨e2,h2⟩:=h.bin.pow r (by simp [hr]);have h3:=(AD1.1 h.bin.lt).2.2 r hr p Ap0
   rw [e,he,h2]at h3;have h4:=mX h3
   rw [zG,e,he,h2];omega
 · rw [<-h.flat];simp
theorem Nb.done{q:List Bs}(h:Nb ls ps q i)(hne:∀ps' p,ps=ps'++[p]->p.length≠q.length):JA (ps++[q])/\(ps++[q]).flatten=ls.take i:=by
 refine ⟨⟨?_,?_⟩,by rw [<-h.flat];simp⟩
 · intro r hr
   rcases zJ.1 hr with hr|hr
   · exact h.bin.pow r hr
   · rw [zI]at hr
     subst hr;exact h.pow
 · rw [AD1]
   refine ⟨h.bin.lt,List.pairwise_singleton _ _,?_⟩;intro a ha b hb;rw [zI]at hb;subst hb;rcases AL1 ps with rfl|⟨ps',p,rfl⟩
   · simp at ha
   · have h1:=hne ps' p Ap0
     have h2:=h.le p Ap0;have h3:=h.bin.lt
     simp only [AP9]at ha h3;rw [AD1]at h3;rcases zJ.1 ha with ha|ha
     · have:=h3.2.2 a ha p Ap0
       omega
     · rw [zI]at ha
       subst ha;omega
variable{cur:Array Value}{xs:List Value}
theorem rZ(h:cur.toList.take xs.length=xs){x:Value}(hx:xs[i]?=some x):cur[i]?=some x:=by
 have hlt:=(zF.1 hx).1;rw [<-h,AA7,Am7 hlt,AA3]at hx;exact hx
theorem ou(ps:List (List Bs))(o:Bs):(ps.map DU).reverse.foldl (fun o r=>Iw r o) o=ps.foldr (fun p o=>Iw (DU p) o) o:=by
 rw [List.foldl_reverse,List.foldr_map]
def E9(M:List A8)(v:Value)(ls:List Bs):Prop:=∃p cap,v= .slice p ls.length cap/\(ls.length<=maxLen/\ls.length<=cap)/\∀(i:Nat) (s:Bs),ls[i]?=some s->∃g off cur T zz,p=some ⟨g,off,none⟩/\(g,Obj.cells cur T zz)∈M/\cur[off+i]?=some (Fh s)
def rtV(p:List Bs):Value:=Fh (DU p)
def lnV(p:List Bs):Value:=I4 ((p.length:Nat):Int)
variable{e:TypeId}{s:List A8}
theorem PH{sz:Nat}{b:Option Addr}{c:Nat}(h:BZ sz e (.slice b n c) n xs s)(k:Nat)(hk:k<=n):BZ sz e (.slice b k c) k (xs.take (k*sz)) s:=by
 obtain ⟨hl,h⟩:=h;refine ⟨by rw [zN,hl,AG8 (AF9 _ hk)],?_⟩;rcases h with⟨h1,rfl,rfl⟩|⟨g,cap',cur,z,h1,rfl,h2,h3,h4,h5,h6⟩
 · injection h1 with e1 e2 e3
   subst e1 e3;obtain rfl:k=0:=by omega
   exact .inl ⟨V,V,V⟩
 · injection h1 with e1 e2 e3
   subst e1 e3;refine .inr ⟨g,c,cur,z,V,V,by omega,h3,h4,?_,h6⟩;rw [<-h5,AJ5,AG8 (AF9 _ hk)]
variable{v:Value}
theorem L6(h:BZ 1 e v n xs s)(h0:0<n):∃g cap cur z,v=I6 g n cap/\s=[(g,.cells cur e z)]/\n<=cap/\∀(i:Nat) (x:Value),xs[i]?=some x->cur[i]?=some x:=by
 obtain ⟨hl,⟨_,h1,_⟩|⟨g,cap',cur,z,h1,rfl,h2,h3,h4,h5,h6⟩⟩:=h
 · omega
 · rw [<-hl]at h5
   exact ⟨g,cap',cur,z,h1,V,h2,fun i x hx=>rZ h5 hx⟩
variable{M:List A8}
theorem E9.mono{M':List A8}(h:E9 M v ls)(hm:∀c∈M,c∈M'):E9 M' v ls:=by
 obtain ⟨p,cap,e,hl,hg⟩:=h;refine ⟨p,cap,e,hl,fun i s hs=>?_⟩;obtain ⟨g,off,cur,T,zz,e1,h1,h2⟩:=hg i s hs;exact ⟨g,off,cur,T,zz,e1,hm _ h1,h2⟩
theorem GD(h:BZ 1 e v ls.length (ls.map Fh) s)(hn:ls.length<=maxLen):E9 s v ls:=by
 rcases AG3 ls.length with h0|h0
 · obtain ⟨b,cap,rfl⟩:=h.form
   exact ⟨b,cap,rfl,⟨hn,by omega⟩,fun i s hs=>by rw [AB0 h0]at hs;simp at hs⟩
 · obtain ⟨g,cap,cur,z,rfl,rfl,hle,hg⟩:=L6 h h0
   refine ⟨_,cap,V,⟨hn,hle⟩,fun i s hs=>⟨g,0,cur,e,z,V,by simp,?_⟩⟩;rw [zo];exact hg i _ (by rw [zY,hs];rfl)
theorem LC(l:List Bs):(DU l).length=32:=by
 rw [DU];split
 · exact VT _
 · split<;>exact VT _
theorem jG(s:Bs)(hs:s.length<=140737488354000)(Tg:TypeId)(zg:Nat×Nat):BJ Tryz.prog 276 #[.string (str s)] [[(4,.cells (EW.map Ch).toArray Tg zg)]] (.string (str (Xq s))):=by
 refine Se func276 ntmps276 [0] ?_;intro u R;refine Zq<|Zg<|Za Y<|Z0<|Zx<|Zq<|Zg<|Zc [_] Y call303 Y V (QA (str [0])) ?_;rintro _ _ ⟨_,⟨bm,rfl,rfl⟩,rfl⟩;refine Zm Y<|Ze (Af (vs:=[_]) (cs:=[_]) AV1 AY6 AY5 Y V rfl V rfl V) ?_;rintro _ _ ⟨bk,rfl,rfl⟩;refine Xr [_] Y call330 Y V (LX bk 0 1 bm #[Fh s] _ _ _ _ [s] [0] V Ap0 Ap0 Ap8 _ _) ?_;refine Za Y<|Z0<|Zx<|AC<|AL V results276 Y (by exact ⟨by simp [Xq],V⟩)
theorem Uf(a b:Bs)(ha:a.length<=1000000000)(hb:b.length<=1000000000)(Tg:TypeId)(zg:Nat×Nat):BJ Tryz.prog 277 #[.string (str a),.string (str b)] [[(4,.cells (EW.map Ch).toArray Tg zg)]] (.string (str (Iw a b))):=by
 refine Se func277 ntmps277 [0,1] ?_;intro u R;refine Zq<|Zg<|Za Y<|Z0<|Zx<|Zq<|Zg<|Zc [_] Y call303 Y V (QA (str [1])) ?_;rintro _ _ ⟨_,⟨bm,rfl,rfl⟩,rfl⟩;refine Zm Y<|Zm Y<|Ze (Af (vs:=[_,_]) (cs:=[_,_]) AV1 AY6 AY5 Y V rfl V rfl V) ?_;rintro _ _ ⟨bk,rfl,rfl⟩;refine Xr [_] Y call330 Y V (LX bk 0 2 bm #[Fh a,Fh b] _ _ _ _ [a,b] [1] V Ap0 Ap0 Ap8 _ _) ?_;refine Za Y<|Z0<|Zx<|AC<|AL V results277 Y (by exact ⟨by simp [Iw],V⟩)
def bwd{α:Type} [Inhabited α](ls:List α):List (Nat×α):=(List.range ls.length).reverse.map (fun i=>(i,ls.getD i default))
theorem WM [Inhabited α](ls:List α):(bwd ls).length=ls.length:=by simp [bwd]
theorem dS [Inhabited α]{ls:List α}{m:Nat}{s:α}(h:ls[m]?=some s):(bwd ls)[ls.length -(m+1)]?=some (m,s):=by
 have hlt:=(zF.1 h).1;unfold bwd;rw [zY,List.getElem?_reverse Ap8,AJ4,AH5 Ao7];rw [show ls.length -1 -(ls.length -(m+1))=m by omega];simp [List.getD,h]
theorem MF [Inhabited α](ls:List α):(bwd ls).map Prod.snd=ls.reverse:=by
 apply AD5;intro i;by_cases hi:i<ls.length
 · have h1:ls[ls.length -1 -i]?=some (ls[ls.length -1 -i]'Ao7):=zD _
   have h2:=dS h1;rw [show ls.length -(ls.length -1 -i+1)=i by omega]at h2;rw [zY,h2,List.getElem?_reverse hi,h1];rfl
 · rw [AC7 (by rw [zH,WM];omega),AC7 Ap8]
theorem uX [Inhabited α]{ls:List α}{x:Nat×α}(h:x∈bwd ls):x.2∈ls:=by
 have h1:x.2∈(bwd ls).map Prod.snd:=zQ.2 ⟨x,h,rfl⟩;rw [MF,AM4]at h1;exact h1
theorem Ns{xs:List α}{j:Nat}{x:α}(h:xs[j]?=some x):xs=xs.take j++x::xs.drop (j+1):=by
 have hlt:=(zF.1 h).1;rw [zD hlt]at h;injection h with h
 rw [<-h,<-AD0 hlt,AB4]
theorem oz(xs:List Bs)(q:Bs):(bwd xs).foldl (fun o (x:Nat×Bs)=>Iw x.2 o) q=xs.reverse.foldl (fun o r=>Iw r o) q:=by
 rw [<-MF,List.foldl_map]
theorem VO(f:List α->Value)(ps:List (List α))(p q:List α):(((ps++[p])++[q]).map f)[(ps++[p]).length+1 -2]?=some (f p)/\(((ps++[p])++[q]).map f)[(ps++[p]).length+1 -1]?=some (f q):=by
 have e:(ps++[p]).length=ps.length+1:=by simp
 constructor
 · rw [show(ps++[p]).length+1 -2=ps.length by omega];simp
 · rw [show(ps++[p]).length+1 -1=ps.length+1 by omega];simp
theorem Wy(f:List α->Value)(ps:List (List α))(p q:List α):(((ps++[p])++[q]).map f).take (((ps++[p]).length+1 -2)*1)=ps.map f:=by
 rw [show((ps++[p]).length+1 -2)*1=(ps.map f).length by simp];simp
theorem tV(f:List α->Value)(ps:List (List α))(q:List α):((ps++[q]).map f)[(ps++[q]).length -1]?=some (f q):=by
 rw [show(ps++[q]).length -1=ps.length by simp];simp
theorem jI(f:List α->Value)(ps:List (List α))(q:List α):((ps++[q]).map f).take (((ps++[q]).length -1)*1)=ps.map f:=by
 rw [show((ps++[q]).length -1)*1=(ps.map f).length by simp];simp
theorem fC{ps:List α}(h:0<ps.length):∃ps' p,ps=ps'++[p]:=by
 rcases AL1 ps with rfl|⟨a,b,e⟩
 · simp at h
 · exact ⟨a,b,by rw [e,AP9]⟩
theorem ow(xs:List (Nat×Bs))(q:Bs)(hq:q.length=32):(xs.foldl (fun o (x:Nat×Bs)=>Iw x.2 o) q).length=32:=by
 rcases AL1 xs with rfl|⟨ys,y,rfl⟩
 · exact hq
 · rw [AP9,AJ6];exact VT _
theorem Tz(p:Option Addr)(n c:Nat):BR Tryz.prog 279 #[.slice p n c] [] (fun r H'=>∃b,r= .func (.func 307) #[] #[I5 b]/\H'=[[(b,.cells #[.slice p n c] 45 (0,0))]]):=by
 refine Se func279 ntmps279 [0] ?_;intro u R;refine Zq<|Zg<|Ze (Bx #[_]) ?_;rintro _ _ ⟨b,rfl,rfl⟩;refine Za Y<|Z0<|Zx<|Zq<|Zg<|Zv (Bb (vs:=[]) (us:=[_]) Y Y)<|Za Y<|Z0<|Zx<|AC<|AL V results279 Y (by exact ⟨_,V,V⟩)
theorem U0(hv:E9 M v ls)(b:Nat)(hn:ls.length<=1000000000000):
 Ep Tryz.prog 307 #[I5 b] [[(b,.cells #[v] 45 (0,0))]] (fun s=>∀c∈M,c∈s) (fun x=>#[I4 ((x.1:Nat):Int),Fh x.2]) (bwd ls):=by
 have hml:=mL;obtain ⟨p,cap,rfl,hl,hg⟩:=hv;intro l J hA hy s hJ;refine Se func307 ntmps307 [0,1] ?_;intro u R;refine Zq<|Zg<|Zl Ae3 Y ?_;refine Zv (Aa AV1 Y) ?_
 (refine Bq (Hz Y Y (IntWalk.i64_in _ ?_)) ?_;(focus (omega)))
 refine Za Y<|Z0<|Zx<|AO<|Zb [3,0,1] ?_;refine BI (e0:=[(3,_)]) (fun m e H=>∃(k:Nat) (s:List A8),m=0+k/\(k<=ls.length/\J ((bwd ls).take (ls.length -k)) s)/\e=[(3,I4 ((k:Int) -1))]/\H=[[(b,.cells #[.slice p ls.length cap] 45 (0,0))],s]) (by exact ⟨ls.length,s,rfl,⟨zh _,by rw [AL5,AC9];exact hJ⟩,rfl,rfl⟩) Wp ?_;rintro _ _ _ ⟨k,s,rfl,⟨hk,hJ⟩,rfl,rfl⟩;refine Zq<|Zq<|Zg<|Zm Y<|Zv (Iq Y Y)<|Z0<|Zx<|Aw Y (fun hlt=>?_) (fun hlt=>?_)
 ·
  obtain ⟨m,rfl⟩:∃m,k=m+1:=⟨k -1,by omega⟩;rw [show(((m+1:Nat):Int) -1)=((m:Nat):Int) by omega];obtain ⟨z9,hz9⟩:∃z9,ls[m]?=some z9:=⟨_,zD Ao7⟩;have hb9:=dS hz9
  obtain ⟨g,o,cur,T,zz,rfl,hm,hex8⟩:=hg m z9 hz9;have hex9:=hex8
  have hyk:=hy _ _ _ s (Ns hb9) hJ;refine AJ<|Zx<|Zq<|AO<|Zq<|Zg<|Zm Y<|Zm Y<|Zl Ae3 Y ?_;refine Zm Y<|Bq (CY AV1 AY6 Y Y Ao7)<|CW (cs:=[(g,.cells cur T zz)]) (by simp [hA _ s hJ _ hm]) (BX Af1 Y (by exact hex9)) V rfl ?_;refine Ze (Fz (vs:=[_,_]) Y Y (hyk) Wp) ?_;rintro _ _ ⟨_,⟨s',rfl,rfl,hJ'⟩,rfl⟩;refine Zv (Br Y)<|Z0<|Zx<|AR Y (fun hb=>?_) (fun hb=>?_)
  ·
   cases hb
  refine AJ<|A9<|Zx<|Zg<|Zm Y ?_
  (refine Bq (Hz Y Y (IntWalk.i64_in _ ?_)) ?_;(focus (omega)))
  refine Za Y<|Z0<|Zn [3,0,1] ?_;refine Ad (e':=[(3,_)]) (by exact ⟨m,s',rfl,⟨by omega,by rw [show ls.length -m=ls.length -(m+1)+1 by omega,Bc hb9];exact hJ'⟩,rfl,rfl⟩)
 have hk0:k=0:=by omega
 subst hk0;rw [AJ3,AB6 (by rw [WM];exact zh _)]at hJ;refine BG<|Zt<|Zt<|AX<|Cj V results307 (by exact ⟨s,V,hJ⟩)
theorem PK(hv:E9 M v ls)(hn:ls.length<=1000000)(hs:∀s∈ls,s.length<=140737488354000)(Tg:TypeId)(zg:Nat×Nat):BJ Tryz.prog 232 #[v] [[(4,.cells (EW.map Ch).toArray Tg zg)],M] (.string (str (DU ls))):=by
 have hml:=mL;obtain ⟨p,cap,rfl,hl,hg⟩:=hv;refine Cz func232 V ntmps232 V ?_;intro u R;refine Zb [0] ?_;refine Zq<|Zg<|Za Y<|Z0<|Zx<|Zq<|Zg<|Za Y<|Z0<|Zx<|Zq<|Zg<|Za Y<|Z0<|Zx<|Zq<|Zq<|Zg<|Zm Y<|Zv (Aa AV1 Y)<|Zm Y<|Z0<|Zx<|AO<|BV<|BV<|Zb [3,4,13,11,12] ?_;refine BI (e0:=[(3,_),(4,_),(13,_)]) (fun m e H=>∃(i:Nat) (ps:List (List Bs)) (vw:Value) (sw:List A8) (vz:Value) (sz:List A8),m=ls.length -i/\(i<=ls.length/\JA ps/\ps.flatten=ls.take i/\BZ 1 9 vw ps.length (ps.map rtV) sw/\BZ 1 3 vz ps.length (ps.map lnV) sz/\ps.length<=i)/\e=[(3,vw),(4,vz),(13,I4 (i:Int))]/\H=[sw,sz]) (by exact ⟨0,[],.slice none 0 0,[],.slice none 0 0,[],V,⟨zT _,qK,V,Bf 1 _,Bf 1 _,zh _⟩,V,V⟩) Wp ?_;rintro _ _ _ ⟨i,ps,vw,sw,vz,sz,rfl,⟨hi,hB,hf,hrw,hrz,hpi⟩,rfl,rfl⟩;refine Zq<|Zg<|Zv (Au Y Y)<|Z0<|Zx<|Zq<|Aw Y (fun hlt=>?_) (fun hlt=>?_)
 ·
  obtain ⟨s9,hs9⟩:∃s9,ls[i]?=some s9:=⟨_,zD hlt⟩;obtain ⟨g,o,cur,T,zz,rfl,hm9,hex9⟩:=hg i s9 hs9;obtain ⟨qw,cw,rfl⟩:=hrw.form;obtain ⟨qz,cz,rfl⟩:=hrz.form;have hs91:=hs s9 (zP hs9)
  refine AJ<|Zx<|Zq<|AO<|Zq<|Zg<|Bq (CY AV1 AY6 Y Y Ao7)<|CW (cs:=[(g,.cells cur T zz)]) (by simp [hm9]) (BX Af1 Y (by exact hex9)) V rfl ?_;refine Za Y<|Z0<|Zx<|Zq<|Zg<|Zm Y<|Zm Y<|Xr [_] Y call276 Y V (jG s9 hs91 Tg zg) ?_;refine Ze (Af (vs:=[_]) (cs:=[_]) AV1 AY6 AY5 Y V rfl V rfl V) ?_;rintro _ _ ⟨b1,rfl,rfl⟩;refine Ze (Db (by_:=16) (sz:=1) (news:=[_]) AV1 (V:Tryz.prog.info? 9=some Tryz.t9) V rfl V rfl Y hrw Y Wo Wh Ap1 V Ap5 Ao9 Ao7 Ao7) ?_;rintro _ _ ⟨sw,hrw,rfl⟩;obtain ⟨gw,cw,rfl⟩:=hrw.form;refine Zm Y<|Ze (Af (vs:=[_]) (cs:=[_]) AV0 AU1 AX6 Y V rfl V rfl V) ?_;rintro _ _ ⟨b3,rfl,rfl⟩;refine Ze (Db (by_:=8) (sz:=1) (news:=[_]) AV0 (V:Tryz.prog.info? 3=some Tryz.t3) V rfl V rfl Y hrz Y Wo Wh Ap1 V Ap5 Ao9 Ao7 Ao7) ?_;rintro _ _ ⟨sz,hrz,rfl⟩;obtain ⟨gz,cz,rfl⟩:=hrz.form;refine Za Y<|Za Y<|Z0<|Zn [3,4,11,12,13] ?_;refine Zx<|Zq<|Zg<|Zm Y<|Zv (Aa AV0 Y)<|Za Y<|Z0<|Zx<|AO<|Zb [3,4,7,11,12,13] ?_;refine BI (e0:=[(3,_),(4,_),(7,_)]) (fun m e H=>∃(ps2:List (List Bs)) (q:List Bs) (vw2:Value) (sw2:List A8) (vz2:Value) (sz2:List A8),m=0+ps2.length/\(Nb ls ps2 q (i+1)/\BZ 1 9 vw2 (ps2.length+1) ((ps2++[q]).map rtV) sw2/\BZ 1 3 vz2 (ps2.length+1) ((ps2++[q]).map lnV) sz2/\ps2.length<=i)/\e=[(3,vw2),(4,vz2),(7,I4 ((ps2.length+1:Nat):Int))]/\H=[sw2,sz2]) (by exact ⟨ps,[s9],_,_,_,_,rfl,⟨iy hB hf hs9,BO hrw rfl (by rw [zK,AC6];unfold rtV;rw [mD];rfl),BO hrz rfl (by rw [zK];rfl),hpi⟩,rfl,rfl⟩) Wp ?_;rintro _ _ _ ⟨ps2,q,vw2,sw2,vz2,sz2,rfl,⟨hM,hrw2,hrz2,hp2⟩,rfl,rfl⟩;refine Zq<|Zq<|Az (n:=15) (0::1::3::7::7::23::63::127::7::7::519::1799::3847::8191::16383::[]) 0 Ao8 Ao8 V<|An9 0 V (AP Y)<|An9 1 V (Df (n:=1) Y Y)<|An9 2 V (AP Y)<|EE (t:=29) Y (fun hn9=>?_) (fun hn9=>?_)
  ·
   rw [Am8 hn9];obtain ⟨ps1,p9,rfl⟩:=fC (ps:=ps2) Ao7;have hpl:(ps1++[p9]).length=ps1.length+1:=by simp
   obtain ⟨gw2,cw2,curw2,zw2,rfl,rfl,hlw2,hgw2⟩:=L6 (id hrw2) Ao7;obtain ⟨gz2,cz2,curz2,zz2,rfl,rfl,hlz2,hgz2⟩:=L6 (id hrz2) Ao7;have hz1:=hgz2 _ _ (VO lnV ps1 p9 q).1
   have hz2:=hgz2 _ _ (VO lnV ps1 p9 q).2;have hw1:=hgw2 _ _ (VO rtV ps1 p9 q).1
   have hw2:=hgw2 _ _ (VO rtV ps1 p9 q).2;have hql:q.length<=ls.length:=by have h9:=congrArg List.length hM.flat;rw [zG,zN]at h9;omega
   refine Ao2 3 V (AP Y)<|Ao2 4 V (AP Y) ?_
   (refine Ao2 5 rfl (CS (n:=2) Y Y ?_ ?_) ?_;(focus (omega));(focus (omega)))
   refine Ao2 6 V (Ba AV0 AU1 Y Y Ao7)<|Ao3 7 V Wh (BX AU2 Y (by exact hz1)) ?_;refine Ao2 8 V (AP Y)<|Ao2 9 V (AP Y) ?_
   (refine Ao2 10 rfl (CS (n:=1) Y Y ?_ ?_) ?_;(focus (omega));(focus (omega)))
   refine Ao2 11 V (Ba AV0 AU1 Y Y Ao7)<|Ao3 12 V Wh (BX AU2 Y (by exact hz2)) ?_;refine Ao2 13 V (DL Y Y)<|An9 14 V (AZ Y Y)<|Ag<|Zn [3,4,7,11,12,13,41] ?_;refine Zx<|Aw Y (fun he=>?_) (fun he=>?_)
   ·
    have hst:=hM.step he;refine AJ<|Zx<|Zq<|AO<|Zq<|Az (n:=18) (0::0::2::7::0::0::32::112::240::0::0::1024::3584::7680::16368::32752::65535::131071::[]) 114688 Ao8 Ao8 V<|An9 0 V (AP Y)<|An9 1 V (AP Y) ?_
    (refine Ev (D':=7) 2 (CS (n:=2) Y Y ?_ ?_) ?_;(focus (omega));(focus (omega)))
    refine An9 3 V (CK AV1 AY6 Y Y Ao7)<|An9 4 V (AP Y)<|An9 5 V (AP Y) ?_
    (refine Ev (D':=127) 6 (CS (n:=2) Y Y ?_ ?_) ?_;(focus (omega));(focus (omega)))
    refine An9 7 rfl (Ba AV1 AY6 Y Y (by first|omega|(simp;omega)))<|Ao0 8 rfl Af1 Y (hv:=by exact hw1) ?_;refine An9 9 V (AP Y)<|An9 10 V (AP Y) ?_
    (refine Ev (D':=4095) 11 (CS (n:=1) Y Y ?_ ?_) ?_;(focus (omega));(focus (omega)))
    refine An9 12 rfl (Ba AV1 AY6 Y Y (by first|omega|(simp;omega)))<|Ao0 13 rfl Af1 Y (hv:=by exact hw2) ?_;refine Yw 14 32767 rfl (Zu [_,_] Y call277 Y rfl (Uf (DU p9) (DU q) (by rw [LC];omega) (by rw [LC];omega) Tg zg)) ?_;rintro _ _ ⟨rfl,rfl⟩;refine Yw 15 65535 V (Af (vs:=[_]) (cs:=[_]) AV1 AY6 AY5 Y V rfl V rfl V) ?_;rintro _ _ ⟨b5,rfl,rfl⟩;refine Yw 16 131071 V (Db (by_:=16) (sz:=1) (news:=[_]) AV1 (V:Tryz.prog.info? 9=some Tryz.t9) V rfl V rfl Y (PH hrw2 ((ps1++[p9]).length+1 -2) Ao7) Y Wo Wh Ap1 V Ap5 Ao9 Ao7 Ao7) ?_;rintro _ _ ⟨sw3,hrw3,rfl⟩;obtain ⟨gw3,cw3,rfl⟩:=hrw3.form;refine An9 17 V (Aq Y)<|Ag<|Zn [3,4,7,11,12,13] ?_;refine Zx<|Az (n:=13) (0::0::2::7::0::0::32::112::240::496::1008::2047::4095::[]) 3072 Ao8 Ao8 V<|An9 0 V (AP Y)<|An9 1 V (AP Y) ?_
    (refine Ev (D':=7) 2 (CS (n:=2) Y Y ?_ ?_) ?_;(focus (first|omega|(simp;omega)));(focus (first|omega|(simp;omega))))
    refine An9 3 V (CK AV0 AU1 Y Y Ao7)<|An9 4 V (AP Y)<|An9 5 V (AP Y) ?_
    (refine Ev (D':=127) 6 (CS (n:=1) Y Y ?_ ?_) ?_;(focus (first|omega|(simp;omega)));(focus (first|omega|(simp;omega))))
    refine An9 7 rfl (Ba AV0 AU1 Y Y (by first|omega|(simp;omega)))<|Ao0 8 rfl AU2 Y (hv:=by exact hz2) ?_;refine An9 9 rfl (FZ (m:=2) Y Y (by first|omega|(simp;omega)))<|Yw 10 2047 rfl (Af (vs:=[_]) (cs:=[_]) AV0 AU1 AX6 Y rfl rfl rfl rfl rfl) ?_;rintro _ _ ⟨b7,rfl,rfl⟩;refine Yw 11 4095 V (Db (by_:=8) (sz:=1) (news:=[_]) AV0 (V:Tryz.prog.info? 3=some Tryz.t3) V rfl V rfl Y (PH hrz2 ((ps1++[p9]).length+1 -2) Ao7) Y Wo Wh Ap1 V Ap5 Ao9 Ao7 Ao7) ?_;rintro _ _ ⟨sz3,hrz3,rfl⟩;obtain ⟨gz3,cz3,rfl⟩:=hrz3.form;refine An9 12 V (Aq Y)<|Ag<|Zn [3,4,7,11,12,13] ?_;refine A9<|Zx<|Zg<|Zm Y<|Yb (n:=1) Y Y<|Za Y<|Z0<|Zn [3,4,7,11,12,13] ?_;refine Ad (e':=[(3,_),(4,_),(7,_)]) (by exact ⟨ps1,p9++q,_,_,_,_,rfl,⟨hst.1,BO hrw3 Ao7 (by rw [Wy,zK,AC6];unfold rtV;rw [hst.2];rfl),BO hrz3 Ao7 (by rw [Wy,zK,AC6];unfold lnV;rw [zG,he,<-Nat.two_mul]),by omega⟩,(by rw [show(ps1++[p9]).length+1 -1=ps1.length+1 by omega]),rfl⟩)
   have hD:=hM.done (fun a b e9=>by have e8:=List.singleton_inj.1 (AN2 e9 rfl).2;rw [<-e8];exact he);refine BG<|Zt<|Zt<|AX<|A9<|Zx<|Zg<|Ya (n:=1) Y Y<|Zm Y<|Z0<|Zn [3,4,13,11,12] ?_;refine Ad (e':=[(3,_),(4,_),(13,_)]) (by exact ⟨i+1,_,_,_,_,_,rfl,⟨by omega,hD.1,hD.2,BO hrw2 Ap0 rfl,BO hrz2 Ap0 rfl,by rw [zG];simp;omega⟩,rfl,rfl⟩)
  rw [Am5 hn9];have hD:=hM.done (fun a b e9=>by have e8:=congrArg List.length e9;rw [zG]at e8;simp at e8;omega)
  refine Ao1 3 V<|Ao1 4 V<|Ao1 5 V<|Ao1 6 V<|Ao1 7 V<|Ao1 8 V<|Ao1 9 V<|Ao1 10 V<|Ao1 11 V<|Ao1 12 V<|Ao1 13 V<|An9 14 V (AU Y Y)<|Ag<|Zn [3,4,7,11,12,13,41] ?_;refine Zx<|Dv Y<|BG<|Zt<|Zt<|AX<|A9<|Zx<|Zg<|Ya (n:=1) Y Y<|Zm Y<|Z0<|Zn [3,4,13,11,12] ?_;refine Ad (e':=[(3,_),(4,_),(13,_)]) (by exact ⟨i+1,_,_,_,_,_,rfl,⟨by omega,hD.1,hD.2,BO hrw2 Ap0 rfl,BO hrz2 Ap0 rfl,by rw [zG];simp;omega⟩,rfl,rfl⟩)
 have ei:i=ls.length:=by omega
 subst ei;rw [AB6 (zh _)]at hf;obtain ⟨qw,cw,rfl⟩:=hrw.form;refine BG<|Zt<|Zt<|AX<|Zx<|Zq<|Zq<|Zg<|Zm Y<|Zv (Aa AV1 Y)<|Zv (DL (n:=0) Y Y)<|Z0<|Zx<|Aw Y (fun h0=>?_) (fun h0=>?_)
 ·
  have e0:=AB0 h0;subst e0;have e1:ls=[]:=hf.symm
  refine Zq<|Zg<|Xr [_] Y call278 Y V (dz [] Ap0 Tg zg) ?_;refine Za Y<|Z0<|Zx<|AC<|Zt<|OI rfl (aN results232 Y) (by exact ⟨by rw [e1,mE],rfl⟩)
 obtain ⟨ps1,q,rfl⟩:=fC (ps:=ps) Ao7;obtain ⟨gw2,cw2,curw2,zw2,hev,rfl,hlw2,hgw2⟩:=L6 (id hrw) Ao7;injection hev with hev1 hev2 hev3
 subst hev1 hev3;have hw1:=hgw2 _ _ (tV rtV ps1 q)
 have hql:(ps1++[q]).length=ps1.length+1:=by simp
 refine AJ<|Zx<|Zq<|Zg<|Zm Y<|Zm Y<|Zv (Aa AV1 Y)<|Yb (n:=1) Y Y ?_;refine Bq (Ba AV1 AY6 Y Y Ao7)<|Zl Af1 Y (hv:=by exact hw1) ?_;refine Ze (Al AY5 #[_]) ?_;rintro _ _ ⟨ob,rfl,rfl⟩;refine Xe (Zs AY6 Y Y V (hc:=by exact (V:_=(#[Fh (DU q)]:Array Value)))) ?_;refine Z0<|Zx<|Zq<|Zq<|Zg<|Zm Y<|Zm Y<|Zv (Aa AV1 Y)<|Yb (n:=1) Y Y ?_;refine Bq (CK AV1 AY6 Y Y Ao7)<|Zc [_] Y call279 Y V (Tz _ _ _) ?_;rintro _ _ ⟨_,⟨bb,rfl,rfl⟩,rfl⟩;refine Z0<|Zn [8,89] ?_;refine Zx<|AO<|Zb [8,89] ?_;refine Oh (H0:=_) (R:=_) (I:=(fun pre H=>H=[[(ob,.cells #[Fh (pre.foldl (fun o (x:Nat×Bs)=>Iw x.2 o) (DU q))] 9 (0,0))],[(gw2,.cells curw2 9 zw2)],[(4,.cells (EW.map Ch).toArray Tg zg)]])) (asg:=fun x=>[(10,Fh x.2),(91,Fh x.2),(90,I4 ((x.1:Nat):Int))]) rfl Y call307 (U0 (ls:=ps1.map DU) (v:=I6 gw2 ((ps1++[q]).length -1) cw) (GD (BO (PH hrw ((ps1++[q]).length -1) Ao7) Ap0 (by rw [jI,AF0];rfl)) (by rw [zH];omega)) bb (by rw [zH];omega)) (fun pre H1 c d h=>by subst h;intro x hx;simp at hx;simp [hx]) Y rfl Wp (rfl) ?ha_13 ?hbd_13 ?hk_13
 case ha_13=>
  intro _ x _ _;refine Zg<|Za Y<|Z0 ?_;exact nS
 case hbd_13=>
  intro l pre x post u H1 R1 hxs hI;subst hI;refine AO<|Zg<|Zm Y<|Zl Af1 Y ?_;refine Xr [_,_] Y call277 Y rfl (Uf x.2 _ (by obtain ⟨y9,_,e9⟩:=zQ.1 (uX (Ui hxs));rw [<-e9,LC];omega) (by rw [ow _ _ (LC q)];omega) Tg zg) ?_;refine Xe (Zs AY6 Y Y V) ?_;refine Z0<|A9<|Ej rfl (by rw [AJ6])
 intro D1 H2 hI2;subst hI2;refine Zn [8] ?_;refine A9<|Zx<|Zq<|Zg<|Zl Af1 Y ?_;refine Za Y<|Z0<|Zx<|AC<|Fq rfl (aN results232 Y) Wo (by exact ⟨by rw [oz,ou,hB.root,<-hf];simp,rfl⟩)
theorem TF:∀(f x:Nat),0<x->x<2^f->Lib.bitLenAux f x=Nat.log2 x+1
 |0,x,h0,h1=>by simp at h1;omega
 |f+1,x,h0,h1=>by
  unfold Lib.bitLenAux;rw [Am6 Ao7];rw [AP4]at h1;rcases AB1 x 2 with h|h
  · have e:x=1:=by omega
    subst e;cases f<;>rfl
  · rw [TF f (x/2) Ao7 Ao7]
    conv=>rhs;rw [Nat.log2_def,Am7 h]
    omega
theorem jF(n:Nat)(h1:2<=n)(h2:n<=1000000000000):Lib.bitLen (n -1)=Nat.log2 (n -1)+1:=TF 64 (n -1) Ao7 Ao7
def Ex(l:List Bs)(i:Nat):List Bs:=
 if h:2<=l.length then
  if i<DF l.length then Ex (l.take (DF l.length)) i++[DU (l.drop (DF l.length))]
  else Ex (l.drop (DF l.length)) (i -DF l.length)++[DU (l.take (DF l.length))]
 else []
termination_by l.length
decreasing_by
 · have:=OQ h;rw [zN];omega
 · have:=OP l.length;rw [zO];omega
theorem UU(h:l.length<=1)(i:Nat):Ex l i=[]:=by rw [Ex,dif_neg Ao7]
theorem Q3(h:2<=l.length)(hi:i<DF l.length):Ex l i=Ex (l.take (DF l.length)) i++[DU (l.drop (DF l.length))]:=by rw [Ex,dif_pos h,Am7 hi]
theorem OB(h:2<=l.length)(hi:¬i<DF l.length):Ex l i=Ex (l.drop (DF l.length)) (i -DF l.length)++[DU (l.take (DF l.length))]:=by rw [Ex,dif_pos h,Am6 hi]
theorem E9.take{p:Option Addr}{cap:Nat}(h:E9 M (.slice p ls.length cap) ls)(n:Nat)(hn:n<=ls.length):E9 M (.slice p n cap) (ls.take n):=by
 obtain ⟨p',cap',e,hl,hg⟩:=h;injection e with e1 e2 e3
 subst e1 e3;have hlen:(ls.take n).length=n:=by rw [zN];omega
 refine ⟨p,cap,by rw [hlen],by rw [hlen];omega,fun i z hz=>hg i z ?_⟩;rw [AA7]at hz;split at hz
 · exact hz
 · cases hz
theorem E9.drop{g0 off0 cap:Nat}(h:E9 M (.slice (some ⟨g0,off0,none⟩) ls.length cap) ls)(n:Nat)(hn:n<ls.length):E9 M (.slice (some ⟨g0,off0+n,none⟩) (ls.length -n) (cap -n)) (ls.drop n):=by
 obtain ⟨p',cap',e,hl,hg⟩:=h;injection e with e1 e2 e3
 subst e1 e3;refine ⟨_,_,by rw [zO],by rw [zO];omega,fun i z hz=>?_⟩;rw [AE1]at hz;obtain ⟨g2,off2,cur2,T2,zz2,e2,hm2,hc2⟩:=hg (n+i) z hz;injection e2 with e2;injection e2 with e3 e4
 subst e3 e4;exact ⟨g0,off0+n,cur2,T2,zz2,rfl,hm2,by rw [AQ1];exact hc2⟩
theorem jX{w:World}{g:Nat}{z:Nat×Nat}(enc:Bs->Value){zs:List Bs}(hb:w.heap[g]?=some (.cells cur e z))(hle:zs.length<=cur.size)(hfr:IA z cur.size)(ht:cur.toList.take zs.length=zs.map enc):Go.Sort.Holds enc w g 0 zs.toArray:=by
 intro j hj;have hj':j<zs.length:=by simpa using hj
 have hf:=hfr j Ao7;have h1:(cur.toList.take zs.length)[j]?=(zs.map enc)[j]?:=by rw [ht]
 rw [AL8 hj']at h1;refine ⟨?_,?_⟩
 · simp only [World.cell?,hb,zo]
   simp only [AR7,AD4,An2];rw [<-AA3,h1];simp [hj']
 · simp only [World.frozen?,hb,zo]
   simp;omega
theorem Vf(enc:Bs->Value)(cur:Array Value)(ts:List Bs)(h:ts.length<=cur.size):(Go.Sort.putCells enc 0 ts.toArray cur).toList.take ts.length=ts.map enc:=by
 apply AD5;intro j;rw [AA7];by_cases hj:j<ts.length
 · rw [Am7 hj,AA3]
   unfold Go.Sort.putCells;rw [AP6,zn Ao7];simp [hj]
 · rw [Am6 hj,AC7 Ap8]
theorem Sat.sorted_enc{u w:World}{g:Nat}{z:Nat×Nat}{R:Hp}(enc:Bs->Value)(d:Array Bs)(h:Sat u ([(g,.cells cur e z)]::R) w):Sat u ([(g,.cells (Go.Sort.putCells enc 0 d cur) e z)]::R) (Go.Sort.putRow enc (Go.Sort.ahead w n) g 0 d):=by
 have hb:=h.get (g,.cells cur e z) Ap0;refine h.upd (.here _) V rfl V ?_ fun k hk=>?_
 · simp [Go.Sort.putRow,Go.Sort.mapBlock,Go.Sort.ahead,AD9,hb,Go.Sort.onCells]
 · have:g≠k:=fun e=>hk e.symm
   simp [Go.Sort.putRow,Go.Sort.mapBlock,Go.Sort.ahead,AD9,this]
theorem VZ(h:BZ 1 9 v ls.length (ls.map Fh) s)(hn:ls.length<=1000000000000):BR Tryz.prog 234 #[v] [s] (fun r H'=>r= .tuple #[]/\∃s',BZ 1 9 v ls.length (ls.reverse.map Fh) s'/\H'=[s']):=by
 obtain ⟨hlen,⟨rfl,h0,rfl⟩|⟨g,cap,cur,z,rfl,rfl,hle,hcm,hcs,htk,hfr⟩⟩:=h
 · intro u R w hs
   have e:ls=[]:=AB0 h0;subst e;exact (Tryz.slices_Reverse_string_empty none 0 w).mono (by
    rintro e w' ⟨rfl,rfl⟩;exact .inl ⟨_,_,V,⟨V,[],Bf 1 _,V⟩,hs⟩)
 · intro u R w hs
   rw [AK7]at hcs htk;have hb:=hs.get (g,.cells cur 9 z) Ap0
   have hH:=jX (w:=w) (g:=g) (e:=9) (z:=z) Fh (zs:=ls) hb Ao7 hfr htk;refine (Tryz.slices_Reverse_string g 0 cap ls w hH Ao7).mono ?_;rintro e w' ⟨rfl,n,rfl⟩;refine .inl ⟨_,_,V,⟨V,_,⟨by simp,.inr ⟨g,cap,_,z,V,V,hle,hcm,?_,?_,?_⟩⟩,V⟩,Sat.sorted_enc (n:=n) Fh ls.reverse.toArray hs⟩
   · rw [AK7];simp [Go.Sort.putCells,hcs]
   · rw [AK7]
     have:=Vf Fh cur ls.reverse (by rw [AO0];omega);rw [AO0]at this;exact this
   · simpa [Go.Sort.putCells]using hfr
theorem jE(n:Nat)(h1:2<=n)(h2:n<=1000000000000):BJ Tryz.prog 233 #[I4 (n:Int)] [] (I4 ((DF n:Nat):Int)):=by
 have hb:=jF n h1 h2;have hl:=OQ h1
 unfold DF at hl;have hl2:(n -1).log2<64:=(Nat.log2_lt Ao7).2 Ao7
 refine Se func233 ntmps233 [0] ?_;intro u R;refine Zq<|Zg<|Za Y<|Z0<|Zx<|Zq<|Zg<|Zm Y ?_
 (refine Bq (CS (n:=1) Y Y ?_ ?_) ?_;(focus (first|omega|(rw [AG2];omega)));(focus (first|omega|(rw [AG2];omega))))
 refine Bq (LM AV3 Ac1 Y (by first|omega|(rw [AG2];omega)))<|Xr [_] Y call117 Y rfl (R8 (H:=[]) (Rl:=fun v=>v=I4 ((Lib.bitLen (n -1):Nat):Int)) (fun w _=>(Tryz.bits_Len ((n -1:Nat):Int) w Ao7 Ao7).mono (by rintro e w1 ⟨rfl,rfl⟩;exact ⟨_,rfl,by rw [AH7],Below.refl _ _⟩)) (fun v h=>⟨h,rfl⟩)) ?_;rw [hb]
 (refine Bq (CS (n:=1) Y Y ?_ ?_) ?_;(focus (first|omega|(rw [AG2];omega)));(focus (first|omega|(rw [AG2];omega))))
 (refine Bq (Tf (m:=1) Y Y ?_ ?_) ?_;(focus (omega));(focus (first|omega|(rw [AG2];omega))))
 refine Za Y<|Z0<|Zx<|AC<|AL rfl results233 Y (by exact ⟨by rw [AG2,Nat.one_mul];rfl,rfl⟩)
theorem Re(hv:E9 M v ls)(hn:ls.length<=1000000)(hs:∀s∈ls,s.length<=140737488354000)(i:Nat)(hi:i<ls.length)(Tg:TypeId)(zg:Nat×Nat):
 BR Tryz.prog 177 #[v,I4 (i:Int)] [[(4,.cells (EW.map Ch).toArray Tg zg)],M] (fun r H'=>∃vp sp,r= .tuple #[vp,I4 0]/\BZ 1 9 vp (Ex ls i).length ((Ex ls i).map Fh) sp/\H'=[sp,[(4,.cells (EW.map Ch).toArray Tg zg)],M]):=by
 have hml:=mL;obtain ⟨p,cap,rfl,hl,hg⟩:=id hv;refine Se func177 ntmps177 [0,1] ?_;intro u R;refine Zq<|Zg<|Za Y<|Za Y<|Z0<|Zx<|TI ?_;refine Zq<|Zq<|Zg<|Zm Y<|Zv (Au (n:=0) Y Y)<|Zm Y<|Ak (t:=12) Y V (fun h1=>?_) (fun h1=>?_)
 ·
  exfalso;omega
 refine Zf Y Y<|Zf Y Y<|Yg (Aa AV1 Y)<|Yg (GK Y Y)<|Zv (AU Y Y)<|Z0<|Zx<|Aw Y (fun h2=>?_) (fun h2=>?_)
 ·
  exfalso;omega
 refine AJ<|Zx<|Zq<|Zg<|Za Y<|Z0<|Zx<|Zq<|TK<|Zx<|Zq<|AO<|BV<|Zb [0,1,6] ?_;refine BI (e0:=[(0,_),(1,_),(6,_)]) (fun m e H=>∃(l2:List Bs) (i2:Nat) (p2:Option Addr) (cap2:Nat) (o:List Bs) (vo:Value) (so:List A8),m=0+l2.length/\(E9 M (.slice p2 l2.length cap2) l2/\i2<l2.length/\(∀s∈l2,s.length<=140737488354000)/\Ex ls i=Ex l2 i2++o.reverse/\BZ 1 9 vo o.length (o.map Fh) so/\o.length+l2.length<=ls.length)/\e=[(0,.slice p2 l2.length cap2),(1,I4 (i2:Int)),(6,vo)]/\H=[so]) (by exact ⟨ls,i,p,cap,[],.slice none 0 0,[],V,⟨hv,hi,hs,by simp,Bf 1 _,by simp⟩,V,V⟩) Wp ?_;rintro _ _ _ ⟨l2,i2,p2,cap2,o,vo,so,rfl,⟨hv2,hi2,hs2,hpr,hro,hol⟩,rfl,rfl⟩;obtain ⟨qo,co,rfl⟩:=hro.form;refine AO<|Zq<|Zq<|Zg<|Zm Y<|Zv (Aa AV1 Y)<|Zv (DL (n:=1) Y Y)<|Z0<|Zx<|Aw Y (fun h1=>?_) (fun h1=>?_)
 ·
  rw [UU (l:=l2) Ao7,AD8]at hpr;refine BG<|Zt<|Ao V<|Zt<|AX<|Zx<|Zq<|Zg<|Zm Y<|Zc [_] Y call234 Y V (VZ hro Ao7) ?_;rintro _ _ ⟨_,⟨rfl,so2,hro2,rfl⟩,rfl⟩;refine Z0<|Zx<|Zq<|Zg<|Zm Y<|Za Y<|Za Y<|Z0<|Zx<|AC<|KI ?_;refine Ci rfl results177 Y Y (by exact ⟨_,so2,rfl,BO hro2 (by rw [hpr,AO0]) (by rw [hpr]),rfl⟩)
 have h9:2<=l2.length:=by omega
 have hk1:=OQ h9;have hk2:=OP l2.length
 have hlt2:(l2.take (DF l2.length)).length=DF l2.length:=by rw [zN];omega
 obtain ⟨p8,cap8,e8,hl8,hg8⟩:=id hv2;injection e8 with e81 e82 e83
 subst e81 e83;obtain ⟨g8,off8,cur8,T8,zz8,rfl,hm8,hc8⟩:=hg8 0 _ (zD Ao7);have hvt:=hv2.take (DF l2.length) Ao7
 have hvd:=hv2.drop (DF l2.length) hk1;refine AJ<|Zx<|Zq<|Zg<|Zm Y<|Zv (Aa AV1 Y)<|Xr [_] Y call233 Y V (jE l2.length h9 Ao7) ?_;refine Za Y<|Z0<|Zx<|Zq<|Az (n:=8) (0::0::3::0::0::24::7::127::[]) 0 Ao8 Ao8 V<|An9 0 V (AP Y)<|An9 1 V (AP Y)<|An9 2 V (CK AV1 AY6 Y Y Ao7)<|An9 3 V (AP Y)<|An9 4 V (AP Y) ?_
 (refine Ev (D':=63) 5 (MQ AV1 AY6 Y Y ?_ ?_) ?_;(focus (omega));(focus (omega)))
 refine An9 6 V (Aq Y)<|An9 7 V (Aq Y)<|Ag<|Zn [1,6,7,8,9] ?_;refine Zx<|Zq<|Zq<|Zg<|Zm Y<|Zm Y<|Zv (GK Y Y)<|Z0<|Zx<|Aw Y (fun hge=>?_) (fun hge=>?_)
 ·
  have hge:¬i2<DF l2.length:=by omega
  refine Zg<|Zm Y<|Zm Y<|Zm Y<|Zm Y<|Yb Y Y<|Za Y<|Za Y<|Za Y<|Z0<|Zx<|Zq<|Zg<|Zm Y<|Zm Y<|Xr [_] Y call232 Y rfl (PK hvt (by rw [hlt2];omega) (fun s h=>hs2 s (AI9 h)) Tg zg) ?_;refine Ze (Af (vs:=[_]) (cs:=[_]) AV1 AY6 AY5 Y V rfl V rfl V) ?_;rintro _ _ ⟨b1,rfl,rfl⟩;refine Ze (Db (by_:=16) (sz:=1) (news:=[_]) AV1 (V:Tryz.prog.info? 9=some Tryz.t9) V rfl V rfl Y hro Y Wo Wh Ap1 V Ap5 Ao9 Ao7 Ao7) ?_;rintro _ _ ⟨sw,hrw,rfl⟩;obtain ⟨gw,cw,rfl⟩:=hrw.form;refine Za Y<|Z0<|Zn [1,6,8] ?_;refine Zx<|Zg<|Zm Y<|Za Y<|Z0<|A9<|Zn [0,1,6] ?_;refine Ad (e':=[(0,_),(1,_),(6,_)]) (by exact ⟨l2.drop (DF l2.length),i2 -DF l2.length,_,_,o++[DU (l2.take (DF l2.length))],_,_,(by rw [zO]),⟨(by rw [zO];exact hvd),by rw [zO];omega,fun s h=>hs2 s (AF2 h),by rw [hpr,OB h9 hge,AR6,zM];rfl,BO hrw Ap0 (by simp;rfl),by rw [zG,zO];simp;omega⟩,(by rw [zO]),rfl⟩)
 refine AJ<|Zx<|Zq<|Zg<|Zm Y<|Zm Y<|Xr [_] Y call232 Y rfl (PK hvd (by rw [zO];omega) (fun s h=>hs2 s (AF2 h)) Tg zg) ?_;refine Ze (Af (vs:=[_]) (cs:=[_]) AV1 AY6 AY5 Y V rfl V rfl V) ?_;rintro _ _ ⟨b3,rfl,rfl⟩;refine Ze (Db (by_:=16) (sz:=1) (news:=[_]) AV1 (V:Tryz.prog.info? 9=some Tryz.t9) V rfl V rfl Y hro Y Wo Wh Ap1 V Ap5 Ao9 Ao7 Ao7) ?_;rintro _ _ ⟨sw,hrw,rfl⟩;obtain ⟨gw,cw,rfl⟩:=hrw.form;refine Za Y<|Z0<|Zx<|Zg<|Zm Y<|Za Y<|Z0<|A9<|Zn [0,1,6] ?_;refine Ad (e':=[(0,_),(1,_),(6,_)]) (by exact ⟨l2.take (DF l2.length),i2,_,_,o++[DU (l2.drop (DF l2.length))],_,_,(by rw [hlt2]),⟨(by rw [hlt2];exact hvt),by rw [hlt2];omega,fun s h=>hs2 s (AI9 h),by rw [hpr,Q3 h9 Ao7,AR6,zM];rfl,BO hrw Ap0 (by simp;rfl),by rw [zG,hlt2];simp;omega⟩,(by rw [hlt2]),rfl⟩)
def yf(s:Bs):Bool:=!decide (s.length=32)
def vV(s:Bs):Nat->Nat->List Bs->Option Bs
 |n,_,[]=>if n<=1 then some (Xq s)else none
 |n,i,x::rp=>if n<=1 then none else if i<DF n then(vV s (DF n) i rp).map (fun v=>Iw v x)else(vV s (n -DF n) (i -DF n) rp).map (fun v=>Iw x v)
def yT(root:Bs)(n i:Nat)(s:Bs)(pf:List Bs):Bool:=!(pf.any yf)&&decide (vV s n i pf.reverse=some root)
def Pi(r:AQ):Bs:=Gs [r.t,r.k]++Gs [r.v.a,r.v.b,r.v.c]
theorem VX(h:r.ok):(∀n∈[r.t,r.k],-4611686018427387903<=n/\n<=4611686018427387903)/\(∀n∈[r.v.a,r.v.b,r.v.c],-4611686018427387903<=n/\n<=4611686018427387903):=by
 obtain ⟨⟨h1,h2,h3⟩,h4,h5⟩:=h;unfold inV at h1 h2 h3;constructor
 · intro n hn
   simp only [za,AH2,An6]at hn;rcases hn with rfl|rfl<;>omega
 · intro n hn
   simp only [za,AH2,An6]at hn;rcases hn with rfl|rfl|rfl<;>omega
theorem dB(h:r.ok):(Pi r).length<=45:=by
 have h1:=Gr _ (VX h).1;have h2:=Gr _ (VX h).2
 unfold Pi;rw [zG];simp only [ze,AF4]at h1 h2;omega
theorem oO(a b:Int):KZ #[I4 a,I4 b] 0 [a,b]:=by
 intro i n h;rcases i with _|_|i
 · simp at h;subst h;rfl
 · simp at h;subst h;rfl
 · simp at h
theorem uH(r:AQ):KZ #[I4 r.t,I4 r.k,I4 r.v.a,I4 r.v.b,I4 r.v.c] 2 [r.v.a,r.v.b,r.v.c]:=by
 intro i n h;rcases i with _|_|_|i
 · simp at h;subst h;rfl
 · simp at h;subst h;rfl
 · simp at h;subst h;rfl
 · simp at h
theorem gV(r:AQ)(hr:r.ok):BJ Tryz.prog 229 #[.agg #[I4 r.t,I4 r.k,I4 r.v.a,I4 r.v.b,I4 r.v.c]] [] (.tuple #[.string (str (Pi r)),I4 0]):=by
 have hn:=VX hr;have hl1:=Gr _ hn.1
 have hl2:=Gr _ hn.2;simp only [ze,AF4]at hl1 hl2;refine Se func229 ntmps229 [0] ?_;intro u R;refine Zq<|Zg<|Ze (Bx #[_,_,_,_,_]) ?_;rintro _ _ ⟨xb,rfl,rfl⟩;refine Za Y<|Za Y<|Z0<|Zx<|Zq<|Zq<|Zg<|Zo Wh (Pa #[_,_,_,_,_] AX3 AU5 Y) ?_;refine Xr [_] Y call203 Y V (RJ r) ?_;rw [Am8 hr];refine Zv (Br Y)<|Z0<|Zx<|AR Y (fun hv=>?_) (fun hv=>?_)
 ·
  cases hv
 refine AJ<|Zx<|Zq<|Az (n:=12) (0::1::0::4::15::31::0::64::255::511::1023::2047::[]) 304 Ao8 Ao8 V<|An9 0 V (AB (off:=0) AX4 V rfl AU1 Y)<|Ao0 1 V AU2 Y ?_;refine An9 2 V (AB (off:=1) AX4 V rfl AU1 Y)<|Ao0 3 V AU2 Y ?_;refine An9 6 V (AB (off:=2) AX4 V rfl AZ5 Y)<|An9 7 V (IE Ab6 AU1 Y)<|Zz (l:=[4])<|Ao5 [false,false] [] V rfl (Af (vs:=[_,_]) (cs:=[_,_]) AV0 AU1 AX6 Y V rfl V rfl V) ?hk_1 (fun _ _ h=>h.elim) ?hl_1
 case hk_1=>
  rintro _ _ ⟨gb,rfl,rfl⟩;refine ⟨AV,?_⟩;refine Yw 5 255 V (Zu [_] Y call273 Y V (lX gb 0 2 _ _ _ [r.t,r.k] (oO r.t r.k) Ap0 hn.1)) ?_;rintro _ _ ⟨rfl,rfl⟩;refine Yw 8 511 V (Zu [_] Y call273 Y V (lX xb 2 3 _ _ _ [r.v.a,r.v.b,r.v.c] (uH r) Ap0 hn.2)) ?_;rintro _ _ ⟨rfl,rfl⟩;refine An9 9 rfl (M4 Y Y (by rw [GQ,GQ];omega))<|An9 10 rfl (Aq Y)<|An9 11 rfl (Aq Y)<|Ag<|Zn [2,3] ?_;refine Zx<|AC<|Ci rfl results229 Y Y (by exact ⟨by rw [Qf];rfl,rfl⟩)
 exact Ae
def BC(rs:List AQ)(t:Int)(c:Nat):List AQ:=DY rs t c (-1000000000) 1000000000
theorem Iu(hs:BM rs)(t:Int)(c:Nat):(BC rs t c).length<=rs.length:=by
 unfold BC;rw [(EI rs t c _ _).length_eq];exact AD3 _ _
theorem Ls{t:Int}{c:Nat}{lo hi:Int}(h:r∈DY rs t c lo hi):r∈rs:=(AA2.1 ((EI rs t c lo hi).mem_iff.1 h)).1
def NS(l:List AQ):List Bs:=l.map Pi
theorem Fu(l:List AQ):(NS l).length=l.length:=zH ..
theorem pY{l:List AQ}(h:l[i]?=some x):(NS (l.take (i+1))).map Fh=(NS (l.take i)).map Fh++[.string (str (Pi x))]:=by
 rw [Bc h];unfold NS;rw [zK,zK];rfl
def qd(l:List AQ)(vr ve:Value)(sr se:List A8):Prop:=BZ 5 83 vr (l).length (Ac (l)) sr/\BZ 1 9 ve l.length ((NS l).map Fh) se
theorem Rz(v:Value)(p:Int)(rs:List AQ)(s:List A8)(hv:Qa v p rs s)(hs:BM rs)(hn:rs.length<=2000)(hok:∀r∈rs,r.ok)(t:Int)(c:Nat)(hc:c<=3):
 BR Tryz.prog 170 #[v,I4 t,I4 (c:Int)] [s] (fun r H'=>∃vr ve sr se,r= .agg #[vr,ve]/\qd (BC rs t c) vr ve sr se/\H'=[sr,se,s]):=by
 have hml:=mL;have hll:=Iu hs t c
 refine Se func170 ntmps170 [0,1,2] ?_;intro u R;refine Zq<|Zg<|Ze (Al Ai5 #[_,_]) ?_;rintro _ _ ⟨qb,rfl,rfl⟩;refine Z0<|Zx<|Zq<|Zg<|Zm Y<|Zm Y<|Zm Y<|Zc [_,_,_,_,_] Y call105 Y V (X6 v p rs s hv t c (-1000000000) 1000000000 hc) ?_;rintro _ _ ⟨_,⟨sr,hrr,rfl⟩,rfl⟩;change BZ 5 83 _ (BC rs t c).length (Ac (BC rs t c)) sr at hrr;obtain ⟨qr,cr,rfl⟩:=hrr.form;have hRU:=D7 hrr Ao7
 obtain ⟨p9,cap9,e9,hol,hg⟩:=id hRU;injection e9 with e91 e92 e93
 subst e91 e93;refine Zv (BL (vs:=[(0,_)]) (cs:=#[_,_]) Y (AY (pl:=#[(0,1),(1,1)]) Ai5 AY7 (fun _=>by kernel_rfl) V))<|Ze (Al Ai5 #[_,_]) ?_;rintro _ _ ⟨ob,rfl,rfl⟩;refine Xe (BK Al3 Y Y (by(simp [Value.oneCell',Value.cells];done)) Wu (by exact (rfl:_=(#[.slice qr (BC rs t c).length cr,.slice none 0 0]:Array Value))) Ap3 Ao9 (by exact BF _)) ?_;refine Z0<|Zx<|Zq<|Zq<|Zg<|Zh 0 AY7 V rfl AW8 Y<|Zl Ab2 Y ?_;refine Zv (Aa AU4 Y)<|Zm Y<|Z0<|Zx<|AO<|BV<|Zb [20,6,7,18,19] ?_;refine BI (e0:=[(20,_)]) (fun m e H=>∃(i:Nat) (ve:Value) (se:List A8),m=(BC rs t c).length -i/\(i<=(BC rs t c).length/\BZ 1 9 ve i ((NS ((BC rs t c).take i)).map Fh) se)/\e=[(20,I4 (i:Int))]/\H=[[(ob,.cells #[.slice qr (BC rs t c).length cr,ve] 262 (0,0))],se]) (by exact ⟨0,.slice none 0 0,[],V,⟨zT _,Bf 1 _⟩,V,V⟩) Wp ?_;rintro _ _ _ ⟨i,ve,se,rfl,⟨hi,hre⟩,rfl,rfl⟩;obtain ⟨qe,ce,rfl⟩:=hre.form;refine Zq<|Zg<|Zv (Au Y Y)<|Z0<|Zx<|Zq<|Aw Y (fun hlt=>?_) (fun hlt=>?_)
 ·
  obtain ⟨x,hx⟩:∃x,(BC rs t c)[i]?=some x:=⟨_,zD hlt⟩;obtain ⟨g,off,cur,T,zz,rfl,hm9,hsz9,hex9⟩:=hg i x hx;have hxo:=hok x (Ls (zP hx))
  refine AJ<|Zx<|Zq<|AO<|Zq<|Zg<|Bq (Ai AU4 AU5 Y Y Ao7)<|CW (cs:=[(g,.cells cur T zz)]) (by simp [hm9]) (AA (cs:=#[I4 x.t,I4 x.k,I4 x.v.a,I4 x.v.b,I4 x.v.c]) AX3 AU5 Y Ao7 hex9) V rfl ?_;refine Ze (Al AW7 #[_,_,_,_,_]) ?_;rintro _ _ ⟨xb,rfl,rfl⟩;refine Xe (Xw AU5 #[I4 x.t,I4 x.k,I4 x.v.a,I4 x.v.b,I4 x.v.c]) ?_;refine Z0<|Zx<|Zq<|Zg<|Zo Wh (Pa #[_,_,_,_,_] AX3 AU5 Y) ?_;refine Xr [_] Y call229 Y V (gV x hxo) ?_;refine Zm Y<|Zd Y V<|Zd Y V<|Za Y<|Za Y<|Z0<|Zx<|Zg<|Zh 1 AY7 V rfl Aa1 Y<|Zl Ae3 Y ?_;refine Zm Y<|Ze (Af (vs:=[_]) (cs:=[_]) AV1 AY6 AY5 Y V rfl V rfl V) ?_;rintro _ _ ⟨b4,rfl,rfl⟩;refine Ze (Db (by_:=16) (sz:=1) (news:=[_]) AV1 (V:Tryz.prog.info? 9=some Tryz.t9) V rfl V rfl Y hre Y Wo Wh Ap1 V Ap5 Ao9 Ao7 Ao7) ?_;rintro _ _ ⟨sw5,hrw5,rfl⟩;obtain ⟨gw5,cw5,rfl⟩:=hrw5.form;refine Zh 1 AY7 V rfl Aa1 Y<|Xe (Zs Aa1 Y Y V (hc:=by exact (V:_=(#[.slice _ (BC rs t c).length cr,_]:Array Value))) (hi:=by(simp;done))) ?_;refine Z0<|Zn [6,7,18,19,20] ?_;refine A9<|Zx<|Zg<|Ya (n:=1) Y Y<|Zm Y<|Z0<|Zn [20,6,7,18,19] ?_;refine Ad (e':=[(20,_)]) (by exact ⟨i+1,_,_,rfl,⟨by omega,BO hrw5 rfl (by rw [pY hx])⟩,rfl,rfl⟩)
 have ei:i=(BC rs t c).length:=by omega
 subst ei;rw [AA4]at hre;refine BG<|Zt<|Zt<|AX<|Zx<|Zq<|Zg<|Zo Wh (AA (cs:=#[_,_]) isAgg262 Al3 Y (by(simp;done)) Ap1) ?_;refine Xe (BK Al3 Y Y (by(simp [Value.oneCell',Value.cells];done)) Wu (by exact (rfl:_=(#[.slice qr (BC rs t c).length cr,.slice qe _ ce]:Array Value))) Ap3 Ao9 (by exact BF _)) ?_;refine Z0<|Zx<|AC<|Cy V results170 Y Wh (Ap isAgg262 Al3 Wn (V)) (by exact ⟨.slice qr _ cr,.slice qe _ ce,sr,se,V,⟨hrr,hre⟩,V⟩)
theorem Xg(v:Value)(p:Int)(rs:List AQ)(s:List A8)(hv:Qa v p rs s)(hs:BM rs)(hn:rs.length<=2000)(hok:∀r∈rs,r.ok)(t:Int)(c:Nat)(hc:c<=3):
 BR Tryz.prog 170 #[v,I4 t,I4 (c:Int)] [s] (fun r H'=>∃vr ve sr se,r= .agg #[vr,ve]/\qd (BC rs t c) vr ve sr se/\H'=[sr++se,s]):=by
 refine GY (Rz v p rs s hv hs hn hok t c hc) V ?_;rintro r H' ⟨vr,ve,sr,se,rfl,h,rfl⟩;exact ⟨_,⟨vr,ve,sr,se,V,h,V⟩,by simp⟩
def tcs:List (Nat×Nat):=(List.range 4).flatMap fun t=>(List.range 4).map fun c=>(t,c)
theorem xI:∀t,t<4->∀c,c<4->tcs[4*t+c]?=some (t,c):=by decide
def vY(rs:List AQ)(x:Nat×Nat):Bs:=Sz ((BC rs (x.1:Int) x.2).length:Int)++DU (NS (BC rs (x.1:Int) x.2))
def ZT(rs:List AQ):List Bs:=tcs.map (vY rs)
def zC(rs:List AQ)(x:Nat×Nat)(vs:Array Value)(sx:List A8):Prop:=∃vr ve sr se,vs=#[.agg #[vr,ve]]/\qd (BC rs (x.1:Int) x.2) vr ve sr se/\sx=sr++se
theorem WC{l:List AQ}(h:∀r∈l,r.ok):∀s∈NS l,s.length<=45:=by
 intro s hs;obtain ⟨r,hr,rfl⟩:=zQ.1 hs;exact dB (h r hr)
theorem Xd(q:Option Addr):BR Tryz.prog 230 #[.pointer q] [] (fun r H'=>∃b,r= .func (.func 274) #[] #[I5 b]/\H'=[[(b,.cells #[.pointer q] 131 (0,0))]]):=by
 refine Se func230 ntmps230 [0] ?_;intro u R;refine Zq<|Zg<|Ze (Bx #[_]) ?_;rintro _ _ ⟨b,rfl,rfl⟩;refine Za Y<|Z0<|Zx<|Zq<|Zg<|Zv (Bb (vs:=[]) (us:=[_]) Y Y)<|Za Y<|Z0<|Zx<|AC<|AL V results230 Y (by exact ⟨_,V,V⟩)
theorem Xf(v:Value)(p:Int)(rs:List AQ)(s:List A8)(hv:Qa v p rs s)(hs:BM rs)(hn:rs.length<=2000)(hok:∀r∈rs,r.ok)(b:Nat):
 VB Tryz.prog 274 #[I5 b] [[(b,.cells #[v] 131 (0,0))]] [s] (zC rs) tcs:=by
 have hml:=mL;intro l J hy s0 hJ;refine Se func274 ntmps274 [0,1] ?_;intro u R;refine Zq<|Zg<|Zm Y<|Z0<|Zx<|AO<|Zb [5,0,1] ?_;refine BI (e0:=[(5,_)]) (fun m e H=>∃(t:Nat) (s2:List A8),m=4 -t/\(t<=4/\J (tcs.take (4*t)) s2)/\e=[(5,I4 (t:Int))]/\H=[s2]) (by exact ⟨0,s0,V,⟨by omega,hJ⟩,V,V⟩) Wp ?_;rintro _ _ _ ⟨t,s2,rfl,⟨ht,hJ2⟩,rfl,rfl⟩;refine Zq<|Zg<|Zv (Au (n:=4) Y Y)<|Z0<|Zx<|Zq<|Aw Y (fun ht4=>?_) (fun ht4=>?_)
 ·
  refine AJ<|Zx<|Zq<|AO<|Zq<|Zg<|Zm Y<|Za Y<|Z0<|Zx<|Zq<|Zg<|Zm Y<|Z0<|Zx<|AO<|Zb [8,0,1,3,5] ?_;refine BI (e0:=[(8,_)]) (fun m e H=>∃(c:Nat) (s3:List A8),m=4 -c/\(c<=4/\J (tcs.take (4*t+c)) s3)/\e=[(8,I4 (c:Int))]/\H=[s3]) (by exact ⟨0,s2,V,⟨by omega,hJ2⟩,V,V⟩) Wp ?_;rintro _ _ _ ⟨c,s3,rfl,⟨hc,hJ3⟩,rfl,rfl⟩;refine Zq<|Zg<|Zv (Au (n:=4) Y Y)<|Z0<|Zx<|Zq<|Aw Y (fun hc4=>?_) (fun hc4=>?_)
  ·
   have hx:=xI t ht4 c hc4;refine AJ<|Zx<|Zq<|AO<|Zq<|Zg<|Zm Y<|Za Y<|Z0<|Zx<|Zq<|Zg<|Zm Y<|Zl isAgg131 Y ?_;refine Zm Y<|Zm Y<|Zc [_,_,_] Y call170 Y V (Xg v p rs s hv hs hn hok (t:Int) c Ao7) ?_;rintro _ _ ⟨_,⟨vr,ve,sr,se,rfl,hO,rfl⟩,rfl⟩;have hyk:=hy _ _ _ s3 #[.agg #[vr,ve]] (sr++se) (Ns hx) hJ3 ⟨vr,ve,sr,se,rfl,hO,rfl⟩
   refine Ze (Fz (vs:=[_]) Y Y (hyk) Wp) ?_;rintro _ _ ⟨_,⟨s4,rfl,rfl,hJ4⟩,rfl⟩;refine Zv (Br Y)<|Z0<|Zx<|AR Y (fun hb=>?_) (fun hb=>?_)
   ·
    cases hb
   refine AJ<|A9<|Zx<|Zg<|Ya (n:=1) Y Y<|Zm Y<|Z0<|Zn [8,0,1,3,5] ?_;refine Ad (e':=[(8,_)]) (by exact ⟨c+1,s4,rfl,⟨by omega,by rw [<-AQ1,Bc hx];exact hJ4⟩,rfl,rfl⟩)
  refine BG<|Zt<|Zt<|AX<|A9<|Zx<|Zg<|Ya (n:=1) Y Y<|Zm Y<|Z0<|Zn [5,0,1] ?_;refine Ad (e':=[(5,_)]) (by exact ⟨t+1,s3,rfl,⟨by omega,by rw [Nat.mul_add,AK7];have e4:c=4:=Ao7;subst e4;exact hJ3⟩,rfl,rfl⟩)
 have e4:t=4:=by omega
 subst e4;refine BG<|Zt<|Zt<|AX<|Cj V results274 (by exact ⟨s2,V,hJ2⟩)
theorem U9(v:Value)(p:Int)(rs:List AQ)(s:List A8)(hv:Qa v p rs s)(hs:BM rs)(hn:rs.length<=2000)(hok:∀r∈rs,r.ok)(Tg:TypeId)(zg:Nat×Nat):
 BR Tryz.prog 176 #[v] [[(4,.cells (EW.map Ch).toArray Tg zg)],s] (fun r H'=>∃so,BZ 1 9 r 16 ((ZT rs).map Fh) so/\H'=[so,[(4,.cells (EW.map Ch).toArray Tg zg)],s]):=by
 have hml:=mL;obtain ⟨sp9,mb9,es9,ck9,lm9,rfl,hst9⟩:=id hv;refine Cz func176 V ntmps176 V ?_;intro u R;refine Zb [0] ?_;refine Zq<|Zg<|Za Y<|Z0<|Zx<|Zq<|Zg<|Ze (Al Ad6 #[_]) ?_;rintro _ _ ⟨ob,rfl,rfl⟩;refine Z0<|Zx<|Zq<|Zq<|Zg<|Zm Y<|Zc [_] Y call230 Y V (Xd _) ?_;rintro _ _ ⟨_,⟨bb,rfl,rfl⟩,rfl⟩;refine Z0<|Zx<|AO<|Zb [3,8] ?_;refine BV<|WR (H0:=_) (R:=_) (I:=(fun pre H=>∃v2 s2,H=[[(ob,.cells #[v2] 45 (0,0))],s2,[(4,.cells (EW.map Ch).toArray Tg zg)]]/\BZ 1 9 v2 pre.length ((pre.map (vY rs)).map Fh) s2)) (E:=fun x vs sx e Hn=>∃bx vr ve,vs=#[.agg #[vr,ve]]/\e=[(4,I5 bx),(9,.agg #[vr,ve])]/\Hn=[[(bx,.cells #[vr,ve] 262 (0,0))]]) rfl Y call274 (Xf _ p rs s hv hs hn hok bb) (fun x vs sx h=>by obtain ⟨vr,ve,sr,se,rfl,_⟩:=h;rfl) rfl Wp (⟨_,[],rfl,Bf 1 _⟩) ?ha_2 ?hbd_2 ?hk_2
 case ha_2=>
  intro _ x vs sx _ _ hEnc;obtain ⟨vr,ve,sr,se,rfl,hO,rfl⟩:=hEnc;refine Zg<|Ze (Al Ai5 #[_,_]) ?_;rintro _ _ ⟨bx,rfl,rfl⟩;refine Xe (BK Al3 Y Y (by obtain ⟨q1,c1,rfl⟩:=hO.1.form;obtain ⟨q2,c2,rfl⟩:=hO.2.form;simp [Value.oneCell',Value.cells]) Wu (by exact (rfl:_=(#[vr,ve]:Array Value))) Ap3 Ao9 (by exact BF _)) ?_;refine Z0<|LQ (e:=[(4,_),(9,_)]) (Hn:=[[(_,_)]]) ?_;exact ⟨_,_,_,V,V,V⟩
 case hbd_2=>
  intro l pre x post u vs sx e9 Hn9 H1 R1 hxs hI hEnc hE9;obtain ⟨vr,ve,sr,se,rfl,hO,rfl⟩:=hEnc;obtain ⟨bx,vr2,ve2,hvv,rfl,rfl⟩:=hE9;simp at hvv;obtain ⟨rfl,rfl⟩:=hvv;obtain ⟨v2,s2,rfl,hr2⟩:=hI;obtain ⟨qe,ce,rfl⟩:=hO.2.form;obtain ⟨q2,c2,rfl⟩:=hr2.form;have hpl:=congrArg List.length hxs
  rw [zG,ze,show tcs.length=16 from rfl]at hpl;have hol:=Iu hs (x.1:Int) x.2
  have hou:E9 (sr++se) (.slice qe (BC rs (x.1:Int) x.2).length ce) (NS (BC rs (x.1:Int) x.2)):=(GD (BO hO.2 (Fu _).symm rfl) (by rw [Fu];omega)).mono (fun c h=>zZ _ h);refine AO<|Zq<|Zg<|Zh 1 AY7 V rfl Aa1 Y<|Zl Ae3 Y ?_;refine Zv (Aa AV1 Y)<|Xr [_] Y call231 Y V (Q0 _ Ao7 Ao7) ?_;refine Zm Y<|Zd Y V<|Zd Y V<|Za Y<|Za Y<|Z0<|Zx<|Az (n:=9) (0::0::0::4::12::30::62::127::255::[]) 464 Ao8 Ao8 V<|Ao0 0 V Ae3 Y ?_;refine An9 1 V (AP Y)<|An9 2 V (AB (off:=1) AY7 V rfl Aa1 Y)<|Ao0 3 V Ae3 Y ?_;refine Yz 4 12 31 [3,0] [false,true] [(0,(_,_))] rfl Y rfl rfl rfl rfl (Zu [_] Y call232 Y rfl (PK hou (by rw [Fu];omega) (fun s h=>by have:=WC (fun r hr=>hok r (Ls hr)) s h;omega) Tg zg)) ?_;rintro _ _ ⟨rfl,rfl⟩;refine ⟨Zk (AV),?_⟩;refine An9 5 rfl (M4 Y Y (by rw [GQ,GQ,LC];have:=Ob ((BC rs (x.1:Int) x.2).length:Int) Ao7 Ao7;omega))<|Yz 6 62 127 [0] [true] [(0,(_,_))] rfl Y rfl rfl rfl rfl (Af (vs:=[_]) (cs:=[_]) AV1 AY6 AY5 Y rfl rfl rfl rfl rfl) ?_;rintro _ _ ⟨b3,rfl,rfl⟩;refine ⟨Zk (AV),?_⟩;refine Yw 7 255 V (Db (by_:=16) (sz:=1) (news:=[_]) AV1 (V:Tryz.prog.info? 9=some Tryz.t9) V rfl V rfl Y hr2 Y Wo Wh Ap1 V Ap5 Ao9 Ao7 Ao7) ?_;rintro _ _ ⟨sw5,hrw5,rfl⟩;obtain ⟨gw5,cw5,rfl⟩:=hrw5.form;refine Yw 8 511 V (Zs Aa1 Y Y V (hi:=by(simp;done))) ?_;rintro _ _ ⟨rfl,rfl⟩;refine Ag<|Zn [] ?_;refine A9<|Ej V (by exact ⟨_,_,V,BO hrw5 Ap0 (by simp [vY,Fh,Qf])⟩)
 intro D1 H2 hI2;obtain ⟨v2,s2,rfl,hr2⟩:=hI2;refine Zn [3] ?_;refine A9<|Zx<|Zq<|Zg<|Zl Ae3 Y ?_;refine Za Y<|Z0<|Zx<|AC<|Fq V (aN results176 Y) Wo (by exact ⟨s2,hr2,V⟩)
end Go.Proofs.YteaiajghbkenoaaGreatDoor
