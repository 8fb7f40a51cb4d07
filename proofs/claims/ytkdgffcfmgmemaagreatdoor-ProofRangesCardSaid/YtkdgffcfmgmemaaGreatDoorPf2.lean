/- A patch gives the result on the rows after the change: rows, numbers, sums, least and greatest values. -/
/- A patch gives the result on the rows after the change: the pairs of a join. -/
/- proof.Replay. -/
/- Records of a log replayed: the result at the later position. -/
/- proof.Make, for queries that are not joins. -/
import Derived.Test.YtkdgffcfmgmemaaGreatDoorEz
import Derived.Test.YtkdgffcfmgmemaaGreatDoorPr5
import Derived.Test.YtkdgffcfmgmemaaGreatDoorLg11
import Derived.Test.YtkdgffcfmgmemaaGreatDoorTk1
set_option linter.unusedVariables false
set_option linter.unusedSimpArgs false
namespace Go.Proofs.YtkdgffcfmgmemaaGreatDoor
open Go.Proofs.Tryz
open Go Go.RowKit Gw
set_option maxRecDepth 100000
attribute [local irreducible] Gw.At Gw.Nx Gw.Ops
theorem Mo{rs:List AQ}(hs:BK rs):rs.Nodup:=hs.imp (by
 intro a b h e;subst e;unfold AQ.lt2 at h;omega)
theorem Mt{q:QM}(hq:BP q)(rs:List AQ)(x:AQ):x∈Ca rs q↔x∈rs∧inQ q x=true:=by rw [(Gf hq rs).mem_iff,vU]
theorem Pw{q:QM}(hq:BP q){rs:List AQ}(hs:BK rs):(Ca rs q).Nodup:=(Gf hq rs).nodup_iff.2 ((Mo hs).filter _)
theorem Pv{q:QM}(hq:BP q){rs o:List AQ}(hs:BK rs)(hn:o.Nodup)(hm:∀x,x∈o↔x∈rs∧inQ q x=true)(h2:o.Pairwise (leV q.cl.toNat)):o=Ca rs q:=by
 have h:=Gf hq rs;refine Pp hs (f:=inQ q) (t:=q.tb) (fun r h9=>(of_decide_eq_true h9).1) ?_ h h2 (Ea hs _ _ _ _);exact (xB hn ((Mo hs).filter _)).2 fun x=>by rw [hm,vU]
theorem NG{q:QM}{b:Bool}{x y:AQ}(h:Hq q b x=some y):y=x∧b=true∧inQ q y=true:=by
 unfold Hq at h;split at h
 · rename_i h9
   rw [u6]at h9;injection h with h
   subst h;exact ⟨rfl,h9⟩
 · cases h
theorem j5{q:QM}{b:Bool}{x:AQ}(h:Hq q b x=none)(hh:b=true):inQ q x=false:=by
 unfold Hq at h;rw [hh,xU]at h;split at h
 · cases h
 · simp_all
theorem PY{q:QM}(hq:BP q)(y x:AQ):J5 q y x=true↔DU y q.cl.toNat<DU x q.cl.toNat∨(DU x q.cl.toNat=DU y q.cl.toNat∧y.k<x.k):=by
 have hc:=hq.2.1;have e:∀r,Be r q.cl=DU r q.cl.toNat:=fun r=>by
  have:=M7 r q.cl.toNat (by omega);rwa [show((q.cl.toNat:Nat):Int)=q.cl by omega]at this
 unfold J5;rw [e,e,wY,u6,decide_eq_true_eq,decide_eq_true_eq,decide_eq_true_eq]
theorem qB{q:QM}(hq:BP q){y x:AQ}(h:J5 q y x=false):leV q.cl.toNat x y:=by
 have h1:=PY hq y x;rw [h]at h1;unfold leV;have:¬(DU y q.cl.toNat<DU x q.cl.toNat∨(DU x q.cl.toNat=DU y q.cl.toNat∧y.k<x.k)):=fun h9=>by cases h1.2 h9
 omega
theorem qC{q:QM}(hq:BP q){y x:AQ}(h:J5 q y x=true):leV q.cl.toNat y x:=by
 have:=(PY hq y x).1 h;unfold leV;omega
theorem TV{q:QM}(hq:BP q){L:List AQ}(hL:L.Pairwise (leV q.cl.toNat))(y:AQ):∃A B,L=A++B∧PM (J5 q y) L y=A++[y]++B∧(∀x∈A,J5 q y x=false)∧(∀x∈B,J5 q y x=true):=by
 cases h:L.findIdx? (J5 q y)with
 |none=>
  refine ⟨L,[],by simp,?_,wL.1 h,by simp⟩;unfold PM;rw [h];simp
 |some i=>
  obtain ⟨h1,h2,h3⟩:=vD.1 h;refine ⟨L.take i,L.drop i,(uW i L).symm,?_,fun x hx=>?_,fun x hx=>?_⟩
  · unfold PM
    rw [h];rfl
  · obtain ⟨j,hj⟩:=uU hx
    rw [uY]at hj;split at hj
    · rename_i hji
      obtain ⟨h4,rfl⟩:=tF.1 hj;simpa using h3 j hji
    · cases hj
  · have h5:=hL.sublist (List.drop_sublist i L)
    rw [vK h1]at hx h5;rcases uH.1 hx with rfl|hx
    · exact h2
    · have h6:=(wD.1 h5).1 x hx
      have h7:=(PY hq y _).1 h2;rw [PY hq];unfold leV at h6;omega
theorem WO(pd:AQ→Bool)(L:List AQ)(y:AQ):(PM pd L y).Perm (y::L):=by
 unfold PM;simp only [tN,uT];refine uR.trans ?_;rw [uW]
theorem YB{q:QM}(hq:BP q){L:List AQ}(hL:L.Pairwise (leV q.cl.toNat))(y:AQ):(PM (J5 q y) L y).Pairwise (leV q.cl.toNat):=by
 obtain ⟨A,B,e,e2,hA,hB⟩:=TV hq hL y;rw [e2];rw [e]at hL;obtain ⟨h1,h2,h3⟩:=vC.1 hL;rw [tN];refine vC.2 ⟨h1,wD.2 ⟨fun x hx=>qC hq (hB x hx),h2⟩,fun a ha b hb=>?_⟩;rcases uH.1 hb with rfl|hb
 · exact qB hq (hA a ha)
 · exact h3 a ha b hb
theorem pO(c:Chg)(x:AQ):Iz c x=true↔x.is c.t c.k:=by
 unfold Iz AQ.is;rw [u6,decide_eq_true_eq,decide_eq_true_eq]
theorem QP{q:QM}(hq:BP q){rs:List AQ}{c:Chg}(hs:BK rs)(hf:Fa rs c):Dm q c (Ca rs q)=Ca (EG rs c) q:=by
 have hL:((Ca rs q).filter fun x=>!Iz c x).Pairwise (leV q.cl.toNat):=(Ea hs _ _ _ _).sublist zN;have hN:((Ca rs q).filter fun x=>!Iz c x).Nodup:=(Pw hq hs).filter _
 have hM:∀x,x∈((Ca rs q).filter fun x=>!Iz c x)↔(x∈rs∧¬x.is c.t c.k)∧inQ q x=true:=fun x=>by
  rw [vU,Mt hq,wB,←Bool.not_eq_true,pO];constructor
  · rintro ⟨⟨a,b⟩,d⟩;exact ⟨⟨a,d⟩,b⟩
  · rintro ⟨⟨a,d⟩,b⟩;exact ⟨⟨a,b⟩,d⟩
 unfold Dm;cases ha:afQ q c with
 |none=>
  refine Pv hq (Ip hs hf) hN (fun x=>?_) hL;rw [hM,FX hs hf];constructor
  · rintro ⟨a,b⟩;exact ⟨.inl a,b⟩
  · rintro ⟨a|⟨a,rfl⟩,b⟩
    · exact ⟨a,b⟩
    · rw [j5 ha a]at b;cases b
 |some y=>
  obtain ⟨hy,hh,hi⟩:=NG ha;have hyn:y∉((Ca rs q).filter fun x=>!Iz c x):=fun h=>((hM y).1 h).1.2 (by rw [hy];exact ⟨rfl,rfl⟩)
  refine Pv hq (Ip hs hf) ((WO _ _ y).nodup_iff.2 (xZ.2 ⟨hyn,hN⟩)) (fun x=>?_) (YB hq hL y);rw [(WO _ _ y).mem_iff,uH,hM,FX hs hf];constructor
  · rintro (rfl|⟨a,b⟩)
    · exact ⟨.inr ⟨hh,hy⟩,hi⟩
    · exact ⟨.inl a,b⟩
  · rintro ⟨a|⟨a,e⟩,b⟩
    · exact .inr ⟨a,b⟩
    · exact .inl (e.trans hy.symm)
theorem Wj(lt:Int→Int→Bool)(hlt:∀a b c,lt b a=false→lt c b=false→lt c a=false)(hirr:∀a,lt a a=false)(hasy:∀a b,lt a b=true→lt b a=false)(htot:∀a b,lt a b=false→lt b a=false→a=b){l:List Int}{x:Int}(hx:x∈l)(h:∀y∈l,lt y x=false):EM lt l=⟨[],x,true⟩:=by
 match l,hx,h with
 |z::l,hx,h=>
  obtain ⟨x',a1,a2,a3⟩:=Jp lt hlt hirr hasy z l;rw [a3,htot x x' (a2 x hx) (h x' a1)]
theorem kK(lt:Int→Int→Bool)(l:List Int)(n:Int):EM lt (l++[n])=⟨(EM lt l).rows,if !(EM lt l).fnd||lt n (EM lt l).val then n else(EM lt l).val,true⟩:=by
 unfold EM;rw [wJ];rfl
theorem eQ(lt:Int→Int→Bool)(hlt:∀a b c,lt b a=false→lt c b=false→lt c a=false)(hirr:∀a,lt a a=false)(hasy:∀a b,lt a b=true→lt b a=false)(htot:∀a b,lt a b=false→lt b a=false→a=b)(X:List Int)(b a:Option Int)
 (h:(Fv lt b.isSome a.isSome (b.getD 0) (a.getD 0) (EM lt (X++b.toList))).2=true):(Fv lt b.isSome a.isSome (b.getD 0) (a.getD 0) (EM lt (X++b.toList))).1=EM lt (X++a.toList):=by
 have hadd:∀r:CO,r=EM lt X→(if a.isSome then((⟨r.rows,if !r.fnd||lt (a.getD 0) r.val then a.getD 0 else r.val,true⟩:CO),true)else(r,true)).1=EM lt (X++a.toList):=fun r hr=>by
  subst hr;cases a with
  |none=>simp
  |some n=>rw [zV,kK];rfl
 cases b with
 |none=>
  have e:EM lt (X++(none:Option Int).toList)=EM lt X:=by simp
  rw [e]at h⊢;exact hadd _ rfl
 |some o=>
  have hne:∃x∈X++[o],(∀y∈X++[o],lt y x=false)∧EM lt (X++[o])=⟨[],x,true⟩:=by
   cases hx:X++[o]with
   |nil=>simp at hx
   |cons z l=>exact Jp lt hlt hirr hasy z l
  obtain ⟨x,h1,h2,h3⟩:=hne;rw [zV]at h⊢;rw [h3]at h⊢;unfold Fv at h⊢;simp only [Option.isSome_some,yK,xU,wS,zZ]at h⊢;cases hxo:lt x o with
  |false=>
   rw [hxo]at h;simp only [xx,if_true]at h⊢;have hox:=h2 o (by simp)
   have exo:=htot x o hxo hox;subst exo;cases a with
   |none=>simp at h
   |some n=>
    simp only [Option.isSome_some,yK,xU,yP,wB]at h;rw [zV,Wj lt hlt hirr hasy htot (x:=n) (by simp) fun y hy=>?_]
    · rfl
    · rcases u7.1 hy with hy|hy
      · exact hlt n x y h (h2 y (by simp [hy]))
      · rw [tY.1 hy];exact hirr n
  |true=>
   simp only [wS,vF,if_false];have hxX:x∈X:=by
    rcases u7.1 h1 with h9|h9
    · exact h9
    · rw [tY.1 h9,hirr]at hxo;cases hxo
   have e:(⟨[],x,true⟩:CO)=EM lt X:=(Wj lt hlt hirr hasy htot hxX fun y hy=>h2 y (by simp [hy])).symm;have:=hadd _ e
   simpa using this
theorem NJ(q:QM)(a b:List AQ):Co q (a++b)=Co q a++Co q b:=uI
theorem WA(q:QM)(o:Option AQ):Co q o.toList=(o.map fun r=>Be r q.bq).toList:=by cases o<;>rfl
theorem Y3(q:QM)(o:Option AQ):mQ q o=(o.map fun r=>Be r q.bq).getD 0:=by cases o<;>rfl
theorem ZR(q:QM)(o:Option AQ):o.isSome=(o.map fun r=>Be r q.bq).isSome:=by cases o<;>rfl
theorem lc(o:Option Int):JR o.toList=o.getD 0:=by
 cases o with
 |none=>rfl
 |some x=>show x+0=x;omega
theorem Vp{q:QM}(hq:BP q){rs:List AQ}{c:Chg}(hs:BK rs)(hf:Fa rs c)(h7:q.kd≠7)(ht:Dr q c=true)(h:(Bq q c (Dh rs q)).2=true):(Bq q c (Dh rs q)).1=Dh (EG rs c) q:=by
 obtain ⟨A,B,e1,e2⟩:=O3 hf;have f1:rs.filter (inQ q)=A.filter (inQ q)++(bfQ q c).toList++B.filter (inQ q):=by
  conv=>lhs;rw [e1]
  rw [ul,ul,Qg]
 have f2:(EG rs c).filter (inQ q)=A.filter (inQ q)++(afQ q c).toList++B.filter (inQ q):=by
  rw [e2,ul,ul,Qk]
 have p1:=Gf hq rs;have p2:=Gf hq (EG rs c)
 rw [f1]at p1;rw [f2]at p2;have hk:=hq.2.2.2
 have l1:=p1.length_eq;have l2:=p2.length_eq
 simp only [tJ]at l1 l2;have m1:(Co q (Ca rs q)).Perm ((Co q (A.filter (inQ q))++Co q (B.filter (inQ q)))++((bfQ q c).map fun r=>Be r q.bq).toList):=by
  rw [←WA,←NJ,←NJ];refine (p1.map _).trans (List.Perm.map _ ?_);simp only [tN];exact wP _ ui
 have m2:(Co q (Ca (EG rs c) q)).Perm ((Co q (A.filter (inQ q))++Co q (B.filter (inQ q)))++((afQ q c).map fun r=>Be r q.bq).toList):=by
  rw [←WA,←NJ,←NJ];refine (p2.map _).trans (List.Perm.map _ ?_);simp only [tN];exact wP _ ui
 have hx:∀lt:Int→Int→Bool,(∀a b c,lt b a=false→lt c b=false→lt c a=false)→(∀a,lt a a=false)→(∀a b,lt a b=true→lt b a=false)→(∀a b,lt a b=false→lt b a=false→a=b)→(Fv lt (bfQ q c).isSome (afQ q c).isSome (mQ q (bfQ q c)) (mQ q (afQ q c)) (EM lt (Co q (Ca rs q)))).2=true→(Fv lt (bfQ q c).isSome (afQ q c).isSome (mQ q (bfQ q c)) (mQ q (afQ q c)) (EM lt (Co q (Ca rs q)))).1=EM lt (Co q (Ca (EG rs c) q)):=fun lt a1 a2 a3 a4 h9=>by
  rw [NR lt a1 a2 a3 a4 (fun y=>m1.mem_iff),Y3,Y3,ZR,ZR]at h9⊢;rw [NR lt a1 a2 a3 a4 (fun y=>m2.mem_iff)];exact eQ lt a1 a2 a3 a4 _ _ _ h9
 unfold Bq Dh FI at h⊢;unfold Dr at ht;rcases (by omega:(q.kd=1∨q.kd=2)∨q.kd=3∨q.kd=4∨q.kd=5∨q.kd=6)with h8|h8|h8|h8|h8
 · have g3:¬q.kd=3:=by omega
   have g4:¬q.kd=4:=by omega
   have g5:¬q.kd=5:=by omega
   have g6:¬q.kd=6:=by omega
   simp only [if_pos h8,g3,g4,g5,g6,h7,if_false,QP hq hs hf]
 · have g2:¬(q.kd=1∨q.kd=2):=by omega
   simp only [if_neg g2,if_pos h8]at ht⊢;unfold W9 at ht;cases hb:bfQ q c<;>cases ha:afQ q c<;>rw [hb,ha]at ht<;>rw [hb]at l1<;>rw [ha]at l2<;>simp at ht l1 l2⊢<;>omega
 · have g2:¬(q.kd=1∨q.kd=2):=by omega
   have g3:¬q.kd=3:=by omega
   simp only [if_neg g2,g3,if_pos h8,if_false];have s1:=LM m1
   have s2:=LM m2;rw [VC,lc,←Y3]at s1 s2;have g:∀l,Ka l=JR l:=fun l=>by unfold Ka;rw [Le];omega
   simp only [g];congr 1;omega
 · have g2:¬(q.kd=1∨q.kd=2):=by omega
   have g3:¬q.kd=3:=by omega
   have g4:¬q.kd=4:=by omega
   simp only [if_neg g2,g3,g4,if_pos h8,if_false]at h⊢;exact hx _ (fun a b c h1 h2=>by simp only [decide_eq_false_iff_not]at*;omega) (fun a=>by simp) (fun a b h=>by simp only [decide_eq_true_eq,decide_eq_false_iff_not]at*;omega) (fun a b h1 h2=>by simp only [decide_eq_false_iff_not]at*;omega) h
 · have g2:¬(q.kd=1∨q.kd=2):=by omega
   have g3:¬q.kd=3:=by omega
   have g4:¬q.kd=4:=by omega
   have g5:¬q.kd=5:=by omega
   simp only [if_neg g2,g3,g4,g5,if_pos h8,if_false]at h⊢;exact hx _ (fun a b c h1 h2=>by simp only [decide_eq_false_iff_not]at*;omega) (fun a=>by simp) (fun a b h=>by simp only [decide_eq_true_eq,decide_eq_false_iff_not]at*;omega) (fun a b h1 h2=>by simp only [decide_eq_false_iff_not]at*;omega) h
theorem FM{q:QM}{rs:List AQ}(hs:BK rs)(k:Int)(x:AQ):DV q (I9 rs q.ot) k=some x↔x∈rs∧x.is q.ot k:=by
 have hu:∀a∈rs,∀b∈rs,a.is q.ot k→b.is q.ot k→a=b:=fun a ha b hb h1 h2=>by
  have e1:=Jn hs ha h1;have e2:=Jn hs hb h2
  rw [e1]at e2;injection e2
 have hin:∀y,y∈I9 rs q.ot∧decide (y.t=q.ot∧y.k=k)=true↔y∈rs∧y.is q.ot k:=fun y=>by
  unfold I9 inT AQ.is;rw [vU,decide_eq_true_eq,decide_eq_true_eq];constructor
  · rintro ⟨⟨a,_⟩,b⟩;exact ⟨a,b⟩
  · rintro ⟨a,b⟩;exact ⟨⟨a,b.1⟩,b⟩
 unfold DV;constructor
 · intro h
   exact (hin x).1 ⟨xY h,by simpa using zL (p:=fun x:AQ=>decide (x.t=q.ot∧x.k=k)) h⟩
 · intro h
   cases hf:(I9 rs q.ot).find? fun x=>decide (x.t=q.ot∧x.k=k)with
   |none=>
    have:=yZ.1 hf x ((hin x).2 h).1;exact absurd ((hin x).2 h).2 this
   |some y=>
    have h2:=(hin y).1 ⟨xY hf,by simpa using zL (p:=fun x:AQ=>decide (x.t=q.ot∧x.k=k)) hf⟩;rw [hu y h2.1 x h.1 h2.2 h.2]
def prQ(rs:List AQ)(q:QM)(r:AQ):Option BU:=(DV q (I9 rs q.ot) (Be r q.bq)).map fun x=>⟨r,x⟩
def qX(rs:List AQ)(q:QM):List BU:=(Ca rs q).filterMap (prQ rs q)
theorem WK(rs:List AQ)(q:QM):∀l:List AQ,IM q l (I9 rs q.ot)=DI (l.filterMap (prQ rs q))
 |[]=>rfl
 |r::l=>by
  have h:=WK rs q l;unfold IM at h⊢;rw [uh,h,yN];unfold IK prQ;cases DV q (I9 rs q.ot) (Be r q.bq)<;>rfl
theorem Xp(ps:List BU):Ef (DI ps)=ps:=by
 have hl:(DI ps).length=2*ps.length:=Gv ps;have hat:∀(ps:List BU) (k:Nat) (p:BU),ps[k]?=some p→(DI ps)[2*k]?=some p.l∧(DI ps)[2*k+1]?=some p.r:=by
  intro ps;induction ps with
  |nil=>intro k p h;cases h
  |cons a ps ih=>
   intro k p h;have e:DI (a::ps)=a.l::a.r::DI ps:=rfl
   rw [e];cases k with
   |zero=>injection h with h;subst h;exact ⟨rfl,rfl⟩
   |succ k=>
    have:=ih k p h;rw [show 2*(k+1)=2*k+2 by omega];exact this
 apply wC;intro k;have hlen:(Ef (DI ps)).length=ps.length:=by rw [Jf];omega
 rcases uG k ps.length with h|h
 · obtain ⟨h1,h2⟩:=hat ps k _ (tC h)
   unfold Ef;rw [tu,xP (by omega),vT,uX,uX,h1,h2,tC h];rfl
 · rw [uw (by omega),uw h]
theorem mV{α:Type}{a b:Option α}(h:∀x,a=some x↔b=some x):a=b:=Option.ext h
theorem Sm{rs:List AQ}{q:QM}{r:AQ}{p:BU}(h:prQ rs q r=some p):p.l=r∧DV q (I9 rs q.ot) (Be r q.bq)=some p.r:=by
 unfold prQ at h;cases hp:DV q (I9 rs q.ot) (Be r q.bq)with
 |none=>rw [hp]at h;cases h
 |some x=>rw [hp]at h;injection h with h;subst h;exact ⟨rfl,rfl⟩
theorem Qx{α β:Type}{f g:α→Option β}:∀{l:List α},(∀x∈l,f x=g x)→l.filterMap f=l.filterMap g
 |[],_=>rfl
 |x::l,h=>by rw [yN,yN,h x (by simp),Qx fun y hy=>h y (by simp [hy])]
theorem Lu{α β γ:Type}(f:α→Option β)(g:β→Option γ)(h:α→Option γ)(l:List α)(e:∀x∈l,(f x).bind g=h x):(l.filterMap f).filterMap g=l.filterMap h:=by
 rw [yQ];exact Qx e
theorem kH(pd:BU→Bool)(A B:List BU)(y:BU)(hA:∀x∈A,pd x=false)(hB:∀x∈B,pd x=true):NK pd (A++B) y=A++[y]++B:=by
 have e:((A++B).findIdx? pd).getD (A++B).length=A.length:=by
  rw [List.findIdx?_append,wL.2 hA];cases B with
  |nil=>simp
  |cons b B=>rw [List.findIdx?_cons,hB b (by simp)];simp
 unfold NK;rw [e];simp
theorem Vo{q:QM}(hq:BP q){rs:List AQ}{c:Chg}(hs:BK rs)(hf:Fa rs c)(h7:q.kd=7)(ht:Dr q c=true)(h:(Bq q c (Dh rs q)).2=true):(Bq q c (Dh rs q)).1=Dh (EG rs c) q:=by
 have hs2:=Ip hs hf;have hev:∀rs,Dh rs q=⟨DI (qX rs q),0,false⟩:=fun rs=>by
  unfold Dh FI;simp only [show¬q.kd=3 by omega,show¬q.kd=4 by omega,show¬q.kd=5 by omega,show¬q.kd=6 by omega,h7,if_true,if_false];rw [WK];rfl
 have hpt:∀r,Bq q c r=Cw q c r:=fun r=>by
  unfold Bq;simp only [show¬(q.kd=1∨q.kd=2) by omega,show¬q.kd=3 by omega,show¬q.kd=4 by omega,show¬q.kd=5 by omega,show¬q.kd=6 by omega,if_false]
 have htq:Uu q c=true∨c.t=q.ot:=by
  unfold Dr at ht;simp only [show¬(q.kd=1∨q.kd=2) by omega,show¬q.kd=3 by omega,show¬q.kd=4 by omega,show¬(q.kd=5∨q.kd=6) by omega,if_false,wY,decide_eq_true_eq]at ht;exact ht
 rw [hpt,hev]at h⊢;rw [hev];unfold Cw at h⊢;split
 · rename_i h9;rw [if_pos h9]at h;cases h
 rename_i hto;rw [if_neg hto]at h;simp only [Xp]at h⊢;congr 2;have hsame:c.t≠q.tb→Ca (EG rs c) q=Ca rs q:=fun hne=>by
  refine (Pv hq hs2 (Pw hq hs) (fun x=>?_) (Ea hs _ _ _ _)).symm;rw [Mt hq,FX hs hf];constructor
  · rintro ⟨a,b⟩
    exact ⟨.inl ⟨a,fun h9=>hne (h9.1.symm.trans (of_decide_eq_true b).1)⟩,b⟩
  · rintro ⟨⟨a,_⟩|⟨a,rfl⟩,b⟩
    · exact ⟨a,b⟩
    · exact absurd (of_decide_eq_true b).1 hne
 unfold jnT qX at h⊢;by_cases hot:c.t=q.ot
 · rw [if_pos hot]at h⊢
   rw [hsame (by omega)];have hpart:∀k,DV q (I9 (EG rs c) q.ot) k=if k=c.k then(if c.has then some ⟨c.t,c.k,c.n⟩else none)else DV q (I9 rs q.ot) k:=fun k=>by
    apply mV;intro x;rw [FM hs2,FX hs hf];unfold AQ.is;split
    · rename_i hk
      split
      · rename_i hh
        rw [Option.some_inj];constructor
        · rintro ⟨⟨_,a⟩|⟨_,rfl⟩,b,d⟩
          · exact absurd ⟨b.trans hot.symm,d.trans hk⟩ a
          · rfl
        · rintro rfl;exact ⟨.inr ⟨hh,rfl⟩,hot,hk.symm⟩
      · rename_i hh
        constructor
        · rintro ⟨⟨_,a⟩|⟨a,_⟩,b,d⟩
          · exact absurd ⟨b.trans hot.symm,d.trans hk⟩ a
          · exact absurd a hh
        · intro h9;cases h9
    · rename_i hk
      rw [FM hs];unfold AQ.is;constructor
      · rintro ⟨⟨a,_⟩|⟨_,rfl⟩,b⟩
        · exact ⟨a,b⟩
        · exact absurd b.2.symm hk
      · rintro ⟨a,b,d⟩
        exact ⟨.inl ⟨a,fun h9=>hk (d.symm.trans h9.2)⟩,b,d⟩
   have hold:c.had=true→∃x,DV q (I9 rs q.ot) c.k=some x:=fun hh=>by
    obtain ⟨r,hr,hi,_⟩:=J3 (hf.1.trans hh);exact ⟨r,(FM hs c.k r).2 ⟨hr,by rw [←hot];exact hi⟩⟩
   have hkey:∀{k x},DV q (I9 rs q.ot) k=some x→x.k=k:=fun h9=>((FM hs _ _).1 h9).2.2;split
   · rename_i hh
     rw [if_pos hh]at h;obtain ⟨x0,hx0⟩:=hold h;rw [←List.filterMap_eq_map];refine Lu _ _ _ _ fun r _=>?_;unfold prQ;rw [hpart,hh];by_cases hk:Be r q.bq=c.k
     · rw [hk,hx0,if_pos rfl]
       simp only [vT,ut,Function.comp_apply,GX,hkey hx0,decide_true,if_true]
     · rw [if_neg hk]
       cases hp:DV q (I9 rs q.ot) (Be r q.bq)with
       |none=>rfl
       |some x=>simp only [vT,ut,Function.comp_apply,GX,hkey hp,hk,decide_false,vF,if_false]
   · rename_i hh
     rw [if_neg hh]at h;rw [←yR];refine Lu _ _ _ _ fun r _=>?_;unfold prQ;rw [hpart,if_neg hh];by_cases hk:Be r q.bq=c.k
     · rw [hk,if_pos rfl]
       obtain ⟨x0,hx0⟩:=hold h;rw [hx0];simp [Option.guard,GX,hkey hx0]
     · rw [if_neg hk]
       cases hp:DV q (I9 rs q.ot) (Be r q.bq)with
       |none=>rfl
       |some x=>simp [Option.guard,GX,hkey hp,hk]
 · rw [if_neg hot]at h⊢
   have hg:∀r,prQ (EG rs c) q r=prQ rs q r:=fun r=>by unfold prQ;rw [Z7 hf hot]
   have hgf:prQ (EG rs c) q=prQ rs q:=funext hg;rw [hgf];have htb:c.t=q.tb:=by
    rcases htq with h9|h9
    · unfold Uu at h9
      rw [wY]at h9;rcases h9 with h9|h9
      · obtain ⟨y,hy⟩:=xL.1 h9
        obtain ⟨e,_,hi⟩:=NG hy;rw [e]at hi;exact (of_decide_eq_true hi).1
      · obtain ⟨y,hy⟩:=xL.1 h9
        obtain ⟨e,_,hi⟩:=NG hy;rw [e]at hi;exact (of_decide_eq_true hi).1
    · exact absurd h9 hot
   have hrest:((Ca rs q).filterMap (prQ rs q)).filter (fun p=>!OO c.k p)=((Ca rs q).filter fun x=>!Iz c x).filterMap (prQ rs q):=by
    rw [←yR,←yR,yQ,yQ];refine Qx fun r hr=>?_;have hrt:r.t=c.t:=((of_decide_eq_true ((Mt hq rs r).1 hr).2).1).trans htb.symm
    by_cases hk:r.k=c.k
    · cases hp:prQ rs q r with
      |none=>simp [Option.guard,Iz,hrt,hk]
      |some p=>simp [Option.guard,Iz,hrt,hk,OO,(Sm hp).1]
    · cases hp:prQ rs q r with
      |none=>simp [Option.guard,Iz,hrt,hk,hp]
      |some p=>simp [Option.guard,Iz,hrt,hk,OO,(Sm hp).1,hp]
   rw [hrest]at h⊢;have hscan:=QP hq hs hf
   rw [←hscan];unfold Dm;cases ha:afQ q c with
   |none=>rfl
   |some y=>
    rw [ha]at h;simp only [ha]at h⊢;have hm:mQ q (some y)=Be y q.bq:=rfl
    rw [hm]at h⊢;have hL:((Ca rs q).filter fun x=>!Iz c x).Pairwise (leV q.cl.toNat):=(Ea hs _ _ _ _).sublist zN
    obtain ⟨A,B,e1,e2,hA,hB⟩:=TV hq hL y;rw [e2];cases hfi:((Ca rs q).filterMap (prQ rs q)).findIdx? (GX (Be y q.bq))with
    |none=>
     have hi:GL (GX (Be y q.bq)) ((Ca rs q).filterMap (prQ rs q))=-1:=by unfold GL;rw [hfi];rfl
     rw [hi,if_pos (by decide)]at h⊢;rw [u6,decide_eq_true_eq]at h;obtain ⟨b,hb⟩:=xL.1 h.1;obtain ⟨eb,hbh,hbi⟩:=NG hb;have h9:=h.2
     rw [hb]at h9;have hbm:b∈Ca rs q:=by
      refine (Mt hq rs b).2 ⟨?_,hbi⟩;obtain ⟨r,hr,hi,_,he⟩:=J3 (hf.1.trans hbh);have hv:=hf.2 (hf.1.trans hbh)
      rw [he]at hv;have:b=r:=by
       rw [eb];obtain ⟨t,k,v⟩:=r;obtain ⟨h5,h6⟩:=hi;simp only at h5 h6 hv;subst h5 h6 hv;rfl
      rw [this];exact hr
     have hgb:prQ rs q b=none:=by
      cases hp:prQ rs q b with
      |none=>rfl
      |some p=>
       have h10:=wL.1 hfi p (xH.2 ⟨b,hbm,hp⟩);have h11:=(FM hs _ _).1 (Sm hp).2
       unfold GX at h10;rw [decide_eq_false_iff_not]at h10;exact absurd (h11.2.2.trans h9) h10
     have hgy:prQ rs q y=none:=by
      unfold prQ at hgb⊢;rw [show Be y q.bq=Be b q.bq from h9.symm];cases hp:DV q (I9 rs q.ot) (Be b q.bq)with
      |none=>rfl
      |some x=>rw [hp]at hgb;cases hgb
     rw [e1,xX,xX,xX];simp [hgy]
    |some i=>
     obtain ⟨h1,h2,h3⟩:=vD.1 hfi;have hi:GL (GX (Be y q.bq)) ((Ca rs q).filterMap (prQ rs q))=(i:Int):=by unfold GL;rw [hfi];rfl
     rw [hi,if_neg (by omega)]at h⊢;rw [vY,uX,tC h1,yK];obtain ⟨r,hr,hp⟩:=xH.1 (zu h1);generalize ((Ca rs q).filterMap (prQ rs q))[i]=p at h2 hp;have h4:=(FM hs _ _).1 (Sm hp).2
     unfold GX at h2;rw [decide_eq_true_eq]at h2;have hgy:prQ rs q y=some ⟨y,p.r⟩:=by
      unfold prQ;rw [(FM hs (Be y q.bq) p.r).2 ⟨h4.1,h4.2.1,h2⟩];rfl
     rw [e1,xX,kH]
     · simp [hgy]
     · intro x hx
       obtain ⟨r9,hr9,hp9⟩:=xH.1 hx;rw [(Sm hp9).1];exact hA r9 hr9
     · intro x hx
       obtain ⟨r9,hr9,hp9⟩:=xH.1 hx;rw [(Sm hp9).1];exact hB r9 hr9
theorem Xk{q:QM}(hq:BP q){rs:List AQ}{c:Chg}(hs:BK rs)(hf:Fa rs c)(ht:Dr q c=true)(h:(Bq q c (Dh rs q)).2=true):(Bq q c (Dh rs q)).1=Dh (EG rs c) q:=by
 by_cases h7:q.kd=7
 · exact Vo hq hs hf h7 ht h
 · exact Vp hq hs hf h7 ht h
def Gg(q:QM)(base:Int):Nat→CO×Int→List Bt→Option (CO×Int)
 |_,st,[]=>some st
 |i,st,x::l=>if(DC q st.1 x.cs).2.2=true∧base≤9223372036854775806 -(i:Int)∧x.p=base+1+(i:Int)then Gg q base (i+1) ((DC q st.1 x.cs).1,if(DC q st.1 x.cs).2.1 then x.p else st.2) l else none
theorem Q6(q:QM)(base:Int):∀(a:List Bt) (i:Nat) (st:CO×Int) (b:List Bt),Gg q base i st (a++b)=(Gg q base i st a).bind fun st'=>Gg q base (i+a.length) st' b
 |[],i,st,b=>rfl
 |x::a,i,st,b=>by
  show(if(DC q st.1 x.cs).2.2=true∧base≤9223372036854775806 -(i:Int)∧x.p=base+1+(i:Int)then Gg q base (i+1) _ (a++b)else none)=(if(DC q st.1 x.cs).2.2=true∧base≤9223372036854775806 -(i:Int)∧x.p=base+1+(i:Int)then Gg q base (i+1) _ a else none).bind _;split
  · rw [Q6 q base a (i+1) _ b,tV,show i+(a.length+1)=i+1+a.length by omega]
  · rfl
theorem Ig{q:QM}{base:Int}{st sk:CO×Int}{l:List Bt}{k:Nat}{x:Bt}(h:Gg q base 0 st (l.take k)=some sk)(hx:l[k]?=some x):Gg q base 0 st (l.take (k+1))=if(DC q sk.1 x.cs).2.2=true∧base≤9223372036854775806 -(k:Int)∧x.p=base+1+(k:Int)then some ((DC q sk.1 x.cs).1,if(DC q sk.1 x.cs).2.1 then x.p else sk.2)else none:=by
 have hk:=(tF.1 hx).1;rw [Bp hx,Q6,h,tK,wG (by omega),uJ];rfl
theorem LQ{q:QM}{base:Int}{st:CO×Int}{l:List Bt}{k:Nat}(h:Gg q base 0 st (l.take k)=none):Gg q base 0 st l=none:=by
 rw [←uW k l,Q6,h];rfl
def Ch(q:QM)(r:CO)(base:Int)(l:List Bt):CO×Int×Bool:=match Gg q base 0 (r,base) l with
 |some st=>(st.1,st.2,true)
 |none=>(CO.none,0,false)
theorem PH{q:QM}{r:CO}{cs:List Chg}(h:(DC q r cs).2.2=true):IA q r cs=some (DC q r cs).1∧(DC q r cs).2.1=cs.any (Ei q):=by
 unfold DC at*;split at h
 · rename_i h9;rw [h9];exact ⟨rfl,rfl⟩
 · cases h
theorem ZH{q:QM}{base:Int}:∀(l:List Bt) (i:Nat) (st st':CO×Int) (B:Int) (n:Nat),Gg q base i st l=some st'→(∀x∈l,x.cs.length≤1000)→(-B≤st.1.val∧st.1.val≤B)→0≤B→st.1.rows.length≤n→(-(B+2000000000000*(l.length:Int))≤st'.1.val∧st'.1.val≤B+2000000000000*(l.length:Int))∧st'.1.rows.length≤n+2000*l.length
 |[],i,st,st',B,n,h,hl,h1,h2,h3=>by
  unfold Gg at h;injection h with h
  subst h;simp only [vE];exact ⟨⟨by omega,by omega⟩,h3⟩
 |x::l,i,st,st',B,n,h,hl,h1,h2,h3=>by
  unfold Gg at h;split at h
  · rename_i h9
    have h4:=U8 _ _ _ B n (PH h9.1).1 h1 h2 h3;have h5:=hl x (by simp)
    have h6:=ZH l (i+1) _ st' (B+2000000000000) (n+2000) h (fun y hy=>hl y (by simp [hy])) ⟨by simp only;omega,by simp only;omega⟩ (by omega) (by simp only;omega);rw [tV];obtain ⟨⟨h7,h8⟩,h10⟩:=h6;refine ⟨⟨?_,?_⟩,by omega⟩<;>(push_cast;omega)
  · cases h
set_option maxHeartbeats 1000000 in
theorem VW(q:QM)(hq:BP q)(base:Int)(hb:-9223372036854775808≤base∧base≤9223372036854775807){l:List Bt}{lv:Value}{ML:List AV}(hL:Dv ML lv l)(hll:l.length≤1000)(hcs:∀x∈l,x.cs.length≤1000){r:CO}{rv:Value}{A:List AV}(hr:E8 A rv r.rows)(hn:r.rows.length≤1000000)(hv:-1000000000000000000≤r.val∧r.val≤1000000000000000000):CK Tryz.prog 36 #[.agg #[I4 q.kd,I4 q.tb,I4 q.cl,I4 q.lo,I4 q.hi,I4 q.bq,I4 q.ot],.agg #[rv,I4 r.val,.bool r.fnd],I4 base,lv] [A,ML] (fun w H'=>∃rv' s',w= .tuple #[.agg #[rv',I4 (Ch q r base l).1.val,.bool (Ch q r base l).1.fnd],I4 (Ch q r base l).2.1,.bool (Ch q r base l).2.2]∧BX 5 113 rv' (Ch q r base l).1.rows.length (Ac (Ch q r base l).1.rows) s'∧H'=[s',A,ML]):=by
 have hml:=mL;obtain ⟨pv,cv,rfl,_⟩:=id hr;obtain ⟨pl,capl,rfl,⟨hlm,hlc⟩,hgl⟩:=id hL;refine Se func36 ntmps36 [0,1,2,3] ?_;intro u R;refine Zq<|Zg<|Ze (Bx #[I4 q.kd,I4 q.tb,I4 q.cl,I4 q.lo,I4 q.hi,I4 q.bq,I4 q.ot]) ?_;rintro _ _ ⟨bq,rfl,rfl⟩;refine Ze (Bx #[.slice pv r.rows.length cv,I4 r.val,.bool r.fnd]) ?_;rintro _ _ ⟨br,rfl,rfl⟩;refine Ze (Al zeroValue51 #[_,_,_]) ?_;rintro _ _ ⟨bo,rfl,rfl⟩;refine Za Y<|Za Y<|Z0<|Zx<|Zq<|Zg<|Zm Y<|Za Y<|Z0<|Zx<|Zq<|Zg<|Zh 0 underlying51 rfl rfl sizeOf45 Y<|Zl isAgg45 Y ?_;refine Zc [_] Y call94 Y rfl (Ha hr (by omega)) ?_;rintro _ _ ⟨_,⟨s1,h1,rfl⟩,rfl⟩;obtain ⟨g1,c1,rfl⟩:=h1.form;refine Zh 0 underlying51 rfl rfl sizeOf45 Y<|Xe (Zs sizeOf45 Y Y rfl (hi:=by first|omega|decide|(simp;done))) ?_;refine Z0<|Zx<|Zq<|Zq<|Zg<|Zm Y<|Zv (AR underlying28 Y)<|Zm Y<|Z0<|Zn [2,4,5,8,11,22,23,24] ?_;refine Zx<|AP<|Zb [11,24,2,4,5,8,22,23] ?_;refine Ay (e0:=[(11,_),(24,_)]) (fun m e H=>∃(k:Nat) (rk:CO×Int) (gk:Option Addr) (ck:Nat) (sk:List AV),m=l.length -k∧(k≤l.length∧Gg q base 0 (r,base) (l.take k)=some rk∧BX 5 113 (.slice gk rk.1.rows.length ck) rk.1.rows.length (Ac rk.1.rows) sk)∧e=[(11,I4 rk.2),(24,I4 (k:Int))]∧H=[[(br,.cells #[.slice gk rk.1.rows.length ck,I4 rk.1.val,.bool rk.1.fnd] 51 (0,0))],sk]) (by exact ⟨0,(r,base),g1,c1,s1,rfl,⟨tX _,by rw [um];rfl,h1⟩,rfl,rfl⟩) Wp ?_;rintro _ _ _ ⟨k,rk,gk,ck,sk,rfl,⟨hk,hrk,hsk⟩,rfl,rfl⟩;obtain ⟨hkv,hkn⟩:=ZH (l.take k) 0 (r,base) rk 1000000000000000000 1000000 hrk (fun x hx=>hcs x (vB hx)) hv (by omega) hn;have hkl:(l.take k).length=k:=by rw [tK];omega
 rw [hkl]at hkv hkn;have hUk:=Dw hsk (by omega)
 refine Zq<|Zg<|Zv (Aq Y Y)<|Z0<|Zx<|Zq ?_;refine Ao Y (fun hlt=>?_) (fun hlt=>?_)
 ·
  obtain ⟨x,hx⟩:∃x,l[k]?=some x:=⟨_,tC hlt⟩;have hxc:=hcs x (tT hx)
  obtain ⟨hOx,g2,off2,cur2,T2,zz2,rfl,hm2,hsz2,hex2⟩:=hgl k x hx;refine AB<|Zx<|Zq<|AP<|Zq<|Zg<|Zm Y ?_;refine BM (AZ underlying28 sizeOf73 Y Y (by first|omega|decide|(simp;done))) ?_;refine Cf (cs:=[(g2,.cells cur2 T2 zz2)]) (by simp [hm2]) (Ab (cs:=#[I4 x.p,.slice x.q x.cs.length x.cap]) isAgg73 sizeOf73 Y (by omega) hex2) rfl rfl ?_;refine Ze (Al zeroValue73 #[_,_]) ?_;rintro _ _ ⟨bx,rfl,rfl⟩;refine Za Y<|Xe (Xw sizeOf73 #[I4 x.p,.slice x.q x.cs.length x.cap]) ?_;refine Z0<|Zx<|Zq<|Zg<|Zo Wh (Pa #[_,_,_,_,_,_,_] isAgg30 sizeOf30 Y) ?_;refine Zo Wh (Pa #[_,_,_] isAgg51 sizeOf51 Y) ?_;refine Zo Wh (Pa #[_,_] isAgg73 sizeOf73 Y) ?_;refine Zc [_,_,_] Y call95 Y rfl (Yj q hq x.p x.q x.cap x.cs hOx hxc hUk (by omega) (by omega)) ?_;rintro _ _ ⟨_,⟨rv3,s3,rfl,h3,rfl⟩,rfl⟩;obtain ⟨g3,c3,rfl⟩:=h3.form;refine Zm Y<|Zd Y rfl<|Zd Y rfl<|Zd Y rfl<|Ze (Al zeroValue51 #[_,_,_]) ?_;rintro _ _ ⟨bn,rfl,rfl⟩;refine Xe (Xw sizeOf51 #[.slice g3 (DC q rk.1 x.cs).1.rows.length c3,I4 (DC q rk.1 x.cs).1.val,.bool (DC q rk.1 x.cs).1.fnd]) ?_;refine Za Y<|Za Y<|Z0<|Zn [2,4,5,8,11,12,13,14,15,16,22,23,24] ?_;refine Zx<|Zq<|Zq<|Zg<|Zm Y<|Zv (CV Y)<|Zm Y ?_;refine Aj (t:=39) Y rfl (fun h1g=>?_) (fun h1g=>?_)
  ·
   have h1k:(DC q rk.1 x.cs).2.2=false:=by simpa using h1g
   refine A7 Y rfl<|A7 Y rfl<|A7 Y rfl<|A7 Y rfl<|Zv (AL Y Y)<|Zm Y<|A7 Y rfl<|A7 Y rfl<|A7 Y rfl<|A7 Y rfl<|A7 Y rfl<|A7 Y rfl<|A7 Y rfl<|Zv (AL Y Y)<|Z0<|Zn [2,4,5,8,11,13,14,15,22,23,24,53] ?_;refine Zx<|CB Y<|Zq<|Bd ?_;have e8:Ch q r base l=(CO.none,0,false):=by unfold Ch;rw [LQ (k:=k+1) (by rw [Ig hrk hx,if_neg (by(rw [h1k];rintro ⟨h,_⟩;cases h;done))])]
   refine Zg<|Zv (BH (vs:=[]) (cs:=#[_,_,_]) Y (AX (pl:=#[(0,1),(1,1),(2,1)]) zeroValue51 underlying51 (fun _=>by kernel_rfl) rfl)) ?_;refine Xe (Xw sizeOf51 _) ?_;refine Za Y<|Za Y<|Z0<|Zx<|A9<|Zt<|AY<|Zt<|Zt<|AY<|Zt ?_;refine Gi rfl results36 Y Wh (Ah isAgg51 sizeOf51 Wn (rfl)) Y Y (by exact ⟨.slice none 0 0,[],by rw [e8];rfl,by rw [e8];exact BV 5 _,rfl⟩)
  have h1k:(DC q rk.1 x.cs).2.2=true:=by simpa using h1g
  refine Zf Y Y<|Zf Y Y ?_
  (refine FN Y (Bg (m:=9223372036854775806) Y Y ?_ ?_) rfl rfl ?_;(focus (omega));(focus (omega)))
  refine Yg (Eu Y Y)<|Zv (AA Y Y)<|Zm Y ?_;refine Af (t:=45) Y rfl (fun h2g=>?_) (fun h2g=>?_)
  ·
   refine A7 Y rfl<|A7 Y rfl<|A7 Y rfl<|A7 Y rfl<|A7 Y rfl<|A7 Y rfl<|A7 Y rfl<|Zv (AL Y Y)<|Z0<|Zn [2,4,5,8,11,13,14,15,22,23,24,53] ?_;refine Zx<|CB Y<|Zq<|Bd ?_;have e8:Ch q r base l=(CO.none,0,false):=by unfold Ch;rw [LQ (k:=k+1) (by rw [Ig hrk hx,if_neg (by(rintro ⟨_,h8,h9⟩;omega))])]
   refine Zg<|Zv (BH (vs:=[]) (cs:=#[_,_,_]) Y (AX (pl:=#[(0,1),(1,1),(2,1)]) zeroValue51 underlying51 (fun _=>by kernel_rfl) rfl)) ?_;refine Xe (Xw sizeOf51 _) ?_;refine Za Y<|Za Y<|Z0<|Zx<|A9<|Zt<|AY<|Zt<|Zt<|AY<|Zt ?_;refine Gi rfl results36 Y Wh (Ah isAgg51 sizeOf51 Wn (rfl)) Y Y (by exact ⟨.slice none 0 0,[],by rw [e8];rfl,by rw [e8];exact BV 5 _,rfl⟩)
  refine Yf 0 underlying73 rfl rfl sizeOf3 Y<|Yl isAgg3 Y ?_;refine Zf Y Y ?_
  (refine FN Y (JI Y Y (IntWalk.i64_in _ ?_)) rfl rfl ?_;(focus (omega)))
  refine Zf Y Y ?_
  (refine FN Y (JI Y Y (IntWalk.i64_in _ ?_)) rfl rfl ?_;(focus (omega)))
  refine Yg (Hl Y Y)<|Zv (AA Y Y)<|Z0<|Zn [2,4,5,8,11,13,14,15,22,23,24,53] ?_;refine Zx ?_;refine Ao Y (fun h3g=>?_) (fun h3g=>?_)
  ·
   refine Zq<|Bd ?_;have e8:Ch q r base l=(CO.none,0,false):=by unfold Ch;rw [LQ (k:=k+1) (by rw [Ig hrk hx,if_neg (by(rintro ⟨_,h8,h9⟩;omega))])]
   refine Zg<|Zv (BH (vs:=[]) (cs:=#[_,_,_]) Y (AX (pl:=#[(0,1),(1,1),(2,1)]) zeroValue51 underlying51 (fun _=>by kernel_rfl) rfl)) ?_;refine Xe (Xw sizeOf51 _) ?_;refine Za Y<|Za Y<|Z0<|Zx<|A9<|Zt<|AY<|Zt<|Zt<|AY<|Zt ?_;refine Gi rfl results36 Y Wh (Ah isAgg51 sizeOf51 Wn (rfl)) Y Y (by exact ⟨.slice none 0 0,[],by rw [e8];rfl,by rw [e8];exact BV 5 _,rfl⟩)
  refine AB<|Zx<|Zq<|Zg<|Zo Wh (Pa #[_,_,_] isAgg51 sizeOf51 Y) ?_;refine Xe (Xw sizeOf51 _) ?_;refine Z0<|Zx<|Zq<|Zg<|Zm Y<|Z0<|Zx ?_;refine Ag Y (fun ht=>?_) (fun ht=>?_)
  ·
   refine Zg<|Zh 0 underlying73 rfl rfl sizeOf3 Y<|Zl isAgg3 Y ?_;refine Za Y<|Z0<|A8<|Zx<|Zg<|Ya (n:=1) Y Y<|Zm Y<|Z0<|Zn [11,24,2,4,5,8,22,23] ?_;refine Aa (e':=[(11,_),(24,_)]) (by exact ⟨k+1,((DC q rk.1 x.cs).1,x.p),g3,c3,s3,rfl,⟨by omega,by rw [Ig hrk hx,if_pos ⟨h1k,by omega,by omega⟩,ht];rfl,h3⟩,rfl,rfl⟩)
  refine AB<|A8<|Zx<|Zg<|Ya (n:=1) Y Y<|Zm Y<|Z0<|Zn [11,24,2,4,5,8,22,23] ?_;refine Aa (e':=[(11,_),(24,_)]) (by exact ⟨k+1,((DC q rk.1 x.cs).1,rk.2),g3,c3,s3,rfl,⟨by omega,by rw [Ig hrk hx,if_pos ⟨h1k,by omega,by omega⟩,ht];rfl,h3⟩,rfl,rfl⟩)
 have ek:k=l.length:=by omega
 subst ek;rw [uP]at hrk;have e8:Ch q r base l=(rk.1,rk.2,true):=by unfold Ch;rw [hrk]
 refine Ar<|Zt<|Zt<|AO<|Zx<|Zq<|Zg<|Zo Wh (Pa #[_,_,_] isAgg51 sizeOf51 Y) ?_;refine Zm Y<|Xe (Xw sizeOf51 _) ?_;refine Za Y<|Za Y<|Z0<|Zx<|A9 ?_;refine Gi rfl results36 Y Wh (Ah isAgg51 sizeOf51 Wn (rfl)) Y Y (by exact ⟨.slice gk _ ck,sk,by rw [e8];rfl,by rw [e8];exact hsk,rfl⟩)
theorem ag{q:QM}(hq:BP q){rs:List AQ}{c:Chg}(hs:BK rs)(hf:Fa rs c)(hok:c.ok)(h:(Cu q c (Dh rs q)).2=true):(Cu q c (Dh rs q)).1=Dh (EG rs c) q:=by
 unfold Cu at h⊢;cases ht:Ei q c with
 |false=>
  rw [if_neg (by decide)];unfold Ei at ht;rw [decide_eq_true hok,xU]at ht;exact (kP hq hf ht).symm
 |true=>
  rw [ht,if_pos rfl]at h;rw [if_pos rfl];unfold Ei at ht;rw [u6]at ht;split at h
  · rename_i h9
    rw [if_pos h9];exact Xk hq hs hf ht.2 h9
  · cases h
theorem SX{q:QM}(hq:BP q){rs:List AQ}{cs:List Chg}(hs:BK rs)(ha:ny cs)(hf:∀c∈cs,Fa rs c)(hok:∀c∈cs,c.ok):∀i,i≤cs.length→∀r,IA q (Dh rs q) (cs.take i)=some r→r=Dh (DD rs (cs.take i)) q
 |0,_,r,h=>by
  rw [um]at h⊢;injection h with h
  exact h.symm
 |i+1,hi,r,h=>by
  obtain ⟨c,hc⟩:∃c,cs[i]?=some c:=⟨_,tC (by omega)⟩;obtain ⟨h1,h2⟩:=Jo hs ha hf i (by omega);cases hr:IA q (Dh rs q) (cs.take i)with
  |none=>
   have:=Nv (cs:=cs.take (i+1)) (k:=i) (q:=q) (r:=Dh rs q) (by rw [xA,wG (by omega)];exact hr);rw [this]at h;cases h
  |some rk=>
   have e:=SX hq hs ha hf hok i (by omega) rk hr;rw [JZ hr hc,e]at h;split at h
   · rename_i h9
     injection h with h
     rw [←h,EA rs cs i c hc];exact ag hq h1 (h2 i c (tO _) hc) (hok c (tT hc)) h9
   · cases h
theorem gu{q:QM}(hq:BP q){rs:List AQ}{p rp:Int}{cs:List Chg}(hs:BK rs)(h:M5 rs p rp cs){r:CO}(hr:IA q (Dh rs q) cs=some r):r=Dh (DD rs cs) q:=by
 have:=SX hq hs (RH h.ok.ord) h.fit (fun c hc=>by obtain ⟨i,hi⟩:=uU hc;exact h.ok.all i c hi) cs.length (tO _) r (by rw [uP];exact hr);rwa [uP]at this
def Np(q:QM)(x:Bt):Bool:=x.cs.any (Ei q)
structure lF(q:QM)(l:List Bt)(base k:Nat)(s:Int):Prop where
 le:(base:Int)≤s∧s≤((base+k:Nat):Int)
 at_:s≠(base:Int)→∃(j:Nat) (x:Bt),(j:Int)+1=s∧l[j]?=some x∧Np q x=true
 no:∀(j:Nat) (x:Bt),s≤(j:Int)→j<base+k→l[j]?=some x→Np q x=false
theorem SV{q:QM}(hq:BP q){l:List Bt}(hl:DY l){base:Nat}(hb:base≤l.length):∀k,base+k≤l.length→∀st,Gg q (base:Int) 0 (Dh (Bb (l.take base)) q,(base:Int)) ((l.drop base).take k)=some st→st.1=Dh (Bb (l.take (base+k))) q∧lF q l base k st.2
 |0,_,st,h=>by
  rw [um]at h;injection h with h
  subst h;exact ⟨rfl,⟨by simp only;omega,fun h=>absurd rfl h,fun j x h1 h2=>by simp only at h1;omega⟩⟩
 |k+1,hk,st,h=>by
  obtain ⟨x,hx⟩:∃x,l[base+k]?=some x:=⟨_,tC (by omega)⟩;have hx2:(l.drop base)[k]?=some x:=by rw [uq];exact hx
  obtain ⟨ha,_⟩:=hl _ x hx;have hp:x.p=((base+k:Nat):Int)+1:=ha.pos
  cases hr:Gg q (base:Int) 0 (Dh (Bb (l.take base)) q,(base:Int)) ((l.drop base).take k)with
  |none=>
   have:=LQ (l:=(l.drop base).take (k+1)) (k:=k) (q:=q) (base:=(base:Int)) (st:=(Dh (Bb (l.take base)) q,(base:Int))) (by rw [xA,wG (by omega)];exact hr);rw [this]at h;cases h
  |some sk=>
   obtain ⟨e1,e2⟩:=SV hq hl hb k (by omega) sk hr;rw [Ig hr hx2]at h;split at h
   · rename_i h9
     injection h with h
     subst h;have hA:=PH h9.1
     have h1:=(hl.rows (base+k) (by omega)).1;rw [e1]at hA;refine ⟨?_,?_⟩
     · have:=gu hq h1 ha hA.1
       rw [show base+(k+1)=base+k+1 by omega,Bp hx,FK,←this,e1]
     · have hT:(DC q sk.1 x.cs).2.1=Np q x:=by rw [e1];exact hA.2
       simp only [hT];obtain ⟨⟨a1,a2⟩,a3,a4⟩:=e2;cases ht:Np q x with
       |true=>
        simp only [if_true];refine ⟨by omega,fun _=>⟨base+k,x,hp.symm,hx,ht⟩,fun j y h5 h6=>by omega⟩
       |false=>
        simp only [vF,if_false];refine ⟨by push_cast at a2⊢;omega,a3,fun j y h5 h6 h7=>?_⟩;rcases uG j (base+k)with h8|h8
        · exact a4 j y h5 h8 h7
        · obtain rfl:j=base+k:=by omega
          rw [hx]at h7;injection h7 with h7
          rw [←h7];exact ht
   · cases h
theorem Vn{q:QM}(hk:1≤q.kd∧q.kd≤4)(c:Chg)(r:CO):(Cu q c r).2=true:=by
 have:(Bq q c r).2=true:=by
  unfold Bq;split
  · rfl
  · split
    · rfl
    · rw [if_pos (by omega)]
 unfold Cu;rw [if_pos this];split<;>rfl
theorem Q7{q:QM}(hk:1≤q.kd∧q.kd≤4):∀(cs:List Chg) (r:CO),∃r',IA q r cs=some r'
 |[],r=>⟨r,rfl⟩
 |c::cs,r=>by
  unfold IA;rw [if_pos (Vn hk c r)];exact Q7 hk cs _
theorem Q5{q:QM}(hk:1≤q.kd∧q.kd≤4){base:Int}:∀(l:List Bt) (i:Nat) (st:CO×Int),(∀(k:Nat) (x:Bt),l[k]?=some x→base≤9223372036854775806 -((i+k:Nat):Int)∧x.p=base+1+((i+k:Nat):Int))→∃st',Gg q base i st l=some st'
 |[],i,st,_=>⟨st,rfl⟩
 |x::l,i,st,h=>by
  have h0:=h 0 x rfl;rw [wX]at h0;obtain ⟨r',hr⟩:=Q7 hk x.cs st.1;unfold Gg;rw [if_pos ⟨by unfold DC;rw [hr],h0.1,h0.2⟩];exact Q5 hk l (i+1) _ fun k y hy=>by
   have:=h (k+1) y hy;rwa [show i+(k+1)=i+1+k by omega]at this
theorem oo(q:QM)(hq:BP q):Au Tryz.prog 122 #[.agg #[I4 q.kd,I4 q.tb,I4 q.cl,I4 q.lo,I4 q.hi,I4 q.bq,I4 q.ot]] [] (.tuple #[I4 q.tb,I4 q.cl,I4 q.lo,I4 q.hi]):=by
 refine Se func122 ntmps122 [0] ?_;intro u R;refine Zq<|Zg<|Ze (Bx #[I4 q.kd,I4 q.tb,I4 q.cl,I4 q.lo,I4 q.hi,I4 q.bq,I4 q.ot]) ?_;rintro _ _ ⟨bq,rfl,rfl⟩;refine Za Y<|Za Y<|Za Y<|Za Y<|Z0<|Zx<|Zq<|Zq<|Zg<|Zo Wh (Pa #[_,_,_,_,_,_,_] isAgg30 sizeOf30 Y) ?_;refine Xr [_] Y call49 Y rfl (LW q) ?_;refine Zv (CF Y)<|Z0<|Zx ?_;refine Ag Y (fun hb1=>?_) (fun hb1=>?_)
 ·
  exfalso;simp [hq]at hb1
 refine AB<|Zx<|Zq<|BJ (n:=12) (0::1::0::4::0::16::0::64::3::271::831::2047::[]) 0 (by kernel_rfl) (by kernel_rfl) rfl ?_;refine Zi 1 0 rfl (AU (off:=1) underlying30 rfl rfl sizeOf3 Y)<|Zj 3 1 rfl isAgg3 Y ?_;refine Zi 7 2 rfl (AU (off:=2) underlying30 rfl rfl sizeOf3 Y)<|Zj 15 3 rfl isAgg3 Y ?_;refine Zi 31 4 rfl (AU (off:=3) underlying30 rfl rfl sizeOf3 Y)<|Zj 63 5 rfl isAgg3 Y ?_;refine Zi 127 6 rfl (AU (off:=4) underlying30 rfl rfl sizeOf3 Y)<|Zj 255 7 rfl isAgg3 Y ?_;refine Zi 511 8 rfl (Aw Y)<|Zi 1023 9 rfl (Aw Y)<|Zi 2047 10 rfl (Aw Y)<|Zi 4095 11 rfl (Aw Y)<|Am ?_;refine Zn [2,3,4,5] ?_;refine Zx<|A9 ?_;refine mf rfl results122 Y Y Y Y (by exact ⟨rfl,rfl⟩)
theorem qj(q:QM)(hq:BP q):Au Tryz.prog 52 #[.agg #[I4 q.kd,I4 q.tb,I4 q.cl,I4 q.lo,I4 q.hi,I4 q.bq,I4 q.ot]] [] (.agg #[I4 q.tb,I4 q.cl,I4 q.lo,I4 q.hi]):=by
 refine Se func52 ntmps52 [0] ?_;intro u R;refine Zq<|Zg<|Ze (Bx #[I4 q.kd,I4 q.tb,I4 q.cl,I4 q.lo,I4 q.hi,I4 q.bq,I4 q.ot]) ?_;rintro _ _ ⟨bq,rfl,rfl⟩;refine Ze (Al zeroValue106 #[_,_,_,_]) ?_;rintro _ _ ⟨bo,rfl,rfl⟩;refine Z0<|Zx<|Zq<|Zg<|Zo Wh (Pa #[_,_,_,_,_,_,_] isAgg30 sizeOf30 Y) ?_;refine Xr [_] Y call122 Y rfl (oo q hq) ?_;refine Zm Y<|Zd Y rfl<|Zd Y rfl<|Zd Y rfl<|Zd Y rfl<|Zh 0 underlying106 rfl rfl sizeOf3 Y<|Xe (Zs sizeOf3 Y Y rfl (hi:=by first|omega|decide|(simp;done))) ?_;refine Zh 1 underlying106 rfl rfl sizeOf3 Y<|Xe (Zs sizeOf3 Y Y rfl (hi:=by first|omega|decide|(simp;done))) ?_;refine Zh 2 underlying106 rfl rfl sizeOf3 Y<|Xe (Zs sizeOf3 Y Y rfl (hi:=by first|omega|decide|(simp;done))) ?_;refine Zh 3 underlying106 rfl rfl sizeOf3 Y<|Xe (Zs sizeOf3 Y Y rfl (hi:=by first|omega|decide|(simp;done))) ?_;refine Z0<|Zn [2] ?_;refine Zx<|Zq<|Zg<|Zo Wh (Ab (cs:=#[_,_,_,_]) isAgg106 sizeOf106 Y Wb (by exact BA rfl)) ?_;refine Xe (BO sizeOf106 Y Y (by(simp [Value.oneCell'];done)) Wu (by exact DW rfl) (by first|rfl|(simp;done)) Wb (by exact BQ _)) ?_;refine Z0<|Zx<|A9 ?_;refine D7 rfl results52 Y Wh (Ah isAgg106 sizeOf106 Wn (BA rfl)) (by exact ⟨rfl,rfl⟩)
end Go.Proofs.YtkdgffcfmgmemaaGreatDoor
