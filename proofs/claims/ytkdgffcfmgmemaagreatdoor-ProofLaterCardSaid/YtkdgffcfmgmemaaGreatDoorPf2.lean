/- A patch gives the result on the rows after the change: rows, numbers, sums, least and greatest values. -/
/- A patch gives the result on the rows after the change: the pairs of a join. -/
/- proof.Replay. -/
/- Records of a log replayed: the result at the later position. -/
/- proof.Make, for queries that are not joins. -/
import Derived.Test.YtkdgffcfmgmemaaGreatDoorEz
import Derived.Test.YtkdgffcfmgmemaaGreatDoorPr5
import Derived.Test.YtkdgffcfmgmemaaGreatDoorLg11
import Derived.Test.YtkdgffcfmgmemaaGreatDoorTk1
set_option linter.unusedVariables false
set_option linter.unusedSimpArgs false
namespace Go.Proofs.YtkdgffcfmgmemaaGreatDoor
open Go.Proofs.Tryz
open Go Go.RowKit Gw
set_option maxRecDepth 100000
attribute [local irreducible] Gw.At Gw.Nx Gw.Ops
theorem Mr{rs:List AP}(hs:BI rs):rs.Nodup:=hs.imp (by
 intro a b h e;subst e;unfold AP.lt2 at h;omega)
theorem Mw{q:QM}(hq:BN q)(rs:List AP)(x:AP):x∈CZ rs q↔x∈rs∧inQ q x=true:=by rw [(Gg hq rs).mem_iff,vP]
theorem Px{q:QM}(hq:BN q){rs:List AP}(hs:BI rs):(CZ rs q).Nodup:=(Gg hq rs).nodup_iff.2 ((Mr hs).filter _)
theorem Pw{q:QM}(hq:BN q){rs o:List AP}(hs:BI rs)(hn:o.Nodup)(hm:∀x,x∈o↔x∈rs∧inQ q x=true)(h2:o.Pairwise (leV q.cl.toNat)):o=CZ rs q:=by
 have h:=Gg hq rs;refine Pq hs (f:=inQ q) (t:=q.tb) (fun r h9=>(of_decide_eq_true h9).1) ?_ h h2 (Ea hs _ _ _ _);exact (wZ hn ((Mr hs).filter _)).2 fun x=>by rw [hm,vP]
theorem NJ{q:QM}{b:Bool}{x y:AP}(h:Ho q b x=some y):y=x∧b=true∧inQ q y=true:=by
 unfold Ho at h;split at h
 · rename_i h9
   rw [tY]at h9;injection h with h
   subst h;exact ⟨rfl,h9⟩
 · cases h
theorem ik{q:QM}{b:Bool}{x:AP}(h:Ho q b x=none)(hh:b=true):inQ q x=false:=by
 unfold Ho at h;rw [hh,xO]at h;split at h
 · cases h
 · simp_all
theorem Pb{q:QM}(hq:BN q)(y x:AP):J6 q y x=true↔DT y q.cl.toNat<DT x q.cl.toNat∨(DT x q.cl.toNat=DT y q.cl.toNat∧y.k<x.k):=by
 have hc:=hq.2.1;have e:∀r,Be r q.cl=DT r q.cl.toNat:=fun r=>by
  have:=M9 r q.cl.toNat (by omega);rwa [show((q.cl.toNat:Nat):Int)=q.cl by omega]at this
 unfold J6;rw [e,e,wT,tY,decide_eq_true_eq,decide_eq_true_eq,decide_eq_true_eq]
theorem pW{q:QM}(hq:BN q){y x:AP}(h:J6 q y x=false):leV q.cl.toNat x y:=by
 have h1:=Pb hq y x;rw [h]at h1;unfold leV;have:¬(DT y q.cl.toNat<DT x q.cl.toNat∨(DT x q.cl.toNat=DT y q.cl.toNat∧y.k<x.k)):=fun h9=>by cases h1.2 h9
 omega
theorem pX{q:QM}(hq:BN q){y x:AP}(h:J6 q y x=true):leV q.cl.toNat y x:=by
 have:=(Pb hq y x).1 h;unfold leV;omega
theorem TU{q:QM}(hq:BN q){L:List AP}(hL:L.Pairwise (leV q.cl.toNat))(y:AP):∃A B,L=A++B∧PM (J6 q y) L y=A++[y]++B∧(∀x∈A,J6 q y x=false)∧(∀x∈B,J6 q y x=true):=by
 cases h:L.findIdx? (J6 q y)with
 |none=>
  refine ⟨L,[],by simp,?_,wF.1 h,by simp⟩;unfold PM;rw [h];simp
 |some i=>
  obtain ⟨h1,h2,h3⟩:=uy.1 h;refine ⟨L.take i,L.drop i,(uR i L).symm,?_,fun x hx=>?_,fun x hx=>?_⟩
  · unfold PM
    rw [h];rfl
  · obtain ⟨j,hj⟩:=uP hx
    rw [uT]at hj;split at hj
    · rename_i hji
      obtain ⟨h4,rfl⟩:=sW.1 hj;simpa using h3 j hji
    · cases hj
  · have h5:=hL.sublist (List.drop_sublist i L)
    rw [vF h1]at hx h5;rcases u7.1 hx with rfl|hx
    · exact h2
    · have h6:=(vk.1 h5).1 x hx
      have h7:=(Pb hq y _).1 h2;rw [Pb hq];unfold leV at h6;omega
theorem WL(pd:AP→Bool)(L:List AP)(y:AP):(PM pd L y).Perm (y::L):=by
 unfold PM;simp only [tF,uO];refine uM.trans ?_;rw [uR]
theorem YD{q:QM}(hq:BN q){L:List AP}(hL:L.Pairwise (leV q.cl.toNat))(y:AP):(PM (J6 q y) L y).Pairwise (leV q.cl.toNat):=by
 obtain ⟨A,B,e,e2,hA,hB⟩:=TU hq hL y;rw [e2];rw [e]at hL;obtain ⟨h1,h2,h3⟩:=uw.1 hL;rw [tF];refine uw.2 ⟨h1,vk.2 ⟨fun x hx=>pX hq (hB x hx),h2⟩,fun a ha b hb=>?_⟩;rcases u7.1 hb with rfl|hb
 · exact pW hq (hA a ha)
 · exact h3 a ha b hb
theorem pF(c:Chg)(x:AP):J2 c x=true↔x.is c.t c.k:=by
 unfold J2 AP.is;rw [tY,decide_eq_true_eq,decide_eq_true_eq]
theorem QP{q:QM}(hq:BN q){rs:List AP}{c:Chg}(hs:BI rs)(hf:Fb rs c):Dn q c (CZ rs q)=CZ (EH rs c) q:=by
 have hL:((CZ rs q).filter fun x=>!J2 c x).Pairwise (leV q.cl.toNat):=(Ea hs _ _ _ _).sublist zK;have hN:((CZ rs q).filter fun x=>!J2 c x).Nodup:=(Px hq hs).filter _
 have hM:∀x,x∈((CZ rs q).filter fun x=>!J2 c x)↔(x∈rs∧¬x.is c.t c.k)∧inQ q x=true:=fun x=>by
  rw [vP,Mw hq,vZ,←Bool.not_eq_true,pF];constructor
  · rintro ⟨⟨a,b⟩,d⟩;exact ⟨⟨a,d⟩,b⟩
  · rintro ⟨⟨a,d⟩,b⟩;exact ⟨⟨a,b⟩,d⟩
 unfold Dn;cases ha:afQ q c with
 |none=>
  refine Pw hq (Iq hs hf) hN (fun x=>?_) hL;rw [hM,FW hs hf];constructor
  · rintro ⟨a,b⟩;exact ⟨.inl a,b⟩
  · rintro ⟨a|⟨a,rfl⟩,b⟩
    · exact ⟨a,b⟩
    · rw [ik ha a]at b;cases b
 |some y=>
  obtain ⟨hy,hh,hi⟩:=NJ ha;have hyn:y∉((CZ rs q).filter fun x=>!J2 c x):=fun h=>((hM y).1 h).1.2 (by rw [hy];exact ⟨rfl,rfl⟩)
  refine Pw hq (Iq hs hf) ((WL _ _ y).nodup_iff.2 (xU.2 ⟨hyn,hN⟩)) (fun x=>?_) (YD hq hL y);rw [(WL _ _ y).mem_iff,u7,hM,FW hs hf];constructor
  · rintro (rfl|⟨a,b⟩)
    · exact ⟨.inr ⟨hh,hy⟩,hi⟩
    · exact ⟨.inl a,b⟩
  · rintro ⟨a|⟨a,e⟩,b⟩
    · exact .inr ⟨a,b⟩
    · exact .inl (e.trans hy.symm)
theorem Wd(lt:Int→Int→Bool)(hlt:∀a b c,lt b a=false→lt c b=false→lt c a=false)(hirr:∀a,lt a a=false)(hasy:∀a b,lt a b=true→lt b a=false)(htot:∀a b,lt a b=false→lt b a=false→a=b){l:List Int}{x:Int}(hx:x∈l)(h:∀y∈l,lt y x=false):EL lt l=⟨[],x,true⟩:=by
 match l,hx,h with
 |z::l,hx,h=>
  obtain ⟨x',a1,a2,a3⟩:=Jq lt hlt hirr hasy z l;rw [a3,htot x x' (a2 x hx) (h x' a1)]
theorem kC(lt:Int→Int→Bool)(l:List Int)(n:Int):EL lt (l++[n])=⟨(EL lt l).rows,if !(EL lt l).fnd||lt n (EL lt l).val then n else(EL lt l).val,true⟩:=by
 unfold EL;rw [wD];rfl
theorem eG(lt:Int→Int→Bool)(hlt:∀a b c,lt b a=false→lt c b=false→lt c a=false)(hirr:∀a,lt a a=false)(hasy:∀a b,lt a b=true→lt b a=false)(htot:∀a b,lt a b=false→lt b a=false→a=b)(X:List Int)(b a:Option Int)
 (h:(Fu lt b.isSome a.isSome (b.getD 0) (a.getD 0) (EL lt (X++b.toList))).2=true):(Fu lt b.isSome a.isSome (b.getD 0) (a.getD 0) (EL lt (X++b.toList))).1=EL lt (X++a.toList):=by
 have hadd:∀r:CL,r=EL lt X→(if a.isSome then((⟨r.rows,if !r.fnd||lt (a.getD 0) r.val then a.getD 0 else r.val,true⟩:CL),true)else(r,true)).1=EL lt (X++a.toList):=fun r hr=>by
  subst hr;cases a with
  |none=>simp
  |some n=>rw [zT,kC];rfl
 cases b with
 |none=>
  have e:EL lt (X++(none:Option Int).toList)=EL lt X:=by simp
  rw [e]at h⊢;exact hadd _ rfl
 |some o=>
  have hne:∃x∈X++[o],(∀y∈X++[o],lt y x=false)∧EL lt (X++[o])=⟨[],x,true⟩:=by
   cases hx:X++[o]with
   |nil=>simp at hx
   |cons z l=>exact Jq lt hlt hirr hasy z l
  obtain ⟨x,h1,h2,h3⟩:=hne;rw [zT]at h⊢;rw [h3]at h⊢;unfold Fu at h⊢;simp only [Option.isSome_some,yF,xO,wN,yw]at h⊢;cases hxo:lt x o with
  |false=>
   rw [hxo]at h;simp only [xk,if_true]at h⊢;have hox:=h2 o (by simp)
   have exo:=htot x o hxo hox;subst exo;cases a with
   |none=>simp at h
   |some n=>
    simp only [Option.isSome_some,yF,xO,yK,vZ]at h;rw [zT,Wd lt hlt hirr hasy htot (x:=n) (by simp) fun y hy=>?_]
    · rfl
    · rcases tV.1 hy with hy|hy
      · exact hlt n x y h (h2 y (by simp [hy]))
      · rw [tO.1 hy];exact hirr n
  |true=>
   simp only [wN,um,if_false];have hxX:x∈X:=by
    rcases tV.1 h1 with h9|h9
    · exact h9
    · rw [tO.1 h9,hirr]at hxo;cases hxo
   have e:(⟨[],x,true⟩:CL)=EL lt X:=(Wd lt hlt hirr hasy htot hxX fun y hy=>h2 y (by simp [hy])).symm;have:=hadd _ e
   simpa using this
theorem NM(q:QM)(a b:List AP):Cn q (a++b)=Cn q a++Cn q b:=uD
theorem Vy(q:QM)(o:Option AP):Cn q o.toList=(o.map fun r=>Be r q.bq).toList:=by cases o<;>rfl
theorem Y3(q:QM)(o:Option AP):mQ q o=(o.map fun r=>Be r q.bq).getD 0:=by cases o<;>rfl
theorem ZR(q:QM)(o:Option AP):o.isSome=(o.map fun r=>Be r q.bq).isSome:=by cases o<;>rfl
theorem lQ(o:Option Int):JS o.toList=o.getD 0:=by
 cases o with
 |none=>rfl
 |some x=>show x+0=x;omega
theorem Vm{q:QM}(hq:BN q){rs:List AP}{c:Chg}(hs:BI rs)(hf:Fb rs c)(h7:q.kd≠7)(ht:Dt q c=true)(h:(Bq q c (Cz rs q)).2=true):(Bq q c (Cz rs q)).1=Cz (EH rs c) q:=by
 obtain ⟨A,B,e1,e2⟩:=O5 hf;have f1:rs.filter (inQ q)=A.filter (inQ q)++(bfQ q c).toList++B.filter (inQ q):=by
  conv=>lhs;rw [e1]
  rw [uf,uf,Qg]
 have f2:(EH rs c).filter (inQ q)=A.filter (inQ q)++(afQ q c).toList++B.filter (inQ q):=by
  rw [e2,uf,uf,Qj]
 have p1:=Gg hq rs;have p2:=Gg hq (EH rs c)
 rw [f1]at p1;rw [f2]at p2;have hk:=hq.2.2.2
 have l1:=p1.length_eq;have l2:=p2.length_eq
 simp only [si]at l1 l2;have m1:(Cn q (CZ rs q)).Perm ((Cn q (A.filter (inQ q))++Cn q (B.filter (inQ q)))++((bfQ q c).map fun r=>Be r q.bq).toList):=by
  rw [←Vy,←NM,←NM];refine (p1.map _).trans (List.Perm.map _ ?_);simp only [tF];exact wJ _ uY
 have m2:(Cn q (CZ (EH rs c) q)).Perm ((Cn q (A.filter (inQ q))++Cn q (B.filter (inQ q)))++((afQ q c).map fun r=>Be r q.bq).toList):=by
  rw [←Vy,←NM,←NM];refine (p2.map _).trans (List.Perm.map _ ?_);simp only [tF];exact wJ _ uY
 have hx:∀lt:Int→Int→Bool,(∀a b c,lt b a=false→lt c b=false→lt c a=false)→(∀a,lt a a=false)→(∀a b,lt a b=true→lt b a=false)→(∀a b,lt a b=false→lt b a=false→a=b)→(Fu lt (bfQ q c).isSome (afQ q c).isSome (mQ q (bfQ q c)) (mQ q (afQ q c)) (EL lt (Cn q (CZ rs q)))).2=true→(Fu lt (bfQ q c).isSome (afQ q c).isSome (mQ q (bfQ q c)) (mQ q (afQ q c)) (EL lt (Cn q (CZ rs q)))).1=EL lt (Cn q (CZ (EH rs c) q)):=fun lt a1 a2 a3 a4 h9=>by
  rw [NU lt a1 a2 a3 a4 (fun y=>m1.mem_iff),Y3,Y3,ZR,ZR]at h9⊢;rw [NU lt a1 a2 a3 a4 (fun y=>m2.mem_iff)];exact eG lt a1 a2 a3 a4 _ _ _ h9
 unfold Bq Cz FH at h⊢;unfold Dt at ht;rcases (by omega:(q.kd=1∨q.kd=2)∨q.kd=3∨q.kd=4∨q.kd=5∨q.kd=6)with h8|h8|h8|h8|h8
 · have g3:¬q.kd=3:=by omega
   have g4:¬q.kd=4:=by omega
   have g5:¬q.kd=5:=by omega
   have g6:¬q.kd=6:=by omega
   simp only [if_pos h8,g3,g4,g5,g6,h7,if_false,QP hq hs hf]
 · have g2:¬(q.kd=1∨q.kd=2):=by omega
   simp only [if_neg g2,if_pos h8]at ht⊢;unfold Vx at ht;cases hb:bfQ q c<;>cases ha:afQ q c<;>rw [hb,ha]at ht<;>rw [hb]at l1<;>rw [ha]at l2<;>simp at ht l1 l2⊢<;>omega
 · have g2:¬(q.kd=1∨q.kd=2):=by omega
   have g3:¬q.kd=3:=by omega
   simp only [if_neg g2,g3,if_pos h8,if_false];have s1:=LM m1
   have s2:=LM m2;rw [VA,lQ,←Y3]at s1 s2;have g:∀l,KZ l=JS l:=fun l=>by unfold KZ;rw [Lg];omega
   simp only [g];congr 1;omega
 · have g2:¬(q.kd=1∨q.kd=2):=by omega
   have g3:¬q.kd=3:=by omega
   have g4:¬q.kd=4:=by omega
   simp only [if_neg g2,g3,g4,if_pos h8,if_false]at h⊢;exact hx _ (fun a b c h1 h2=>by simp only [decide_eq_false_iff_not]at*;omega) (fun a=>by simp) (fun a b h=>by simp only [decide_eq_true_eq,decide_eq_false_iff_not]at*;omega) (fun a b h1 h2=>by simp only [decide_eq_false_iff_not]at*;omega) h
 · have g2:¬(q.kd=1∨q.kd=2):=by omega
   have g3:¬q.kd=3:=by omega
   have g4:¬q.kd=4:=by omega
   have g5:¬q.kd=5:=by omega
   simp only [if_neg g2,g3,g4,g5,if_pos h8,if_false]at h⊢;exact hx _ (fun a b c h1 h2=>by simp only [decide_eq_false_iff_not]at*;omega) (fun a=>by simp) (fun a b h=>by simp only [decide_eq_true_eq,decide_eq_false_iff_not]at*;omega) (fun a b h1 h2=>by simp only [decide_eq_false_iff_not]at*;omega) h
theorem FM{q:QM}{rs:List AP}(hs:BI rs)(k:Int)(x:AP):DU q (I8 rs q.ot) k=some x↔x∈rs∧x.is q.ot k:=by
 have hu:∀a∈rs,∀b∈rs,a.is q.ot k→b.is q.ot k→a=b:=fun a ha b hb h1 h2=>by
  have e1:=Jo hs ha h1;have e2:=Jo hs hb h2
  rw [e1]at e2;injection e2
 have hin:∀y,y∈I8 rs q.ot∧decide (y.t=q.ot∧y.k=k)=true↔y∈rs∧y.is q.ot k:=fun y=>by
  unfold I8 inT AP.is;rw [vP,decide_eq_true_eq,decide_eq_true_eq];constructor
  · rintro ⟨⟨a,_⟩,b⟩;exact ⟨a,b⟩
  · rintro ⟨a,b⟩;exact ⟨⟨a,b.1⟩,b⟩
 unfold DU;constructor
 · intro h
   exact (hin x).1 ⟨xS h,by simpa using zI (p:=fun x:AP=>decide (x.t=q.ot∧x.k=k)) h⟩
 · intro h
   cases hf:(I8 rs q.ot).find? fun x=>decide (x.t=q.ot∧x.k=k)with
   |none=>
    have:=yT.1 hf x ((hin x).2 h).1;exact absurd ((hin x).2 h).2 this
   |some y=>
    have h2:=(hin y).1 ⟨xS hf,by simpa using zI (p:=fun x:AP=>decide (x.t=q.ot∧x.k=k)) hf⟩;rw [hu y h2.1 x h.1 h2.2 h.2]
def prQ(rs:List AP)(q:QM)(r:AP):Option BU:=(DU q (I8 rs q.ot) (Be r q.bq)).map fun x=>⟨r,x⟩
def qP(rs:List AP)(q:QM):List BU:=(CZ rs q).filterMap (prQ rs q)
theorem WH(rs:List AP)(q:QM):∀l:List AP,IM q l (I8 rs q.ot)=DJ (l.filterMap (prQ rs q))
 |[]=>rfl
 |r::l=>by
  have h:=WH rs q l;unfold IM at h⊢;rw [uX,h,yI];unfold IJ prQ;cases DU q (I8 rs q.ot) (Be r q.bq)<;>rfl
theorem Xo(ps:List BU):Ef (DJ ps)=ps:=by
 have hl:(DJ ps).length=2*ps.length:=Gv ps;have hat:∀(ps:List BU) (k:Nat) (p:BU),ps[k]?=some p→(DJ ps)[2*k]?=some p.l∧(DJ ps)[2*k+1]?=some p.r:=by
  intro ps;induction ps with
  |nil=>intro k p h;cases h
  |cons a ps ih=>
   intro k p h;have e:DJ (a::ps)=a.l::a.r::DJ ps:=rfl
   rw [e];cases k with
   |zero=>injection h with h;subst h;exact ⟨rfl,rfl⟩
   |succ k=>
    have:=ih k p h;rw [show 2*(k+1)=2*k+2 by omega];exact this
 apply vg;intro k;have hlen:(Ef (DJ ps)).length=ps.length:=by rw [Jg];omega
 rcases u6 k ps.length with h|h
 · obtain ⟨h1,h2⟩:=hat ps k _ (sV h)
   unfold Ef;rw [tX,xK (by omega),vO,uS,uS,h1,h2,sV h];rfl
 · rw [ul (by omega),ul h]
theorem mH{α:Type}{a b:Option α}(h:∀x,a=some x↔b=some x):a=b:=Option.ext h
theorem Sm{rs:List AP}{q:QM}{r:AP}{p:BU}(h:prQ rs q r=some p):p.l=r∧DU q (I8 rs q.ot) (Be r q.bq)=some p.r:=by
 unfold prQ at h;cases hp:DU q (I8 rs q.ot) (Be r q.bq)with
 |none=>rw [hp]at h;cases h
 |some x=>rw [hp]at h;injection h with h;subst h;exact ⟨rfl,rfl⟩
theorem Qv{α β:Type}{f g:α→Option β}:∀{l:List α},(∀x∈l,f x=g x)→l.filterMap f=l.filterMap g
 |[],_=>rfl
 |x::l,h=>by rw [yI,yI,h x (by simp),Qv fun y hy=>h y (by simp [hy])]
theorem Lx{α β γ:Type}(f:α→Option β)(g:β→Option γ)(h:α→Option γ)(l:List α)(e:∀x∈l,(f x).bind g=h x):(l.filterMap f).filterMap g=l.filterMap h:=by
 rw [yL];exact Qv e
theorem jv(pd:BU→Bool)(A B:List BU)(y:BU)(hA:∀x∈A,pd x=false)(hB:∀x∈B,pd x=true):NN pd (A++B) y=A++[y]++B:=by
 have e:((A++B).findIdx? pd).getD (A++B).length=A.length:=by
  rw [List.findIdx?_append,wF.2 hA];cases B with
  |nil=>simp
  |cons b B=>rw [List.findIdx?_cons,hB b (by simp)];simp
 unfold NN;rw [e];simp
theorem Vl{q:QM}(hq:BN q){rs:List AP}{c:Chg}(hs:BI rs)(hf:Fb rs c)(h7:q.kd=7)(ht:Dt q c=true)(h:(Bq q c (Cz rs q)).2=true):(Bq q c (Cz rs q)).1=Cz (EH rs c) q:=by
 have hs2:=Iq hs hf;have hev:∀rs,Cz rs q=⟨DJ (qP rs q),0,false⟩:=fun rs=>by
  unfold Cz FH;simp only [show¬q.kd=3 by omega,show¬q.kd=4 by omega,show¬q.kd=5 by omega,show¬q.kd=6 by omega,h7,if_true,if_false];rw [WH];rfl
 have hpt:∀r,Bq q c r=Cv q c r:=fun r=>by
  unfold Bq;simp only [show¬(q.kd=1∨q.kd=2) by omega,show¬q.kd=3 by omega,show¬q.kd=4 by omega,show¬q.kd=5 by omega,show¬q.kd=6 by omega,if_false]
 have htq:Ur q c=true∨c.t=q.ot:=by
  unfold Dt at ht;simp only [show¬(q.kd=1∨q.kd=2) by omega,show¬q.kd=3 by omega,show¬q.kd=4 by omega,show¬(q.kd=5∨q.kd=6) by omega,if_false,wT,decide_eq_true_eq]at ht;exact ht
 rw [hpt,hev]at h⊢;rw [hev];unfold Cv at h⊢;split
 · rename_i h9;rw [if_pos h9]at h;cases h
 rename_i hto;rw [if_neg hto]at h;simp only [Xo]at h⊢;congr 2;have hsame:c.t≠q.tb→CZ (EH rs c) q=CZ rs q:=fun hne=>by
  refine (Pw hq hs2 (Px hq hs) (fun x=>?_) (Ea hs _ _ _ _)).symm;rw [Mw hq,FW hs hf];constructor
  · rintro ⟨a,b⟩
    exact ⟨.inl ⟨a,fun h9=>hne (h9.1.symm.trans (of_decide_eq_true b).1)⟩,b⟩
  · rintro ⟨⟨a,_⟩|⟨a,rfl⟩,b⟩
    · exact ⟨a,b⟩
    · exact absurd (of_decide_eq_true b).1 hne
 unfold jnT qP at h⊢;by_cases hot:c.t=q.ot
 · rw [if_pos hot]at h⊢
   rw [hsame (by omega)];have hpart:∀k,DU q (I8 (EH rs c) q.ot) k=if k=c.k then(if c.has then some ⟨c.t,c.k,c.n⟩else none)else DU q (I8 rs q.ot) k:=fun k=>by
    apply mH;intro x;rw [FM hs2,FW hs hf];unfold AP.is;split
    · rename_i hk
      split
      · rename_i hh
        rw [Option.some_inj];constructor
        · rintro ⟨⟨_,a⟩|⟨_,rfl⟩,b,d⟩
          · exact absurd ⟨b.trans hot.symm,d.trans hk⟩ a
          · rfl
        · rintro rfl;exact ⟨.inr ⟨hh,rfl⟩,hot,hk.symm⟩
      · rename_i hh
        constructor
        · rintro ⟨⟨_,a⟩|⟨a,_⟩,b,d⟩
          · exact absurd ⟨b.trans hot.symm,d.trans hk⟩ a
          · exact absurd a hh
        · intro h9;cases h9
    · rename_i hk
      rw [FM hs];unfold AP.is;constructor
      · rintro ⟨⟨a,_⟩|⟨_,rfl⟩,b⟩
        · exact ⟨a,b⟩
        · exact absurd b.2.symm hk
      · rintro ⟨a,b,d⟩
        exact ⟨.inl ⟨a,fun h9=>hk (d.symm.trans h9.2)⟩,b,d⟩
   have hold:c.had=true→∃x,DU q (I8 rs q.ot) c.k=some x:=fun hh=>by
    obtain ⟨r,hr,hi,_⟩:=J4 (hf.1.trans hh);exact ⟨r,(FM hs c.k r).2 ⟨hr,by rw [←hot];exact hi⟩⟩
   have hkey:∀{k x},DU q (I8 rs q.ot) k=some x→x.k=k:=fun h9=>((FM hs _ _).1 h9).2.2;split
   · rename_i hh
     rw [if_pos hh]at h;obtain ⟨x0,hx0⟩:=hold h;rw [←List.filterMap_eq_map];refine Lx _ _ _ _ fun r _=>?_;unfold prQ;rw [hpart,hh];by_cases hk:Be r q.bq=c.k
     · rw [hk,hx0,if_pos rfl]
       simp only [vO,uj,Function.comp_apply,GY,hkey hx0,decide_true,if_true]
     · rw [if_neg hk]
       cases hp:DU q (I8 rs q.ot) (Be r q.bq)with
       |none=>rfl
       |some x=>simp only [vO,uj,Function.comp_apply,GY,hkey hp,hk,decide_false,um,if_false]
   · rename_i hh
     rw [if_neg hh]at h;rw [←yM];refine Lx _ _ _ _ fun r _=>?_;unfold prQ;rw [hpart,if_neg hh];by_cases hk:Be r q.bq=c.k
     · rw [hk,if_pos rfl]
       obtain ⟨x0,hx0⟩:=hold h;rw [hx0];simp [Option.guard,GY,hkey hx0]
     · rw [if_neg hk]
       cases hp:DU q (I8 rs q.ot) (Be r q.bq)with
       |none=>rfl
       |some x=>simp [Option.guard,GY,hkey hp,hk]
 · rw [if_neg hot]at h⊢
   have hg:∀r,prQ (EH rs c) q r=prQ rs q r:=fun r=>by unfold prQ;rw [Z8 hf hot]
   have hgf:prQ (EH rs c) q=prQ rs q:=funext hg;rw [hgf];have htb:c.t=q.tb:=by
    rcases htq with h9|h9
    · unfold Ur at h9
      rw [wT]at h9;rcases h9 with h9|h9
      · obtain ⟨y,hy⟩:=xG.1 h9
        obtain ⟨e,_,hi⟩:=NJ hy;rw [e]at hi;exact (of_decide_eq_true hi).1
      · obtain ⟨y,hy⟩:=xG.1 h9
        obtain ⟨e,_,hi⟩:=NJ hy;rw [e]at hi;exact (of_decide_eq_true hi).1
    · exact absurd h9 hot
   have hrest:((CZ rs q).filterMap (prQ rs q)).filter (fun p=>!OQ c.k p)=((CZ rs q).filter fun x=>!J2 c x).filterMap (prQ rs q):=by
    rw [←yM,←yM,yL,yL];refine Qv fun r hr=>?_;have hrt:r.t=c.t:=((of_decide_eq_true ((Mw hq rs r).1 hr).2).1).trans htb.symm
    by_cases hk:r.k=c.k
    · cases hp:prQ rs q r with
      |none=>simp [Option.guard,J2,hrt,hk]
      |some p=>simp [Option.guard,J2,hrt,hk,OQ,(Sm hp).1]
    · cases hp:prQ rs q r with
      |none=>simp [Option.guard,J2,hrt,hk,hp]
      |some p=>simp [Option.guard,J2,hrt,hk,OQ,(Sm hp).1,hp]
   rw [hrest]at h⊢;have hscan:=QP hq hs hf
   rw [←hscan];unfold Dn;cases ha:afQ q c with
   |none=>rfl
   |some y=>
    rw [ha]at h;simp only [ha]at h⊢;have hm:mQ q (some y)=Be y q.bq:=rfl
    rw [hm]at h⊢;have hL:((CZ rs q).filter fun x=>!J2 c x).Pairwise (leV q.cl.toNat):=(Ea hs _ _ _ _).sublist zK
    obtain ⟨A,B,e1,e2,hA,hB⟩:=TU hq hL y;rw [e2];cases hfi:((CZ rs q).filterMap (prQ rs q)).findIdx? (GY (Be y q.bq))with
    |none=>
     have hi:GM (GY (Be y q.bq)) ((CZ rs q).filterMap (prQ rs q))=-1:=by unfold GM;rw [hfi];rfl
     rw [hi,if_pos (by decide)]at h⊢;rw [tY,decide_eq_true_eq]at h;obtain ⟨b,hb⟩:=xG.1 h.1;obtain ⟨eb,hbh,hbi⟩:=NJ hb;have h9:=h.2
     rw [hb]at h9;have hbm:b∈CZ rs q:=by
      refine (Mw hq rs b).2 ⟨?_,hbi⟩;obtain ⟨r,hr,hi,_,he⟩:=J4 (hf.1.trans hbh);have hv:=hf.2 (hf.1.trans hbh)
      rw [he]at hv;have:b=r:=by
       rw [eb];obtain ⟨t,k,v⟩:=r;obtain ⟨h5,h6⟩:=hi;simp only at h5 h6 hv;subst h5 h6 hv;rfl
      rw [this];exact hr
     have hgb:prQ rs q b=none:=by
      cases hp:prQ rs q b with
      |none=>rfl
      |some p=>
       have h10:=wF.1 hfi p (xB.2 ⟨b,hbm,hp⟩);have h11:=(FM hs _ _).1 (Sm hp).2
       unfold GY at h10;rw [decide_eq_false_iff_not]at h10;exact absurd (h11.2.2.trans h9) h10
     have hgy:prQ rs q y=none:=by
      unfold prQ at hgb⊢;rw [show Be y q.bq=Be b q.bq from h9.symm];cases hp:DU q (I8 rs q.ot) (Be b q.bq)with
      |none=>rfl
      |some x=>rw [hp]at hgb;cases hgb
     rw [e1,xR,xR,xR];simp [hgy]
    |some i=>
     obtain ⟨h1,h2,h3⟩:=uy.1 hfi;have hi:GM (GY (Be y q.bq)) ((CZ rs q).filterMap (prQ rs q))=(i:Int):=by unfold GM;rw [hfi];rfl
     rw [hi,if_neg (by omega)]at h⊢;rw [vS,uS,sV h1,yF];obtain ⟨r,hr,hp⟩:=xB.1 (zk h1);generalize ((CZ rs q).filterMap (prQ rs q))[i]=p at h2 hp;have h4:=(FM hs _ _).1 (Sm hp).2
     unfold GY at h2;rw [decide_eq_true_eq]at h2;have hgy:prQ rs q y=some ⟨y,p.r⟩:=by
      unfold prQ;rw [(FM hs (Be y q.bq) p.r).2 ⟨h4.1,h4.2.1,h2⟩];rfl
     rw [e1,xR,jv]
     · simp [hgy]
     · intro x hx
       obtain ⟨r9,hr9,hp9⟩:=xB.1 hx;rw [(Sm hp9).1];exact hA r9 hr9
     · intro x hx
       obtain ⟨r9,hr9,hp9⟩:=xB.1 hx;rw [(Sm hp9).1];exact hB r9 hr9
theorem Xj{q:QM}(hq:BN q){rs:List AP}{c:Chg}(hs:BI rs)(hf:Fb rs c)(ht:Dt q c=true)(h:(Bq q c (Cz rs q)).2=true):(Bq q c (Cz rs q)).1=Cz (EH rs c) q:=by
 by_cases h7:q.kd=7
 · exact Vl hq hs hf h7 ht h
 · exact Vm hq hs hf h7 ht h
def Ez(q:QM)(base:Int):Nat→CL×Int→List Bo→Option (CL×Int)
 |_,st,[]=>some st
 |i,st,x::l=>if(Cf q st.1 x.cs).2.2=true∧base≤9223372036854775806 -(i:Int)∧x.p=base+1+(i:Int)then Ez q base (i+1) ((Cf q st.1 x.cs).1,if(Cf q st.1 x.cs).2.1 then x.p else st.2) l else none
theorem Mx(q:QM)(base:Int):∀(a:List Bo) (i:Nat) (st:CL×Int) (b:List Bo),Ez q base i st (a++b)=(Ez q base i st a).bind fun st'=>Ez q base (i+a.length) st' b
 |[],i,st,b=>rfl
 |x::a,i,st,b=>by
  show(if(Cf q st.1 x.cs).2.2=true∧base≤9223372036854775806 -(i:Int)∧x.p=base+1+(i:Int)then Ez q base (i+1) _ (a++b)else none)=(if(Cf q st.1 x.cs).2.2=true∧base≤9223372036854775806 -(i:Int)∧x.p=base+1+(i:Int)then Ez q base (i+1) _ a else none).bind _;split
  · rw [Mx q base a (i+1) _ b,tL,show i+(a.length+1)=i+1+a.length by omega]
  · rfl
theorem Ig{q:QM}{base:Int}{st sk:CL×Int}{l:List Bo}{k:Nat}{x:Bo}(h:Ez q base 0 st (l.take k)=some sk)(hx:l[k]?=some x):Ez q base 0 st (l.take (k+1))=if(Cf q sk.1 x.cs).2.2=true∧base≤9223372036854775806 -(k:Int)∧x.p=base+1+(k:Int)then some ((Cf q sk.1 x.cs).1,if(Cf q sk.1 x.cs).2.1 then x.p else sk.2)else none:=by
 have hk:=(sW.1 hx).1;rw [Bp hx,Mx,h,su,w9 (by omega),uE];rfl
theorem LQ{q:QM}{base:Int}{st:CL×Int}{l:List Bo}{k:Nat}(h:Ez q base 0 st (l.take k)=none):Ez q base 0 st l=none:=by
 rw [←uR k l,Mx,h];rfl
def Ce(q:QM)(r:CL)(base:Int)(l:List Bo):CL×Int×Bool:=match Ez q base 0 (r,base) l with
 |some st=>(st.1,st.2,true)
 |none=>(CL.none,0,false)
theorem LB{q:QM}{r:CL}{cs:List Chg}(h:(Cf q r cs).2.2=true):I9 q r cs=some (Cf q r cs).1∧(Cf q r cs).2.1=cs.any (Ei q):=by
 unfold Cf at*;split at h
 · rename_i h9;rw [h9];exact ⟨rfl,rfl⟩
 · cases h
theorem ZI{q:QM}{base:Int}:∀(l:List Bo) (i:Nat) (st st':CL×Int) (B:Int) (n:Nat),Ez q base i st l=some st'→(∀x∈l,x.cs.length≤1000)→(-B≤st.1.val∧st.1.val≤B)→0≤B→st.1.rows.length≤n→(-(B+2000000000000*(l.length:Int))≤st'.1.val∧st'.1.val≤B+2000000000000*(l.length:Int))∧st'.1.rows.length≤n+2000*l.length
 |[],i,st,st',B,n,h,hl,h1,h2,h3=>by
  unfold Ez at h;injection h with h
  subst h;simp only [uz];exact ⟨⟨by omega,by omega⟩,h3⟩
 |x::l,i,st,st',B,n,h,hl,h1,h2,h3=>by
  unfold Ez at h;split at h
  · rename_i h9
    have h4:=U7 _ _ _ B n (LB h9.1).1 h1 h2 h3;have h5:=hl x (by simp)
    have h6:=ZI l (i+1) _ st' (B+2000000000000) (n+2000) h (fun y hy=>hl y (by simp [hy])) ⟨by simp only;omega,by simp only;omega⟩ (by omega) (by simp only;omega);rw [tL];obtain ⟨⟨h7,h8⟩,h10⟩:=h6;refine ⟨⟨?_,?_⟩,by omega⟩<;>(push_cast;omega)
  · cases h
set_option maxHeartbeats 1000000 in
theorem VV(q:QM)(hq:BN q)(base:Int)(hb:-9223372036854775808≤base∧base≤9223372036854775807){l:List Bo}{lv:Value}{ML:List AR}(hL:Dw ML lv l)(hll:l.length≤1000)(hcs:∀x∈l,x.cs.length≤1000){r:CL}{rv:Value}{A:List AR}(hr:Dv A rv r.rows)(hn:r.rows.length≤1000000)(hv:-1000000000000000000≤r.val∧r.val≤1000000000000000000):CK Tryz.prog 36 #[.agg #[I4 q.kd,I4 q.tb,I4 q.cl,I4 q.lo,I4 q.hi,I4 q.bq,I4 q.ot],.agg #[rv,I4 r.val,.bool r.fnd],I4 base,lv] [A,ML] (fun w H'=>∃rv' s',w= .tuple #[.agg #[rv',I4 (Ce q r base l).1.val,.bool (Ce q r base l).1.fnd],I4 (Ce q r base l).2.1,.bool (Ce q r base l).2.2]∧BX 5 113 rv' (Ce q r base l).1.rows.length (Ac (Ce q r base l).1.rows) s'∧H'=[s',A,ML]):=by
 have hml:=mL;obtain ⟨pv,cv,rfl,_⟩:=id hr;obtain ⟨pl,capl,rfl,⟨hlm,hlc⟩,hgl⟩:=id hL;refine Se func36 ntmps36 [0,1,2,3] ?_;intro u R;refine Zq<|Zg<|Ze (Bx #[I4 q.kd,I4 q.tb,I4 q.cl,I4 q.lo,I4 q.hi,I4 q.bq,I4 q.ot]) ?_;rintro _ _ ⟨bq,rfl,rfl⟩;refine Ze (Bx #[.slice pv r.rows.length cv,I4 r.val,.bool r.fnd]) ?_;rintro _ _ ⟨br,rfl,rfl⟩;refine Ze (Al zeroValue51 #[_,_,_]) ?_;rintro _ _ ⟨bo,rfl,rfl⟩;refine Za Y<|Za Y<|Z0<|Zx<|Zq<|Zg<|Zm Y<|Za Y<|Z0<|Zx<|Zq<|Zg<|Zh 0 underlying51 rfl rfl sizeOf45 Y<|Zl isAgg45 Y ?_;refine Zc [_] Y call94 Y rfl (Ha hr (by omega)) ?_;rintro _ _ ⟨_,⟨s1,h1,rfl⟩,rfl⟩;obtain ⟨g1,c1,rfl⟩:=h1.form;refine Zh 0 underlying51 rfl rfl sizeOf45 Y<|Xe (Zs sizeOf45 Y Y rfl (hi:=by first|omega|decide|(simp;done))) ?_;refine Z0<|Zx<|Zq<|Zq<|Zg<|Zm Y<|Zv (AU underlying28 Y)<|Zm Y<|Z0<|Zn [2,4,5,8,11,22,23,24] ?_;refine Zx<|AQ<|Zb [11,24,2,4,5,8,22,23] ?_;refine Ay (e0:=[(11,_),(24,_)]) (fun m e H=>∃(k:Nat) (rk:CL×Int) (gk:Option Addr) (ck:Nat) (sk:List AR),m=l.length -k∧(k≤l.length∧Ez q base 0 (r,base) (l.take k)=some rk∧BX 5 113 (.slice gk rk.1.rows.length ck) rk.1.rows.length (Ac rk.1.rows) sk)∧e=[(11,I4 rk.2),(24,I4 (k:Int))]∧H=[[(br,.cells #[.slice gk rk.1.rows.length ck,I4 rk.1.val,.bool rk.1.fnd] 51 (0,0))],sk]) (by exact ⟨0,(r,base),g1,c1,s1,rfl,⟨tN _,by rw [ug];rfl,h1⟩,rfl,rfl⟩) Wp ?_;rintro _ _ _ ⟨k,rk,gk,ck,sk,rfl,⟨hk,hrk,hsk⟩,rfl,rfl⟩;obtain ⟨hkv,hkn⟩:=ZI (l.take k) 0 (r,base) rk 1000000000000000000 1000000 hrk (fun x hx=>hcs x (ut hx)) hv (by omega) hn;have hkl:(l.take k).length=k:=by rw [su];omega
 rw [hkl]at hkv hkn;have hUk:=Dx hsk (by omega)
 refine Zq<|Zg<|Zv (Aq Y Y)<|Z0<|Zx<|Zq ?_;refine Ao Y (fun hlt=>?_) (fun hlt=>?_)
 ·
  obtain ⟨x,hx⟩:∃x,l[k]?=some x:=⟨_,sV hlt⟩;have hxc:=hcs x (tK hx)
  obtain ⟨hOx,g2,off2,cur2,T2,zz2,rfl,hm2,hsz2,hex2⟩:=hgl k x hx;refine AC<|Zx<|Zq<|AQ<|Zq<|Zg<|Zm Y ?_;refine BM (AZ underlying28 sizeOf73 Y Y (by first|omega|decide|(simp;done))) ?_;refine Cg (cs:=[(g2,.cells cur2 T2 zz2)]) (by simp [hm2]) (Ab (cs:=#[I4 x.p,.slice x.q x.cs.length x.cap]) isAgg73 sizeOf73 Y (by omega) hex2) rfl rfl ?_;refine Ze (Al zeroValue73 #[_,_]) ?_;rintro _ _ ⟨bx,rfl,rfl⟩;refine Za Y<|Xe (Xw sizeOf73 #[I4 x.p,.slice x.q x.cs.length x.cap]) ?_;refine Z0<|Zx<|Zq<|Zg<|Zo Wh (Pa #[_,_,_,_,_,_,_] isAgg30 sizeOf30 Y) ?_;refine Zo Wh (Pa #[_,_,_] isAgg51 sizeOf51 Y) ?_;refine Zo Wh (Pa #[_,_] isAgg73 sizeOf73 Y) ?_;refine Zc [_,_,_] Y call95 Y rfl (Ym q hq x.p x.q x.cap x.cs hOx hxc hUk (by omega) (by omega)) ?_;rintro _ _ ⟨_,⟨rv3,s3,rfl,h3,rfl⟩,rfl⟩;obtain ⟨g3,c3,rfl⟩:=h3.form;refine Zm Y<|Zd Y rfl<|Zd Y rfl<|Zd Y rfl<|Ze (Al zeroValue51 #[_,_,_]) ?_;rintro _ _ ⟨bn,rfl,rfl⟩;refine Xe (Xw sizeOf51 #[.slice g3 (Cf q rk.1 x.cs).1.rows.length c3,I4 (Cf q rk.1 x.cs).1.val,.bool (Cf q rk.1 x.cs).1.fnd]) ?_;refine Za Y<|Za Y<|Z0<|Zn [2,4,5,8,11,12,13,14,15,16,22,23,24] ?_;refine Zx<|Zq<|Zq<|Zg<|Zm Y<|Zv (Ca Y)<|Zm Y ?_;refine Ak (t:=39) Y rfl (fun h1g=>?_) (fun h1g=>?_)
  ·
   have h1k:(Cf q rk.1 x.cs).2.2=false:=by simpa using h1g
   refine A7 Y rfl<|A7 Y rfl<|A7 Y rfl<|A7 Y rfl<|Zv (AL Y Y)<|Zm Y<|A7 Y rfl<|A7 Y rfl<|A7 Y rfl<|A7 Y rfl<|A7 Y rfl<|A7 Y rfl<|A7 Y rfl<|Zv (AL Y Y)<|Z0<|Zn [2,4,5,8,11,13,14,15,22,23,24,53] ?_;refine Zx<|CB Y<|Zq<|Bd ?_;have e8:Ce q r base l=(CL.none,0,false):=by unfold Ce;rw [LQ (k:=k+1) (by rw [Ig hrk hx,if_neg (by(rw [h1k];rintro ⟨h,_⟩;cases h;done))])]
   refine Zg<|Zv (BJ (vs:=[]) (cs:=#[_,_,_]) Y (AX (pl:=#[(0,1),(1,1),(2,1)]) zeroValue51 underlying51 (fun _=>by kernel_rfl) rfl)) ?_;refine Xe (Xw sizeOf51 _) ?_;refine Za Y<|Za Y<|Z0<|Zx<|A9<|Zt<|AV<|Zt<|Zt<|AV<|Zt ?_;refine Gi rfl results36 Y Wh (Ag isAgg51 sizeOf51 Wn (rfl)) Y Y (by exact ⟨.slice none 0 0,[],by rw [e8];rfl,by rw [e8];exact BV 5 _,rfl⟩)
  have h1k:(Cf q rk.1 x.cs).2.2=true:=by simpa using h1g
  refine Zf Y Y<|Zf Y Y ?_
  (refine FZ Y (Bg (m:=9223372036854775806) Y Y ?_ ?_) rfl rfl ?_;(focus (omega));(focus (omega)))
  refine Yg (Et Y Y)<|Zv (AA Y Y)<|Zm Y ?_;refine Ai (t:=45) Y rfl (fun h2g=>?_) (fun h2g=>?_)
  ·
   refine A7 Y rfl<|A7 Y rfl<|A7 Y rfl<|A7 Y rfl<|A7 Y rfl<|A7 Y rfl<|A7 Y rfl<|Zv (AL Y Y)<|Z0<|Zn [2,4,5,8,11,13,14,15,22,23,24,53] ?_;refine Zx<|CB Y<|Zq<|Bd ?_;have e8:Ce q r base l=(CL.none,0,false):=by unfold Ce;rw [LQ (k:=k+1) (by rw [Ig hrk hx,if_neg (by(rintro ⟨_,h8,h9⟩;omega))])]
   refine Zg<|Zv (BJ (vs:=[]) (cs:=#[_,_,_]) Y (AX (pl:=#[(0,1),(1,1),(2,1)]) zeroValue51 underlying51 (fun _=>by kernel_rfl) rfl)) ?_;refine Xe (Xw sizeOf51 _) ?_;refine Za Y<|Za Y<|Z0<|Zx<|A9<|Zt<|AV<|Zt<|Zt<|AV<|Zt ?_;refine Gi rfl results36 Y Wh (Ag isAgg51 sizeOf51 Wn (rfl)) Y Y (by exact ⟨.slice none 0 0,[],by rw [e8];rfl,by rw [e8];exact BV 5 _,rfl⟩)
  refine Yf 0 underlying73 rfl rfl sizeOf3 Y<|Yl isAgg3 Y ?_;refine Zf Y Y ?_
  (refine FZ Y (JJ Y Y (IntWalk.i64_in _ ?_)) rfl rfl ?_;(focus (omega)))
  refine Zf Y Y ?_
  (refine FZ Y (JJ Y Y (IntWalk.i64_in _ ?_)) rfl rfl ?_;(focus (omega)))
  refine Yg (IL Y Y)<|Zv (AA Y Y)<|Z0<|Zn [2,4,5,8,11,13,14,15,22,23,24,53] ?_;refine Zx ?_;refine Ao Y (fun h3g=>?_) (fun h3g=>?_)
  ·
   refine Zq<|Bd ?_;have e8:Ce q r base l=(CL.none,0,false):=by unfold Ce;rw [LQ (k:=k+1) (by rw [Ig hrk hx,if_neg (by(rintro ⟨_,h8,h9⟩;omega))])]
   refine Zg<|Zv (BJ (vs:=[]) (cs:=#[_,_,_]) Y (AX (pl:=#[(0,1),(1,1),(2,1)]) zeroValue51 underlying51 (fun _=>by kernel_rfl) rfl)) ?_;refine Xe (Xw sizeOf51 _) ?_;refine Za Y<|Za Y<|Z0<|Zx<|A9<|Zt<|AV<|Zt<|Zt<|AV<|Zt ?_;refine Gi rfl results36 Y Wh (Ag isAgg51 sizeOf51 Wn (rfl)) Y Y (by exact ⟨.slice none 0 0,[],by rw [e8];rfl,by rw [e8];exact BV 5 _,rfl⟩)
  refine AC<|Zx<|Zq<|Zg<|Zo Wh (Pa #[_,_,_] isAgg51 sizeOf51 Y) ?_;refine Xe (Xw sizeOf51 _) ?_;refine Z0<|Zx<|Zq<|Zg<|Zm Y<|Z0<|Zx ?_;refine Af Y (fun ht=>?_) (fun ht=>?_)
  ·
   refine Zg<|Zh 0 underlying73 rfl rfl sizeOf3 Y<|Zl isAgg3 Y ?_;refine Za Y<|Z0<|A8<|Zx<|Zg<|Ya (n:=1) Y Y<|Zm Y<|Z0<|Zn [11,24,2,4,5,8,22,23] ?_;refine AY (e':=[(11,_),(24,_)]) (by exact ⟨k+1,((Cf q rk.1 x.cs).1,x.p),g3,c3,s3,rfl,⟨by omega,by rw [Ig hrk hx,if_pos ⟨h1k,by omega,by omega⟩,ht];rfl,h3⟩,rfl,rfl⟩)
  refine AC<|A8<|Zx<|Zg<|Ya (n:=1) Y Y<|Zm Y<|Z0<|Zn [11,24,2,4,5,8,22,23] ?_;refine AY (e':=[(11,_),(24,_)]) (by exact ⟨k+1,((Cf q rk.1 x.cs).1,rk.2),g3,c3,s3,rfl,⟨by omega,by rw [Ig hrk hx,if_pos ⟨h1k,by omega,by omega⟩,ht];rfl,h3⟩,rfl,rfl⟩)
 have ek:k=l.length:=by omega
 subst ek;rw [uK]at hrk;have e8:Ce q r base l=(rk.1,rk.2,true):=by unfold Ce;rw [hrk]
 refine Ar<|Zt<|Zt<|AO<|Zx<|Zq<|Zg<|Zo Wh (Pa #[_,_,_] isAgg51 sizeOf51 Y) ?_;refine Zm Y<|Xe (Xw sizeOf51 _) ?_;refine Za Y<|Za Y<|Z0<|Zx<|A9 ?_;refine Gi rfl results36 Y Wh (Ag isAgg51 sizeOf51 Wn (rfl)) Y Y (by exact ⟨.slice gk _ ck,sk,by rw [e8];rfl,by rw [e8];exact hsk,rfl⟩)
theorem aY{q:QM}(hq:BN q){rs:List AP}{c:Chg}(hs:BI rs)(hf:Fb rs c)(hok:c.ok)(h:(Ct q c (Cz rs q)).2=true):(Ct q c (Cz rs q)).1=Cz (EH rs c) q:=by
 unfold Ct at h⊢;cases ht:Ei q c with
 |false=>
  rw [if_neg (by decide)];unfold Ei at ht;rw [decide_eq_true hok,xO]at ht;exact (kG hq hf ht).symm
 |true=>
  rw [ht,if_pos rfl]at h;rw [if_pos rfl];unfold Ei at ht;rw [tY]at ht;split at h
  · rename_i h9
    rw [if_pos h9];exact Xj hq hs hf ht.2 h9
  · cases h
theorem SX{q:QM}(hq:BN q){rs:List AP}{cs:List Chg}(hs:BI rs)(ha:nW cs)(hf:∀c∈cs,Fb rs c)(hok:∀c∈cs,c.ok):∀i,i≤cs.length→∀r,I9 q (Cz rs q) (cs.take i)=some r→r=Cz (DF rs (cs.take i)) q
 |0,_,r,h=>by
  rw [ug]at h⊢;injection h with h
  exact h.symm
 |i+1,hi,r,h=>by
  obtain ⟨c,hc⟩:∃c,cs[i]?=some c:=⟨_,sV (by omega)⟩;obtain ⟨h1,h2⟩:=Jp hs ha hf i (by omega);cases hr:I9 q (Cz rs q) (cs.take i)with
  |none=>
   have:=Nw (cs:=cs.take (i+1)) (k:=i) (q:=q) (r:=Cz rs q) (by rw [wY,w9 (by omega)];exact hr);rw [this]at h;cases h
  |some rk=>
   have e:=SX hq hs ha hf hok i (by omega) rk hr;rw [Ja hr hc,e]at h;split at h
   · rename_i h9
     injection h with h
     rw [←h,EB rs cs i c hc];exact aY hq h1 (h2 i c (tJ _) hc) (hok c (tK hc)) h9
   · cases h
theorem gW{q:QM}(hq:BN q){rs:List AP}{p rp:Int}{cs:List Chg}(hs:BI rs)(h:M7 rs p rp cs){r:CL}(hr:I9 q (Cz rs q) cs=some r):r=Cz (DF rs cs) q:=by
 have:=SX hq hs (RG h.ok.ord) h.fit (fun c hc=>by obtain ⟨i,hi⟩:=uP hc;exact h.ok.all i c hi) cs.length (tJ _) r (by rw [uK];exact hr);rwa [uK]at this
def Im(q:QM)(x:Bo):Bool:=x.cs.any (Ei q)
theorem ME{q:QM}{base b:Int}:∀(l:List Bo) (i j:Nat) (r:CL) (s s2:Int),base+(i:Int)=b+(j:Int)→Ez q b j (r,s2) l=(Ez q base i (r,s) l).map fun st=>(st.1,if l.any (Im q)then st.2 else s2)
 |[],i,j,r,s,s2,h=>rfl
 |x::l,i,j,r,s,s2,h=>by
  unfold Ez;by_cases hc:(Cf q r x.cs).2.2=true∧base≤9223372036854775806 -(i:Int)∧x.p=base+1+(i:Int)
  · rw [if_pos hc,if_pos ⟨hc.1,by omega,by omega⟩]
    simp only;have ht:(Cf q r x.cs).2.1=Im q x:=(LB hc.1).2
    rw [ME (base:=base) (b:=b) l (i+1) (j+1) (Cf q r x.cs).1 (if(Cf q r x.cs).2.1 then x.p else s) _ (by push_cast;omega),ht,yu];cases htx:Im q x with
    |false=>rw [yw];rfl
    |true=>
     rw [Bool.true_or];simp only [if_true];cases hl:l.any (Im q)with
     |true=>rfl
     |false=>
      have:=ME (q:=q) (base:=base) (b:=base) l (i+1) (i+1) (Cf q r x.cs).1 x.p x.p rfl;rw [hl]at this;simp only [um,if_false]at this⊢;rw [←this];cases Ez q base (i+1) ((Cf q r x.cs).1,x.p) l<;>rfl
  · rw [if_neg hc,if_neg (fun h9=>hc ⟨h9.1,by omega,by omega⟩)]
    rfl
structure OZ(q:QM)(l:List Bo)(base k:Nat)(s:Int):Prop where
 le:(base:Int)≤s∧s≤((base+k:Nat):Int)
 at_:s≠(base:Int)→∃(j:Nat) (x:Bo),(j:Int)+1=s∧l[j]?=some x∧Im q x=true
 no:∀(j:Nat) (x:Bo),s≤(j:Int)→j<base+k→l[j]?=some x→Im q x=false
theorem LU{q:QM}(hq:BN q){l:List Bo}(hl:DR l){base:Nat}(hb:base≤l.length):∀k,base+k≤l.length→∀st,Ez q (base:Int) 0 (Cz (Bb (l.take base)) q,(base:Int)) ((l.drop base).take k)=some st→st.1=Cz (Bb (l.take (base+k))) q∧OZ q l base k st.2
 |0,_,st,h=>by
  rw [ug]at h;injection h with h
  subst h;exact ⟨rfl,⟨by simp only;omega,fun h=>absurd rfl h,fun j x h1 h2=>by simp only at h1;omega⟩⟩
 |k+1,hk,st,h=>by
  obtain ⟨x,hx⟩:∃x,l[base+k]?=some x:=⟨_,sV (by omega)⟩;have hx2:(l.drop base)[k]?=some x:=by rw [ui];exact hx
  obtain ⟨ha,_⟩:=hl _ x hx;have hp:x.p=((base+k:Nat):Int)+1:=ha.pos
  cases hr:Ez q (base:Int) 0 (Cz (Bb (l.take base)) q,(base:Int)) ((l.drop base).take k)with
  |none=>
   have:=LQ (l:=(l.drop base).take (k+1)) (k:=k) (q:=q) (base:=(base:Int)) (st:=(Cz (Bb (l.take base)) q,(base:Int))) (by rw [wY,w9 (by omega)];exact hr);rw [this]at h;cases h
  |some sk=>
   obtain ⟨e1,e2⟩:=LU hq hl hb k (by omega) sk hr;rw [Ig hr hx2]at h;split at h
   · rename_i h9
     injection h with h
     subst h;have hA:=LB h9.1
     have h1:=(hl.rows (base+k) (by omega)).1;rw [e1]at hA;refine ⟨?_,?_⟩
     · have:=gW hq h1 ha hA.1
       rw [show base+(k+1)=base+k+1 by omega,Bp hx,FK,←this,e1]
     · have hT:(Cf q sk.1 x.cs).2.1=Im q x:=by rw [e1];exact hA.2
       simp only [hT];obtain ⟨⟨a1,a2⟩,a3,a4⟩:=e2;cases ht:Im q x with
       |true=>
        simp only [if_true];refine ⟨by omega,fun _=>⟨base+k,x,hp.symm,hx,ht⟩,fun j y h5 h6=>by omega⟩
       |false=>
        simp only [um,if_false];refine ⟨by push_cast at a2⊢;omega,a3,fun j y h5 h6 h7=>?_⟩;rcases u6 j (base+k)with h8|h8
        · exact a4 j y h5 h8 h7
        · obtain rfl:j=base+k:=by omega
          rw [hx]at h7;injection h7 with h7
          rw [←h7];exact ht
   · cases h
theorem Vk{q:QM}(hk:1≤q.kd∧q.kd≤4)(c:Chg)(r:CL):(Ct q c r).2=true:=by
 have:(Bq q c r).2=true:=by
  unfold Bq;split
  · rfl
  · split
    · rfl
    · rw [if_pos (by omega)]
 unfold Ct;rw [if_pos this];split<;>rfl
theorem Q7{q:QM}(hk:1≤q.kd∧q.kd≤4):∀(cs:List Chg) (r:CL),∃r',I9 q r cs=some r'
 |[],r=>⟨r,rfl⟩
 |c::cs,r=>by
  unfold I9;rw [if_pos (Vk hk c r)];exact Q7 hk cs _
theorem Q6{q:QM}(hk:1≤q.kd∧q.kd≤4){base:Int}:∀(l:List Bo) (i:Nat) (st:CL×Int),(∀(k:Nat) (x:Bo),l[k]?=some x→base≤9223372036854775806 -((i+k:Nat):Int)∧x.p=base+1+((i+k:Nat):Int))→∃st',Ez q base i st l=some st'
 |[],i,st,_=>⟨st,rfl⟩
 |x::l,i,st,h=>by
  have h0:=h 0 x rfl;rw [wS]at h0;obtain ⟨r',hr⟩:=Q7 hk x.cs st.1;unfold Ez;rw [if_pos ⟨by unfold Cf;rw [hr],h0.1,h0.2⟩];exact Q6 hk l (i+1) _ fun k y hy=>by
   have:=h (k+1) y hy;rwa [show i+(k+1)=i+1+k by omega]at this
theorem oQ(q:QM)(hq:BN q):Au Tryz.prog 122 #[.agg #[I4 q.kd,I4 q.tb,I4 q.cl,I4 q.lo,I4 q.hi,I4 q.bq,I4 q.ot]] [] (.tuple #[I4 q.tb,I4 q.cl,I4 q.lo,I4 q.hi]):=by
 refine Se func122 ntmps122 [0] ?_;intro u R;refine Zq<|Zg<|Ze (Bx #[I4 q.kd,I4 q.tb,I4 q.cl,I4 q.lo,I4 q.hi,I4 q.bq,I4 q.ot]) ?_;rintro _ _ ⟨bq,rfl,rfl⟩;refine Za Y<|Za Y<|Za Y<|Za Y<|Z0<|Zx<|Zq<|Zq<|Zg<|Zo Wh (Pa #[_,_,_,_,_,_,_] isAgg30 sizeOf30 Y) ?_;refine Xr [_] Y call49 Y rfl (LX q) ?_;refine Zv (CF Y)<|Z0<|Zx ?_;refine Af Y (fun hb1=>?_) (fun hb1=>?_)
 ·
  exfalso;simp [hq]at hb1
 refine AC<|Zx<|Zq<|BK (n:=12) (0::1::0::4::0::16::0::64::3::271::831::2047::[]) 0 (by kernel_rfl) (by kernel_rfl) rfl ?_;refine Zi 1 0 rfl (Aa (off:=1) underlying30 rfl rfl sizeOf3 Y)<|Zj 3 1 rfl isAgg3 Y ?_;refine Zi 7 2 rfl (Aa (off:=2) underlying30 rfl rfl sizeOf3 Y)<|Zj 15 3 rfl isAgg3 Y ?_;refine Zi 31 4 rfl (Aa (off:=3) underlying30 rfl rfl sizeOf3 Y)<|Zj 63 5 rfl isAgg3 Y ?_;refine Zi 127 6 rfl (Aa (off:=4) underlying30 rfl rfl sizeOf3 Y)<|Zj 255 7 rfl isAgg3 Y ?_;refine Zi 511 8 rfl (BA Y)<|Zi 1023 9 rfl (BA Y)<|Zi 2047 10 rfl (BA Y)<|Zi 4095 11 rfl (BA Y)<|Am ?_;refine Zn [2,3,4,5] ?_;refine Zx<|A9 ?_;refine mO rfl results122 Y Y Y Y (by exact ⟨rfl,rfl⟩)
theorem qc(q:QM)(hq:BN q):Au Tryz.prog 52 #[.agg #[I4 q.kd,I4 q.tb,I4 q.cl,I4 q.lo,I4 q.hi,I4 q.bq,I4 q.ot]] [] (.agg #[I4 q.tb,I4 q.cl,I4 q.lo,I4 q.hi]):=by
 refine Se func52 ntmps52 [0] ?_;intro u R;refine Zq<|Zg<|Ze (Bx #[I4 q.kd,I4 q.tb,I4 q.cl,I4 q.lo,I4 q.hi,I4 q.bq,I4 q.ot]) ?_;rintro _ _ ⟨bq,rfl,rfl⟩;refine Ze (Al zeroValue106 #[_,_,_,_]) ?_;rintro _ _ ⟨bo,rfl,rfl⟩;refine Z0<|Zx<|Zq<|Zg<|Zo Wh (Pa #[_,_,_,_,_,_,_] isAgg30 sizeOf30 Y) ?_;refine Xr [_] Y call122 Y rfl (oQ q hq) ?_;refine Zm Y<|Zd Y rfl<|Zd Y rfl<|Zd Y rfl<|Zd Y rfl<|Zh 0 underlying106 rfl rfl sizeOf3 Y<|Xe (Zs sizeOf3 Y Y rfl (hi:=by first|omega|decide|(simp;done))) ?_;refine Zh 1 underlying106 rfl rfl sizeOf3 Y<|Xe (Zs sizeOf3 Y Y rfl (hi:=by first|omega|decide|(simp;done))) ?_;refine Zh 2 underlying106 rfl rfl sizeOf3 Y<|Xe (Zs sizeOf3 Y Y rfl (hi:=by first|omega|decide|(simp;done))) ?_;refine Zh 3 underlying106 rfl rfl sizeOf3 Y<|Xe (Zs sizeOf3 Y Y rfl (hi:=by first|omega|decide|(simp;done))) ?_;refine Z0<|Zn [2] ?_;refine Zx<|Zq<|Zg<|Zo Wh (Ab (cs:=#[_,_,_,_]) isAgg106 sizeOf106 Y Wb (by exact Av rfl)) ?_;refine Xe (BO sizeOf106 Y Y (by(simp [Value.oneCell'];done)) Wu (by exact DW rfl) (by first|rfl|(simp;done)) Wb (by exact BQ _)) ?_;refine Z0<|Zx<|A9 ?_;refine D9 rfl results52 Y Wh (Ag isAgg106 sizeOf106 Wn (Av rfl)) (by exact ⟨rfl,rfl⟩)
end Go.Proofs.YtkdgffcfmgmemaaGreatDoor
