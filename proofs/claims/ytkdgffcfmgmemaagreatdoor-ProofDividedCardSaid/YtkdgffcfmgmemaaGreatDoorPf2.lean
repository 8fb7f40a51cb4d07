/- A patch gives the result on the rows after the change: rows, numbers, sums, least and greatest values. -/
/- A patch gives the result on the rows after the change: the pairs of a join. -/
/- proof.Replay. -/
/- Records of a log replayed: the result at the later position. -/
/- proof.Make, for queries that are not joins. -/
import Derived.Test.YtkdgffcfmgmemaaGreatDoorEz
import Derived.Test.YtkdgffcfmgmemaaGreatDoorPr5
import Derived.Test.YtkdgffcfmgmemaaGreatDoorLg11
import Derived.Test.YtkdgffcfmgmemaaGreatDoorTk1
set_option linter.unusedVariables false
set_option linter.unusedSimpArgs false
namespace Go.Proofs.YtkdgffcfmgmemaaGreatDoor
open Go.Proofs.Tryz
open Go Go.RowKit Gw
set_option maxRecDepth 100000
attribute [local irreducible] Gw.At Gw.Nx Gw.Ops
theorem NH{rs:List AQ}(hs:BJ rs):rs.Nodup:=hs.imp (by
 intro a b h e;subst e;unfold AQ.lt2 at h;omega)
theorem NL{q:QM}(hq:BN q)(rs:List AQ)(x:AQ):x∈CK rs q↔x∈rs∧inQ q x=true:=by rw [(Gt hq rs).mem_iff,wF]
theorem QC{q:QM}(hq:BN q){rs:List AQ}(hs:BJ rs):(CK rs q).Nodup:=(Gt hq rs).nodup_iff.2 ((NH hs).filter _)
theorem QB{q:QM}(hq:BN q){rs o:List AQ}(hs:BJ rs)(hn:o.Nodup)(hm:∀x,x∈o↔x∈rs∧inQ q x=true)(h2:o.Pairwise (leV q.cl.toNat)):o=CK rs q:=by
 have h:=Gt hq rs;refine MU hs (f:=inQ q) (t:=q.tb) (fun r h9=>(of_decide_eq_true h9).1) ?_ h h2 (Ed hs _ _ _ _);exact (xQ hn ((NH hs).filter _)).2 fun x=>by rw [hm,wF]
theorem NZ{q:QM}{b:Bool}{x y:AQ}(h:I8 q b x=some y):y=x∧b=true∧inQ q y=true:=by
 unfold I8 at h;split at h
 · rename_i h9
   rw [uP]at h9;injection h with h
   subst h;exact ⟨rfl,h9⟩
 · cases h
theorem jL{q:QM}{b:Bool}{x:AQ}(h:I8 q b x=none)(hh:b=true):inQ q x=false:=by
 unfold I8 at h;rw [hh,yA]at h;split at h
 · cases h
 · simp_all
theorem Pt{q:QM}(hq:BN q)(y x:AQ):JJ q y x=true↔DZ y q.cl.toNat<DZ x q.cl.toNat∨(DZ x q.cl.toNat=DZ y q.cl.toNat∧y.k<x.k):=by
 have hc:=hq.2.1;have e:∀r,Bg r q.cl=DZ r q.cl.toNat:=fun r=>by
  have:=MS r q.cl.toNat (by omega);rwa [show((q.cl.toNat:Nat):Int)=q.cl by omega]at this
 unfold JJ;rw [e,e,xK,uP,decide_eq_true_eq,decide_eq_true_eq,decide_eq_true_eq]
theorem qP{q:QM}(hq:BN q){y x:AQ}(h:JJ q y x=false):leV q.cl.toNat x y:=by
 have h1:=Pt hq y x;rw [h]at h1;unfold leV;have:¬(DZ y q.cl.toNat<DZ x q.cl.toNat∨(DZ x q.cl.toNat=DZ y q.cl.toNat∧y.k<x.k)):=fun h9=>by cases h1.2 h9
 omega
theorem qQ{q:QM}(hq:BN q){y x:AQ}(h:JJ q y x=true):leV q.cl.toNat y x:=by
 have:=(Pt hq y x).1 h;unfold leV;omega
theorem Tv{q:QM}(hq:BN q){L:List AQ}(hL:L.Pairwise (leV q.cl.toNat))(y:AQ):∃A B,L=A++B∧Pb (JJ q y) L y=A++[y]++B∧(∀x∈A,JJ q y x=false)∧(∀x∈B,JJ q y x=true):=by
 cases h:L.findIdx? (JJ q y)with
 |none=>
  refine ⟨L,[],by simp,?_,wY.1 h,by simp⟩;unfold Pb;rw [h];simp
 |some i=>
  obtain ⟨h1,h2,h3⟩:=vS.1 h;refine ⟨L.take i,L.drop i,(uw i L).symm,?_,fun x hx=>?_,fun x hx=>?_⟩
  · unfold Pb
    rw [h];rfl
  · obtain ⟨j,hj⟩:=uq hx
    rw [uz]at hj;split at hj
    · rename_i hji
      obtain ⟨h4,rfl⟩:=tu.1 hj;simpa using h3 j hji
    · cases hj
  · have h5:=hL.sublist (List.drop_sublist i L)
    rw [vY h1]at hx h5;rcases uV.1 hx with rfl|hx
    · exact h2
    · have h6:=(wS.1 h5).1 x hx
      have h7:=(Pt hq y _).1 h2;rw [Pt hq];unfold leV at h6;omega
theorem We(pd:AQ→Bool)(L:List AQ)(y:AQ):(Pb pd L y).Perm (y::L):=by
 unfold Pb;simp only [uF,uo];refine ul.trans ?_;rw [uw]
theorem YT{q:QM}(hq:BN q){L:List AQ}(hL:L.Pairwise (leV q.cl.toNat))(y:AQ):(Pb (JJ q y) L y).Pairwise (leV q.cl.toNat):=by
 obtain ⟨A,B,e,e2,hA,hB⟩:=Tv hq hL y;rw [e2];rw [e]at hL;obtain ⟨h1,h2,h3⟩:=vR.1 hL;rw [uF];refine vR.2 ⟨h1,wS.2 ⟨fun x hx=>qQ hq (hB x hx),h2⟩,fun a ha b hb=>?_⟩;rcases uV.1 hb with rfl|hb
 · exact qP hq (hA a ha)
 · exact h3 a ha b hb
theorem qE(c:Chg)(x:AQ):JF c x=true↔x.is c.t c.k:=by
 unfold JF AQ.is;rw [uP,decide_eq_true_eq,decide_eq_true_eq]
theorem Qb{q:QM}(hq:BN q){rs:List AQ}{c:Chg}(hs:BJ rs)(hf:Fh rs c):Dt q c (CK rs q)=CK (EL rs c) q:=by
 have hL:((CK rs q).filter fun x=>!JF c x).Pairwise (leV q.cl.toNat):=(Ed hs _ _ _ _).sublist zk;have hN:((CK rs q).filter fun x=>!JF c x).Nodup:=(QC hq hs).filter _
 have hM:∀x,x∈((CK rs q).filter fun x=>!JF c x)↔(x∈rs∧¬x.is c.t c.k)∧inQ q x=true:=fun x=>by
  rw [wF,NL hq,wQ,←Bool.not_eq_true,qE];constructor
  · rintro ⟨⟨a,b⟩,d⟩;exact ⟨⟨a,d⟩,b⟩
  · rintro ⟨⟨a,d⟩,b⟩;exact ⟨⟨a,b⟩,d⟩
 unfold Dt;cases ha:afQ q c with
 |none=>
  refine QB hq (J6 hs hf) hN (fun x=>?_) hL;rw [hM,Fb hs hf];constructor
  · rintro ⟨a,b⟩;exact ⟨.inl a,b⟩
  · rintro ⟨a|⟨a,rfl⟩,b⟩
    · exact ⟨a,b⟩
    · rw [jL ha a]at b;cases b
 |some y=>
  obtain ⟨hy,hh,hi⟩:=NZ ha;have hyn:y∉((CK rs q).filter fun x=>!JF c x):=fun h=>((hM y).1 h).1.2 (by rw [hy];exact ⟨rfl,rfl⟩)
  refine QB hq (J6 hs hf) ((We _ _ y).nodup_iff.2 (yF.2 ⟨hyn,hN⟩)) (fun x=>?_) (YT hq hL y);rw [(We _ _ y).mem_iff,uV,hM,Fb hs hf];constructor
  · rintro (rfl|⟨a,b⟩)
    · exact ⟨.inr ⟨hh,hy⟩,hi⟩
    · exact ⟨.inl a,b⟩
  · rintro ⟨a|⟨a,e⟩,b⟩
    · exact .inr ⟨a,b⟩
    · exact .inl (e.trans hy.symm)
theorem X5(lt:Int→Int→Bool)(hlt:∀a b c,lt b a=false→lt c b=false→lt c a=false)(hirr:∀a,lt a a=false)(hasy:∀a b,lt a b=true→lt b a=false)(htot:∀a b,lt a b=false→lt b a=false→a=b){l:List Int}{x:Int}(hx:x∈l)(h:∀y∈l,lt y x=false):EC lt l=⟨[],x,true⟩:=by
 match l,hx,h with
 |z::l,hx,h=>
  obtain ⟨x',a1,a2,a3⟩:=Iy lt hlt hirr hasy z l;rw [a3,htot x x' (a2 x hx) (h x' a1)]
theorem kW(lt:Int→Int→Bool)(l:List Int)(n:Int):EC lt (l++[n])=⟨(EC lt l).rows,if !(EC lt l).fnd||lt n (EC lt l).val then n else(EC lt l).val,true⟩:=by
 unfold EC;rw [wW];rfl
theorem fD(lt:Int→Int→Bool)(hlt:∀a b c,lt b a=false→lt c b=false→lt c a=false)(hirr:∀a,lt a a=false)(hasy:∀a b,lt a b=true→lt b a=false)(htot:∀a b,lt a b=false→lt b a=false→a=b)(X:List Int)(b a:Option Int)
 (h:(G7 lt b.isSome a.isSome (b.getD 0) (a.getD 0) (EC lt (X++b.toList))).2=true):(G7 lt b.isSome a.isSome (b.getD 0) (a.getD 0) (EC lt (X++b.toList))).1=EC lt (X++a.toList):=by
 have hadd:∀r:CJ,r=EC lt X→(if a.isSome then((⟨r.rows,if !r.fnd||lt (a.getD 0) r.val then a.getD 0 else r.val,true⟩:CJ),true)else(r,true)).1=EC lt (X++a.toList):=fun r hr=>by
  subst hr;cases a with
  |none=>simp
  |some n=>rw [AA2,kW];rfl
 cases b with
 |none=>
  have e:EC lt (X++(none:Option Int).toList)=EC lt X:=by simp
  rw [e]at h⊢;exact hadd _ rfl
 |some o=>
  have hne:∃x∈X++[o],(∀y∈X++[o],lt y x=false)∧EC lt (X++[o])=⟨[],x,true⟩:=by
   cases hx:X++[o]with
   |nil=>simp at hx
   |cons z l=>exact Iy lt hlt hirr hasy z l
  obtain ⟨x,h1,h2,h3⟩:=hne;rw [AA2]at h⊢;rw [h3]at h⊢;unfold G7 at h⊢;simp only [Option.isSome_some,yZ,yA,xD,zR]at h⊢;cases hxo:lt x o with
  |false=>
   rw [hxo]at h;simp only [yM,if_true]at h⊢;have hox:=h2 o (by simp)
   have exo:=htot x o hxo hox;subst exo;cases a with
   |none=>simp at h
   |some n=>
    simp only [Option.isSome_some,yZ,yA,yo,wQ]at h;rw [AA2,X5 lt hlt hirr hasy htot (x:=n) (by simp) fun y hy=>?_]
    · rfl
    · rcases uQ.1 hy with hy|hy
      · exact hlt n x y h (h2 y (by simp [hy]))
      · rw [uL.1 hy];exact hirr n
  |true=>
   simp only [xD,vN,if_false];have hxX:x∈X:=by
    rcases uQ.1 h1 with h9|h9
    · exact h9
    · rw [uL.1 h9,hirr]at hxo;cases hxo
   have e:(⟨[],x,true⟩:CJ)=EC lt X:=(X5 lt hlt hirr hasy htot hxX fun y hy=>h2 y (by simp [hy])).symm;have:=hadd _ e
   simpa using this
theorem Nb(q:QM)(a b:List AQ):Cb q (a++b)=Cb q a++Cb q b:=uW
theorem WP(q:QM)(o:Option AQ):Cb q o.toList=(o.map fun r=>Bg r q.bq).toList:=by cases o<;>rfl
theorem YK(q:QM)(o:Option AQ):mQ q o=(o.map fun r=>Bg r q.bq).getD 0:=by cases o<;>rfl
theorem aK(q:QM)(o:Option AQ):o.isSome=(o.map fun r=>Bg r q.bq).isSome:=by cases o<;>rfl
theorem mH(o:Option Int):Jg o.toList=o.getD 0:=by
 cases o with
 |none=>rfl
 |some x=>show x+0=x;omega
theorem WE{q:QM}(hq:BN q){rs:List AQ}{c:Chg}(hs:BJ rs)(hf:Fh rs c)(h7:q.kd≠7)(ht:Dx q c=true)(h:(Bv q c (CV rs q)).2=true):(Bv q c (CV rs q)).1=CV (EL rs c) q:=by
 obtain ⟨A,B,e1,e2⟩:=OL hf;have f1:rs.filter (inQ q)=A.filter (inQ q)++(bfQ q c).toList++B.filter (inQ q):=by
  conv=>lhs;rw [e1]
  rw [vH,vH,Qt]
 have f2:(EL rs c).filter (inQ q)=A.filter (inQ q)++(afQ q c).toList++B.filter (inQ q):=by
  rw [e2,vH,vH,Qw]
 have p1:=Gt hq rs;have p2:=Gt hq (EL rs c)
 rw [f1]at p1;rw [f2]at p2;have hk:=hq.2.2.2
 have l1:=p1.length_eq;have l2:=p2.length_eq
 simp only [u6]at l1 l2;have m1:(Cb q (CK rs q)).Perm ((Cb q (A.filter (inQ q))++Cb q (B.filter (inQ q)))++((bfQ q c).map fun r=>Bg r q.bq).toList):=by
  rw [←WP,←Nb,←Nb];refine (p1.map _).trans (List.Perm.map _ ?_);simp only [uF];exact wu _ vF
 have m2:(Cb q (CK (EL rs c) q)).Perm ((Cb q (A.filter (inQ q))++Cb q (B.filter (inQ q)))++((afQ q c).map fun r=>Bg r q.bq).toList):=by
  rw [←WP,←Nb,←Nb];refine (p2.map _).trans (List.Perm.map _ ?_);simp only [uF];exact wu _ vF
 have hx:∀lt:Int→Int→Bool,(∀a b c,lt b a=false→lt c b=false→lt c a=false)→(∀a,lt a a=false)→(∀a b,lt a b=true→lt b a=false)→(∀a b,lt a b=false→lt b a=false→a=b)→(G7 lt (bfQ q c).isSome (afQ q c).isSome (mQ q (bfQ q c)) (mQ q (afQ q c)) (EC lt (Cb q (CK rs q)))).2=true→(G7 lt (bfQ q c).isSome (afQ q c).isSome (mQ q (bfQ q c)) (mQ q (afQ q c)) (EC lt (Cb q (CK rs q)))).1=EC lt (Cb q (CK (EL rs c) q)):=fun lt a1 a2 a3 a4 h9=>by
  rw [Nj lt a1 a2 a3 a4 (fun y=>m1.mem_iff),YK,YK,aK,aK]at h9⊢;rw [Nj lt a1 a2 a3 a4 (fun y=>m2.mem_iff)];exact fD lt a1 a2 a3 a4 _ _ _ h9
 unfold Bv CV F3 at h⊢;unfold Dx at ht;rcases (by omega:(q.kd=1∨q.kd=2)∨q.kd=3∨q.kd=4∨q.kd=5∨q.kd=6)with h8|h8|h8|h8|h8
 · have g3:¬q.kd=3:=by omega
   have g4:¬q.kd=4:=by omega
   have g5:¬q.kd=5:=by omega
   have g6:¬q.kd=6:=by omega
   simp only [if_pos h8,g3,g4,g5,g6,h7,if_false,Qb hq hs hf]
 · have g2:¬(q.kd=1∨q.kd=2):=by omega
   simp only [if_neg g2,if_pos h8]at ht⊢;unfold WO at ht;cases hb:bfQ q c<;>cases ha:afQ q c<;>rw [hb,ha]at ht<;>rw [hb]at l1<;>rw [ha]at l2<;>simp at ht l1 l2⊢<;>omega
 · have g2:¬(q.kd=1∨q.kd=2):=by omega
   have g3:¬q.kd=3:=by omega
   simp only [if_neg g2,g3,if_pos h8,if_false];have s1:=Li m1
   have s2:=Li m2;rw [VT,mH,←YK]at s1 s2;have g:∀l,Kr l=Jg l:=fun l=>by unfold Kr;rw [M4];omega
   simp only [g];congr 1;omega
 · have g2:¬(q.kd=1∨q.kd=2):=by omega
   have g3:¬q.kd=3:=by omega
   have g4:¬q.kd=4:=by omega
   simp only [if_neg g2,g3,g4,if_pos h8,if_false]at h⊢;exact hx _ (fun a b c h1 h2=>by simp only [decide_eq_false_iff_not]at*;omega) (fun a=>by simp) (fun a b h=>by simp only [decide_eq_true_eq,decide_eq_false_iff_not]at*;omega) (fun a b h1 h2=>by simp only [decide_eq_false_iff_not]at*;omega) h
 · have g2:¬(q.kd=1∨q.kd=2):=by omega
   have g3:¬q.kd=3:=by omega
   have g4:¬q.kd=4:=by omega
   have g5:¬q.kd=5:=by omega
   simp only [if_neg g2,g3,g4,g5,if_pos h8,if_false]at h⊢;exact hx _ (fun a b c h1 h2=>by simp only [decide_eq_false_iff_not]at*;omega) (fun a=>by simp) (fun a b h=>by simp only [decide_eq_true_eq,decide_eq_false_iff_not]at*;omega) (fun a b h1 h2=>by simp only [decide_eq_false_iff_not]at*;omega) h
theorem FR{q:QM}{rs:List AQ}(hs:BJ rs)(k:Int)(x:AQ):Db q (FN rs q.ot) k=some x↔x∈rs∧x.is q.ot k:=by
 have hu:∀a∈rs,∀b∈rs,a.is q.ot k→b.is q.ot k→a=b:=fun a ha b hb h1 h2=>by
  have e1:=K5 hs ha h1;have e2:=K5 hs hb h2
  rw [e1]at e2;injection e2
 have hin:∀y,y∈FN rs q.ot∧decide (y.t=q.ot∧y.k=k)=true↔y∈rs∧y.is q.ot k:=fun y=>by
  unfold FN inT AQ.is;rw [wF,decide_eq_true_eq,decide_eq_true_eq];constructor
  · rintro ⟨⟨a,_⟩,b⟩;exact ⟨a,b⟩
  · rintro ⟨a,b⟩;exact ⟨⟨a,b.1⟩,b⟩
 unfold Db;constructor
 · intro h
   exact (hin x).1 ⟨yE h,by simpa using zf (p:=fun x:AQ=>decide (x.t=q.ot∧x.k=k)) h⟩
 · intro h
   cases hf:(FN rs q.ot).find? fun x=>decide (x.t=q.ot∧x.k=k)with
   |none=>
    have:=zF.1 hf x ((hin x).2 h).1;exact absurd ((hin x).2 h).2 this
   |some y=>
    have h2:=(hin y).1 ⟨yE hf,by simpa using zf (p:=fun x:AQ=>decide (x.t=q.ot∧x.k=k)) hf⟩;rw [hu y h2.1 x h.1 h2.2 h.2]
def prQ(rs:List AQ)(q:QM)(r:AQ):Option BX:=(Db q (FN rs q.ot) (Bg r q.bq)).map fun x=>⟨r,x⟩
def rC(rs:List AQ)(q:QM):List BX:=(CK rs q).filterMap (prQ rs q)
theorem WY(rs:List AQ)(q:QM):∀l:List AQ,IY q l (FN rs q.ot)=DT (l.filterMap (prQ rs q))
 |[]=>rfl
 |r::l=>by
  have h:=WY rs q l;unfold IY at h⊢;rw [vE,h,yh];unfold IV prQ;cases Db q (FN rs q.ot) (Bg r q.bq)<;>rfl
theorem Y9(ps:List BX):Ei (DT ps)=ps:=by
 have hl:(DT ps).length=2*ps.length:=HY ps;have hat:∀(ps:List BX) (k:Nat) (p:BX),ps[k]?=some p→(DT ps)[2*k]?=some p.l∧(DT ps)[2*k+1]?=some p.r:=by
  intro ps;induction ps with
  |nil=>intro k p h;cases h
  |cons a ps ih=>
   intro k p h;have e:DT (a::ps)=a.l::a.r::DT ps:=rfl
   rw [e];cases k with
   |zero=>injection h with h;subst h;exact ⟨rfl,rfl⟩
   |succ k=>
    have:=ih k p h;rw [show 2*(k+1)=2*k+2 by omega];exact this
 apply wR;intro k;have hlen:(Ei (DT ps)).length=ps.length:=by rw [Jt];omega
 rcases uU k ps.length with h|h
 · obtain ⟨h1,h2⟩:=hat ps k _ (tq h)
   unfold Ei;rw [uO,xu (by omega),wE,uy,uy,h1,h2,tq h];rfl
 · rw [vM (by omega),vM h]
theorem mr{α:Type}{a b:Option α}(h:∀x,a=some x↔b=some x):a=b:=Option.ext h
theorem TH{rs:List AQ}{q:QM}{r:AQ}{p:BX}(h:prQ rs q r=some p):p.l=r∧Db q (FN rs q.ot) (Bg r q.bq)=some p.r:=by
 unfold prQ at h;cases hp:Db q (FN rs q.ot) (Bg r q.bq)with
 |none=>rw [hp]at h;cases h
 |some x=>rw [hp]at h;injection h with h;subst h;exact ⟨rfl,rfl⟩
theorem RD{α β:Type}{f g:α→Option β}:∀{l:List α},(∀x∈l,f x=g x)→l.filterMap f=l.filterMap g
 |[],_=>rfl
 |x::l,h=>by rw [yh,yh,h x (by simp),RD fun y hy=>h y (by simp [hy])]
theorem MI{α β γ:Type}(f:α→Option β)(g:β→Option γ)(h:α→Option γ)(l:List α)(e:∀x∈l,(f x).bind g=h x):(l.filterMap f).filterMap g=l.filterMap h:=by
 rw [yu];exact RD e
theorem kT(pd:BX→Bool)(A B:List BX)(y:BX)(hA:∀x∈A,pd x=false)(hB:∀x∈B,pd x=true):Nc pd (A++B) y=A++[y]++B:=by
 have e:((A++B).findIdx? pd).getD (A++B).length=A.length:=by
  rw [List.findIdx?_append,wY.2 hA];cases B with
  |nil=>simp
  |cons b B=>rw [List.findIdx?_cons,hB b (by simp)];simp
 unfold Nc;rw [e];simp
theorem WC{q:QM}(hq:BN q){rs:List AQ}{c:Chg}(hs:BJ rs)(hf:Fh rs c)(h7:q.kd=7)(ht:Dx q c=true)(h:(Bv q c (CV rs q)).2=true):(Bv q c (CV rs q)).1=CV (EL rs c) q:=by
 have hs2:=J6 hs hf;have hev:∀rs,CV rs q=⟨DT (rC rs q),0,false⟩:=fun rs=>by
  unfold CV F3;simp only [show¬q.kd=3 by omega,show¬q.kd=4 by omega,show¬q.kd=5 by omega,show¬q.kd=6 by omega,h7,if_true,if_false];rw [WY];rfl
 have hpt:∀r,Bv q c r=D7 q c r:=fun r=>by
  unfold Bv;simp only [show¬(q.kd=1∨q.kd=2) by omega,show¬q.kd=3 by omega,show¬q.kd=4 by omega,show¬q.kd=5 by omega,show¬q.kd=6 by omega,if_false]
 have htq:VG q c=true∨c.t=q.ot:=by
  unfold Dx at ht;simp only [show¬(q.kd=1∨q.kd=2) by omega,show¬q.kd=3 by omega,show¬q.kd=4 by omega,show¬(q.kd=5∨q.kd=6) by omega,if_false,xK,decide_eq_true_eq]at ht;exact ht
 rw [hpt,hev]at h⊢;rw [hev];unfold D7 at h⊢;split
 · rename_i h9;rw [if_pos h9]at h;cases h
 rename_i hto;rw [if_neg hto]at h;simp only [Y9]at h⊢;congr 2;have hsame:c.t≠q.tb→CK (EL rs c) q=CK rs q:=fun hne=>by
  refine (QB hq hs2 (QC hq hs) (fun x=>?_) (Ed hs _ _ _ _)).symm;rw [NL hq,Fb hs hf];constructor
  · rintro ⟨a,b⟩
    exact ⟨.inl ⟨a,fun h9=>hne (h9.1.symm.trans (of_decide_eq_true b).1)⟩,b⟩
  · rintro ⟨⟨a,_⟩|⟨a,rfl⟩,b⟩
    · exact ⟨a,b⟩
    · exact absurd (of_decide_eq_true b).1 hne
 unfold jnT rC at h⊢;by_cases hot:c.t=q.ot
 · rw [if_pos hot]at h⊢
   rw [hsame (by omega)];have hpart:∀k,Db q (FN (EL rs c) q.ot) k=if k=c.k then(if c.has then some ⟨c.t,c.k,c.n⟩else none)else Db q (FN rs q.ot) k:=fun k=>by
    apply mr;intro x;rw [FR hs2,Fb hs hf];unfold AQ.is;split
    · rename_i hk
      split
      · rename_i hh
        rw [Option.some_inj];constructor
        · rintro ⟨⟨_,a⟩|⟨_,rfl⟩,b,d⟩
          · exact absurd ⟨b.trans hot.symm,d.trans hk⟩ a
          · rfl
        · rintro rfl;exact ⟨.inr ⟨hh,rfl⟩,hot,hk.symm⟩
      · rename_i hh
        constructor
        · rintro ⟨⟨_,a⟩|⟨a,_⟩,b,d⟩
          · exact absurd ⟨b.trans hot.symm,d.trans hk⟩ a
          · exact absurd a hh
        · intro h9;cases h9
    · rename_i hk
      rw [FR hs];unfold AQ.is;constructor
      · rintro ⟨⟨a,_⟩|⟨_,rfl⟩,b⟩
        · exact ⟨a,b⟩
        · exact absurd b.2.symm hk
      · rintro ⟨a,b,d⟩
        exact ⟨.inl ⟨a,fun h9=>hk (d.symm.trans h9.2)⟩,b,d⟩
   have hold:c.had=true→∃x,Db q (FN rs q.ot) c.k=some x:=fun hh=>by
    obtain ⟨r,hr,hi,_⟩:=JH (hf.1.trans hh);exact ⟨r,(FR hs c.k r).2 ⟨hr,by rw [←hot];exact hi⟩⟩
   have hkey:∀{k x},Db q (FN rs q.ot) k=some x→x.k=k:=fun h9=>((FR hs _ _).1 h9).2.2;split
   · rename_i hh
     rw [if_pos hh]at h;obtain ⟨x0,hx0⟩:=hold h;rw [←List.filterMap_eq_map];refine MI _ _ _ _ fun r _=>?_;unfold prQ;rw [hpart,hh];by_cases hk:Bg r q.bq=c.k
     · rw [hk,hx0,if_pos rfl]
       simp only [wE,vL,Function.comp_apply,Gi,hkey hx0,decide_true,if_true]
     · rw [if_neg hk]
       cases hp:Db q (FN rs q.ot) (Bg r q.bq)with
       |none=>rfl
       |some x=>simp only [wE,vL,Function.comp_apply,Gi,hkey hp,hk,decide_false,vN,if_false]
   · rename_i hh
     rw [if_neg hh]at h;rw [←yw];refine MI _ _ _ _ fun r _=>?_;unfold prQ;rw [hpart,if_neg hh];by_cases hk:Bg r q.bq=c.k
     · rw [hk,if_pos rfl]
       obtain ⟨x0,hx0⟩:=hold h;rw [hx0];simp [Option.guard,Gi,hkey hx0]
     · rw [if_neg hk]
       cases hp:Db q (FN rs q.ot) (Bg r q.bq)with
       |none=>rfl
       |some x=>simp [Option.guard,Gi,hkey hp,hk]
 · rw [if_neg hot]at h⊢
   have hg:∀r,prQ (EL rs c) q r=prQ rs q r:=fun r=>by unfold prQ;rw [ZQ hf hot]
   have hgf:prQ (EL rs c) q=prQ rs q:=funext hg;rw [hgf];have htb:c.t=q.tb:=by
    rcases htq with h9|h9
    · unfold VG at h9
      rw [xK]at h9;rcases h9 with h9|h9
      · obtain ⟨y,hy⟩:=xg.1 h9
        obtain ⟨e,_,hi⟩:=NZ hy;rw [e]at hi;exact (of_decide_eq_true hi).1
      · obtain ⟨y,hy⟩:=xg.1 h9
        obtain ⟨e,_,hi⟩:=NZ hy;rw [e]at hi;exact (of_decide_eq_true hi).1
    · exact absurd h9 hot
   have hrest:((CK rs q).filterMap (prQ rs q)).filter (fun p=>!Og c.k p)=((CK rs q).filter fun x=>!JF c x).filterMap (prQ rs q):=by
    rw [←yw,←yw,yu,yu];refine RD fun r hr=>?_;have hrt:r.t=c.t:=((of_decide_eq_true ((NL hq rs r).1 hr).2).1).trans htb.symm
    by_cases hk:r.k=c.k
    · cases hp:prQ rs q r with
      |none=>simp [Option.guard,JF,hrt,hk]
      |some p=>simp [Option.guard,JF,hrt,hk,Og,(TH hp).1]
    · cases hp:prQ rs q r with
      |none=>simp [Option.guard,JF,hrt,hk,hp]
      |some p=>simp [Option.guard,JF,hrt,hk,Og,(TH hp).1,hp]
   rw [hrest]at h⊢;have hscan:=Qb hq hs hf
   rw [←hscan];unfold Dt;cases ha:afQ q c with
   |none=>rfl
   |some y=>
    rw [ha]at h;simp only [ha]at h⊢;have hm:mQ q (some y)=Bg y q.bq:=rfl
    rw [hm]at h⊢;have hL:((CK rs q).filter fun x=>!JF c x).Pairwise (leV q.cl.toNat):=(Ed hs _ _ _ _).sublist zk
    obtain ⟨A,B,e1,e2,hA,hB⟩:=Tv hq hL y;rw [e2];cases hfi:((CK rs q).filterMap (prQ rs q)).findIdx? (Gi (Bg y q.bq))with
    |none=>
     have hi:Ga (Gi (Bg y q.bq)) ((CK rs q).filterMap (prQ rs q))=-1:=by unfold Ga;rw [hfi];rfl
     rw [hi,if_pos (by decide)]at h⊢;rw [uP,decide_eq_true_eq]at h;obtain ⟨b,hb⟩:=xg.1 h.1;obtain ⟨eb,hbh,hbi⟩:=NZ hb;have h9:=h.2
     rw [hb]at h9;have hbm:b∈CK rs q:=by
      refine (NL hq rs b).2 ⟨?_,hbi⟩;obtain ⟨r,hr,hi,_,he⟩:=JH (hf.1.trans hbh);have hv:=hf.2 (hf.1.trans hbh)
      rw [he]at hv;have:b=r:=by
       rw [eb];obtain ⟨t,k,v⟩:=r;obtain ⟨h5,h6⟩:=hi;simp only at h5 h6 hv;subst h5 h6 hv;rfl
      rw [this];exact hr
     have hgb:prQ rs q b=none:=by
      cases hp:prQ rs q b with
      |none=>rfl
      |some p=>
       have h10:=wY.1 hfi p (xW.2 ⟨b,hbm,hp⟩);have h11:=(FR hs _ _).1 (TH hp).2
       unfold Gi at h10;rw [decide_eq_false_iff_not]at h10;exact absurd (h11.2.2.trans h9) h10
     have hgy:prQ rs q y=none:=by
      unfold prQ at hgb⊢;rw [show Bg y q.bq=Bg b q.bq from h9.symm];cases hp:Db q (FN rs q.ot) (Bg b q.bq)with
      |none=>rfl
      |some x=>rw [hp]at hgb;cases hgb
     rw [e1,yD,yD,yD];simp [hgy]
    |some i=>
     obtain ⟨h1,h2,h3⟩:=vS.1 hfi;have hi:Ga (Gi (Bg y q.bq)) ((CK rs q).filterMap (prQ rs q))=(i:Int):=by unfold Ga;rw [hfi];rfl
     rw [hi,if_neg (by omega)]at h⊢;rw [wI,uy,tq h1,yZ];obtain ⟨r,hr,hp⟩:=xW.1 (AA8 h1);generalize ((CK rs q).filterMap (prQ rs q))[i]=p at h2 hp;have h4:=(FR hs _ _).1 (TH hp).2
     unfold Gi at h2;rw [decide_eq_true_eq]at h2;have hgy:prQ rs q y=some ⟨y,p.r⟩:=by
      unfold prQ;rw [(FR hs (Bg y q.bq) p.r).2 ⟨h4.1,h4.2.1,h2⟩];rfl
     rw [e1,yD,kT]
     · simp [hgy]
     · intro x hx
       obtain ⟨r9,hr9,hp9⟩:=xW.1 hx;rw [(TH hp9).1];exact hA r9 hr9
     · intro x hx
       obtain ⟨r9,hr9,hp9⟩:=xW.1 hx;rw [(TH hp9).1];exact hB r9 hr9
theorem Y4{q:QM}(hq:BN q){rs:List AQ}{c:Chg}(hs:BJ rs)(hf:Fh rs c)(ht:Dx q c=true)(h:(Bv q c (CV rs q)).2=true):(Bv q c (CV rs q)).1=CV (EL rs c) q:=by
 by_cases h7:q.kd=7
 · exact WC hq hs hf h7 ht h
 · exact WE hq hs hf h7 ht h
def En(q:QM)(base:Int):Nat→CJ×Int→List Bq→Option (CJ×Int)
 |_,st,[]=>some st
 |i,st,x::l=>if(Co q st.1 x.cs).2.2=true∧base≤9223372036854775806 -(i:Int)∧x.p=base+1+(i:Int)then En q base (i+1) ((Co q st.1 x.cs).1,if(Co q st.1 x.cs).2.1 then x.p else st.2) l else none
theorem Kv(q:QM)(base:Int):∀(a:List Bq) (i:Nat) (st:CJ×Int) (b:List Bq),En q base i st (a++b)=(En q base i st a).bind fun st'=>En q base (i+a.length) st' b
 |[],i,st,b=>rfl
 |x::a,i,st,b=>by
  show(if(Co q st.1 x.cs).2.2=true∧base≤9223372036854775806 -(i:Int)∧x.p=base+1+(i:Int)then En q base (i+1) _ (a++b)else none)=(if(Co q st.1 x.cs).2.2=true∧base≤9223372036854775806 -(i:Int)∧x.p=base+1+(i:Int)then En q base (i+1) _ a else none).bind _;split
  · rw [Kv q base a (i+1) _ b,uJ,show i+(a.length+1)=i+1+a.length by omega]
  · rfl
theorem Ip{q:QM}{base:Int}{st sk:CJ×Int}{l:List Bq}{k:Nat}{x:Bq}(h:En q base 0 st (l.take k)=some sk)(hx:l[k]?=some x):En q base 0 st (l.take (k+1))=if(Co q sk.1 x.cs).2.2=true∧base≤9223372036854775806 -(k:Int)∧x.p=base+1+(k:Int)then some ((Co q sk.1 x.cs).1,if(Co q sk.1 x.cs).2.1 then x.p else sk.2)else none:=by
 have hk:=(tu.1 hx).1;rw [Bu hx,Kv,h,uD,wT (by omega),uX];rfl
theorem Ll{q:QM}{base:Int}{st:CJ×Int}{l:List Bq}{k:Nat}(h:En q base 0 st (l.take k)=none):En q base 0 st l=none:=by
 rw [←uw k l,Kv,h];rfl
def Br(q:QM)(r:CJ)(base:Int)(l:List Bq):CJ×Int×Bool:=match En q base 0 (r,base) l with
 |some st=>(st.1,st.2,true)
 |none=>(CJ.none,0,false)
theorem LY{q:QM}{r:CJ}{cs:List Chg}(h:(Co q r cs).2.2=true):IK q r cs=some (Co q r cs).1∧(Co q r cs).2.1=cs.any (Em q):=by
 unfold Co at*;split at h
 · rename_i h9;rw [h9];exact ⟨rfl,rfl⟩
 · cases h
theorem aA{q:QM}{base:Int}:∀(l:List Bq) (i:Nat) (st st':CJ×Int) (B:Int) (n:Nat),En q base i st l=some st'→(∀x∈l,x.cs.length≤1000)→(-B≤st.1.val∧st.1.val≤B)→0≤B→st.1.rows.length≤n→(-(B+2000000000000*(l.length:Int))≤st'.1.val∧st'.1.val≤B+2000000000000*(l.length:Int))∧st'.1.rows.length≤n+2000*l.length
 |[],i,st,st',B,n,h,hl,h1,h2,h3=>by
  unfold En at h;injection h with h
  subst h;simp only [vT];exact ⟨⟨by omega,by omega⟩,h3⟩
 |x::l,i,st,st',B,n,h,hl,h1,h2,h3=>by
  unfold En at h;split at h
  · rename_i h9
    have h4:=UQ _ _ _ B n (LY h9.1).1 h1 h2 h3;have h5:=hl x (by simp)
    have h6:=aA l (i+1) _ st' (B+2000000000000) (n+2000) h (fun y hy=>hl y (by simp [hy])) ⟨by simp only;omega,by simp only;omega⟩ (by omega) (by simp only;omega);rw [uJ];obtain ⟨⟨h7,h8⟩,h10⟩:=h6;refine ⟨⟨?_,?_⟩,by omega⟩<;>(push_cast;omega)
  · cases h
set_option maxHeartbeats 1000000 in
theorem FQ(q:QM)(hq:BN q)(base:Int)(hb:-9223372036854775808≤base∧base≤9223372036854775807){l:List Bq}{lv:Value}{ML:List AU}(hL:DW ML lv l)(hll:l.length≤1000)(hcs:∀x∈l,x.cs.length≤1000){r:CJ}{rv:Value}{A:List AU}(hr:E5 A rv r.rows)(hn:r.rows.length≤1000000)(hv:-1000000000000000000≤r.val∧r.val≤1000000000000000000):CQ Tryz.prog 36 #[.agg #[I4 q.kd,I4 q.tb,I4 q.cl,I4 q.lo,I4 q.hi,I4 q.bq,I4 q.ot],.agg #[rv,I4 r.val,.bool r.fnd],I4 base,lv] [A,ML] (fun w H'=>∃rv' s',w= .tuple #[.agg #[rv',I4 (Br q r base l).1.val,.bool (Br q r base l).1.fnd],I4 (Br q r base l).2.1,.bool (Br q r base l).2.2]∧BZ 5 113 rv' (Br q r base l).1.rows.length (Ae (Br q r base l).1.rows) s'∧H'=[s',A,ML]):=by
 have hml:=mL;obtain ⟨pv,cv,rfl,_⟩:=id hr;obtain ⟨pl,capl,rfl,⟨hlm,hlc⟩,hgl⟩:=id hL;refine Se func36 ntmps36 [0,1,2,3] ?_;intro u R;refine Zq<|Zg<|Ze (Bx #[I4 q.kd,I4 q.tb,I4 q.cl,I4 q.lo,I4 q.hi,I4 q.bq,I4 q.ot]) ?_;rintro _ _ ⟨bq,rfl,rfl⟩;refine Ze (Bx #[.slice pv r.rows.length cv,I4 r.val,.bool r.fnd]) ?_;rintro _ _ ⟨br,rfl,rfl⟩;refine Ze (Al zeroValue51 #[_,_,_]) ?_;rintro _ _ ⟨bo,rfl,rfl⟩;refine Za Y<|Za Y<|Z0<|Zx<|Zq<|Zg<|Zm Y<|Za Y<|Z0<|Zx<|Zq<|Zg<|Zh 0 underlying51 rfl rfl sizeOf45 Y<|Zl isAgg45 Y ?_;refine Zc [_] Y call94 Y rfl (Hw hr (by omega)) ?_;rintro _ _ ⟨_,⟨s1,h1,rfl⟩,rfl⟩;obtain ⟨g1,c1,rfl⟩:=h1.form;refine Zh 0 underlying51 rfl rfl sizeOf45 Y<|Xe (Zs sizeOf45 Y Y rfl (hi:=by first|omega|decide|(simp;done))) ?_;refine Z0<|Zx<|Zq<|Zq<|Zg<|Zm Y<|Zv (AV underlying28 Y)<|Zm Y<|Z0<|Zn [2,4,5,8,11,22,23,24] ?_;refine Zx<|AR<|Zb [11,24,2,4,5,8,22,23] ?_;refine BB (e0:=[(11,_),(24,_)]) (fun m e H=>∃(k:Nat) (rk:CJ×Int) (gk:Option Addr) (ck:Nat) (sk:List AU),m=l.length -k∧(k≤l.length∧En q base 0 (r,base) (l.take k)=some rk∧BZ 5 113 (.slice gk rk.1.rows.length ck) rk.1.rows.length (Ae rk.1.rows) sk)∧e=[(11,I4 rk.2),(24,I4 (k:Int))]∧H=[[(br,.cells #[.slice gk rk.1.rows.length ck,I4 rk.1.val,.bool rk.1.fnd] 51 (0,0))],sk]) (by exact ⟨0,(r,base),g1,c1,s1,rfl,⟨uK _,by rw [vI];rfl,h1⟩,rfl,rfl⟩) Wp ?_;rintro _ _ _ ⟨k,rk,gk,ck,sk,rfl,⟨hk,hrk,hsk⟩,rfl,rfl⟩;obtain ⟨hkv,hkn⟩:=aA (l.take k) 0 (r,base) rk 1000000000000000000 1000000 hrk (fun x hx=>hcs x (vQ hx)) hv (by omega) hn;have hkl:(l.take k).length=k:=by rw [uD];omega
 rw [hkl]at hkv hkn;have hUk:=Cz hsk (by omega)
 refine Zq<|Zg<|Zv (Av Y Y)<|Z0<|Zx<|Zq ?_;refine Aq Y (fun hlt=>?_) (fun hlt=>?_)
 ·
  obtain ⟨x,hx⟩:∃x,l[k]?=some x:=⟨_,tq hlt⟩;have hxc:=hcs x (uI hx)
  obtain ⟨hOx,g2,off2,cur2,T2,zz2,rfl,hm2,hsz2,hex2⟩:=hgl k x hx;refine AB<|Zx<|Zq<|AR<|Zq<|Zg<|Zm Y ?_;refine BO (Ac underlying28 sizeOf73 Y Y (by first|omega|decide|(simp;done))) ?_;refine Cm (cs:=[(g2,.cells cur2 T2 zz2)]) (by simp [hm2]) (AZ (cs:=#[I4 x.p,.slice x.q x.cs.length x.cap]) isAgg73 sizeOf73 Y (by omega) hex2) rfl rfl ?_;refine Ze (Al zeroValue73 #[_,_]) ?_;rintro _ _ ⟨bx,rfl,rfl⟩;refine Za Y<|Xe (Xw sizeOf73 #[I4 x.p,.slice x.q x.cs.length x.cap]) ?_;refine Z0<|Zx<|Zq<|Zg<|Zo Wh (Pa #[_,_,_,_,_,_,_] isAgg30 sizeOf30 Y) ?_;refine Zo Wh (Pa #[_,_,_] isAgg51 sizeOf51 Y) ?_;refine Zo Wh (Pa #[_,_] isAgg73 sizeOf73 Y) ?_;refine Zc [_,_,_] Y call95 Y rfl (Z9 q hq x.p x.q x.cap x.cs hOx hxc hUk (by omega) (by omega)) ?_;rintro _ _ ⟨_,⟨rv3,s3,rfl,h3,rfl⟩,rfl⟩;obtain ⟨g3,c3,rfl⟩:=h3.form;refine Zm Y<|Zd Y rfl<|Zd Y rfl<|Zd Y rfl<|Ze (Al zeroValue51 #[_,_,_]) ?_;rintro _ _ ⟨bn,rfl,rfl⟩;refine Xe (Xw sizeOf51 #[.slice g3 (Co q rk.1 x.cs).1.rows.length c3,I4 (Co q rk.1 x.cs).1.val,.bool (Co q rk.1 x.cs).1.fnd]) ?_;refine Za Y<|Za Y<|Z0<|Zn [2,4,5,8,11,12,13,14,15,16,22,23,24] ?_;refine Zx<|Zq<|Zq<|Zg<|Zm Y<|Zv (Cg Y)<|Zm Y ?_;refine Ak (t:=39) Y rfl (fun h1g=>?_) (fun h1g=>?_)
  ·
   have h1k:(Co q rk.1 x.cs).2.2=false:=by simpa using h1g
   refine A7 Y rfl<|A7 Y rfl<|A7 Y rfl<|A7 Y rfl<|Zv (AO Y Y)<|Zm Y<|A7 Y rfl<|A7 Y rfl<|A7 Y rfl<|A7 Y rfl<|A7 Y rfl<|A7 Y rfl<|A7 Y rfl<|Zv (AO Y Y)<|Z0<|Zn [2,4,5,8,11,13,14,15,22,23,24,53] ?_;refine Zx<|CP Y<|Zq<|Bf ?_;have e8:Br q r base l=(CJ.none,0,false):=by unfold Br;rw [Ll (k:=k+1) (by rw [Ip hrk hx,if_neg (by(rw [h1k];rintro ⟨h,_⟩;cases h;done))])]
   refine Zg<|Zv (BL (vs:=[]) (cs:=#[_,_,_]) Y (Ab (pl:=#[(0,1),(1,1),(2,1)]) zeroValue51 underlying51 (fun _=>by kernel_rfl) rfl)) ?_;refine Xe (Xw sizeOf51 _) ?_;refine Za Y<|Za Y<|Z0<|Zx<|AA<|Zt<|AX<|Zt<|Zt<|AX<|Zt ?_;refine Gv rfl results36 Y Wh (Ah isAgg51 sizeOf51 Wn (rfl)) Y Y (by exact ⟨.slice none 0 0,[],by rw [e8];rfl,by rw [e8];exact Ba 5 _,rfl⟩)
  have h1k:(Co q rk.1 x.cs).2.2=true:=by simpa using h1g
  refine Zf Y Y<|Zf Y Y ?_
  (refine Fg Y (Bi (m:=9223372036854775806) Y Y ?_ ?_) rfl rfl ?_;(focus (omega));(focus (omega)))
  refine Yg (Eu Y Y)<|Zv (AC Y Y)<|Zm Y ?_;refine Aj (t:=45) Y rfl (fun h2g=>?_) (fun h2g=>?_)
  ·
   refine A7 Y rfl<|A7 Y rfl<|A7 Y rfl<|A7 Y rfl<|A7 Y rfl<|A7 Y rfl<|A7 Y rfl<|Zv (AO Y Y)<|Z0<|Zn [2,4,5,8,11,13,14,15,22,23,24,53] ?_;refine Zx<|CP Y<|Zq<|Bf ?_;have e8:Br q r base l=(CJ.none,0,false):=by unfold Br;rw [Ll (k:=k+1) (by rw [Ip hrk hx,if_neg (by(rintro ⟨_,h8,h9⟩;omega))])]
   refine Zg<|Zv (BL (vs:=[]) (cs:=#[_,_,_]) Y (Ab (pl:=#[(0,1),(1,1),(2,1)]) zeroValue51 underlying51 (fun _=>by kernel_rfl) rfl)) ?_;refine Xe (Xw sizeOf51 _) ?_;refine Za Y<|Za Y<|Z0<|Zx<|AA<|Zt<|AX<|Zt<|Zt<|AX<|Zt ?_;refine Gv rfl results36 Y Wh (Ah isAgg51 sizeOf51 Wn (rfl)) Y Y (by exact ⟨.slice none 0 0,[],by rw [e8];rfl,by rw [e8];exact Ba 5 _,rfl⟩)
  refine Yf 0 underlying73 rfl rfl sizeOf3 Y<|Yl isAgg3 Y ?_;refine Zf Y Y ?_
  (refine Fg Y (JX Y Y (IntWalk.i64_in _ ?_)) rfl rfl ?_;(focus (omega)))
  refine Zf Y Y ?_
  (refine Fg Y (JX Y Y (IntWalk.i64_in _ ?_)) rfl rfl ?_;(focus (omega)))
  refine Yg (IX Y Y)<|Zv (AC Y Y)<|Z0<|Zn [2,4,5,8,11,13,14,15,22,23,24,53] ?_;refine Zx ?_;refine Aq Y (fun h3g=>?_) (fun h3g=>?_)
  ·
   refine Zq<|Bf ?_;have e8:Br q r base l=(CJ.none,0,false):=by unfold Br;rw [Ll (k:=k+1) (by rw [Ip hrk hx,if_neg (by(rintro ⟨_,h8,h9⟩;omega))])]
   refine Zg<|Zv (BL (vs:=[]) (cs:=#[_,_,_]) Y (Ab (pl:=#[(0,1),(1,1),(2,1)]) zeroValue51 underlying51 (fun _=>by kernel_rfl) rfl)) ?_;refine Xe (Xw sizeOf51 _) ?_;refine Za Y<|Za Y<|Z0<|Zx<|AA<|Zt<|AX<|Zt<|Zt<|AX<|Zt ?_;refine Gv rfl results36 Y Wh (Ah isAgg51 sizeOf51 Wn (rfl)) Y Y (by exact ⟨.slice none 0 0,[],by rw [e8];rfl,by rw [e8];exact Ba 5 _,rfl⟩)
  refine AB<|Zx<|Zq<|Zg<|Zo Wh (Pa #[_,_,_] isAgg51 sizeOf51 Y) ?_;refine Xe (Xw sizeOf51 _) ?_;refine Z0<|Zx<|Zq<|Zg<|Zm Y<|Z0<|Zx ?_;refine Ag Y (fun ht=>?_) (fun ht=>?_)
  ·
   refine Zg<|Zh 0 underlying73 rfl rfl sizeOf3 Y<|Zl isAgg3 Y ?_;refine Za Y<|Z0<|A8<|Zx<|Zg<|Ya (n:=1) Y Y<|Zm Y<|Z0<|Zn [11,24,2,4,5,8,22,23] ?_;refine Aa (e':=[(11,_),(24,_)]) (by exact ⟨k+1,((Co q rk.1 x.cs).1,x.p),g3,c3,s3,rfl,⟨by omega,by rw [Ip hrk hx,if_pos ⟨h1k,by omega,by omega⟩,ht];rfl,h3⟩,rfl,rfl⟩)
  refine AB<|A8<|Zx<|Zg<|Ya (n:=1) Y Y<|Zm Y<|Z0<|Zn [11,24,2,4,5,8,22,23] ?_;refine Aa (e':=[(11,_),(24,_)]) (by exact ⟨k+1,((Co q rk.1 x.cs).1,rk.2),g3,c3,s3,rfl,⟨by omega,by rw [Ip hrk hx,if_pos ⟨h1k,by omega,by omega⟩,ht];rfl,h3⟩,rfl,rfl⟩)
 have ek:k=l.length:=by omega
 subst ek;rw [ug]at hrk;have e8:Br q r base l=(rk.1,rk.2,true):=by unfold Br;rw [hrk]
 refine Aw<|Zt<|Zt<|AP<|Zx<|Zq<|Zg<|Zo Wh (Pa #[_,_,_] isAgg51 sizeOf51 Y) ?_;refine Zm Y<|Xe (Xw sizeOf51 _) ?_;refine Za Y<|Za Y<|Z0<|Zx<|AA ?_;refine Gv rfl results36 Y Wh (Ah isAgg51 sizeOf51 Wn (rfl)) Y Y (by exact ⟨.slice gk _ ck,sk,by rw [e8];rfl,by rw [e8];exact hsk,rfl⟩)
theorem bD{q:QM}(hq:BN q){rs:List AQ}{c:Chg}(hs:BJ rs)(hf:Fh rs c)(hok:c.ok)(h:(D5 q c (CV rs q)).2=true):(D5 q c (CV rs q)).1=CV (EL rs c) q:=by
 unfold D5 at h⊢;cases ht:Em q c with
 |false=>
  rw [if_neg (by decide)];unfold Em at ht;rw [decide_eq_true hok,yA]at ht;exact (kg hq hf ht).symm
 |true=>
  rw [ht,if_pos rfl]at h;rw [if_pos rfl];unfold Em at ht;rw [uP]at ht;split at h
  · rename_i h9
    rw [if_pos h9];exact Y4 hq hs hf ht.2 h9
  · cases h
theorem Sw{q:QM}(hq:BN q){rs:List AQ}{cs:List Chg}(hs:BJ rs)(ha:oJ cs)(hf:∀c∈cs,Fh rs c)(hok:∀c∈cs,c.ok):∀i,i≤cs.length→∀r,IK q (CV rs q) (cs.take i)=some r→r=CV (DN rs (cs.take i)) q
 |0,_,r,h=>by
  rw [vI]at h⊢;injection h with h
  exact h.symm
 |i+1,hi,r,h=>by
  obtain ⟨c,hc⟩:∃c,cs[i]?=some c:=⟨_,tq (by omega)⟩;obtain ⟨h1,h2⟩:=K6 hs ha hf i (by omega);cases hr:IK q (CV rs q) (cs.take i)with
  |none=>
   have:=OB (cs:=cs.take (i+1)) (k:=i) (q:=q) (r:=CV rs q) (by rw [xP,wT (by omega)];exact hr);rw [this]at h;cases h
  |some rk=>
   have e:=Sw hq hs ha hf hok i (by omega) rk hr;rw [Jn hr hc,e]at h;split at h
   · rename_i h9
     injection h with h
     rw [←h,EF rs cs i c hc];exact bD hq h1 (h2 i c (uG _) hc) (hok c (uI hc)) h9
   · cases h
theorem iL{q:QM}(hq:BN q){rs:List AQ}{p rp:Int}{cs:List Chg}(hs:BJ rs)(h:MQ rs p rp cs){r:CJ}(hr:IK q (CV rs q) cs=some r):r=CV (DN rs cs) q:=by
 have:=Sw hq hs (Ra h.ok.ord) h.fit (fun c hc=>by obtain ⟨i,hi⟩:=uq hc;exact h.ok.all i c hi) cs.length (uG _) r (by rw [ug];exact hr);rwa [ug]at this
def J3(q:QM)(x:Bq):Bool:=x.cs.any (Em q)
theorem KH{q:QM}{base b:Int}:∀(l:List Bq) (i j:Nat) (r:CJ) (s s2:Int),base+(i:Int)=b+(j:Int)→En q b j (r,s2) l=(En q base i (r,s) l).map fun st=>(st.1,if l.any (J3 q)then st.2 else s2)
 |[],i,j,r,s,s2,h=>rfl
 |x::l,i,j,r,s,s2,h=>by
  unfold En;by_cases hc:(Co q r x.cs).2.2=true∧base≤9223372036854775806 -(i:Int)∧x.p=base+1+(i:Int)
  · rw [if_pos hc,if_pos ⟨hc.1,by omega,by omega⟩]
    simp only;have ht:(Co q r x.cs).2.1=J3 q x:=(LY hc.1).2
    rw [KH (base:=base) (b:=b) l (i+1) (j+1) (Co q r x.cs).1 (if(Co q r x.cs).2.1 then x.p else s) _ (by push_cast;omega),ht,zQ];cases htx:J3 q x with
    |false=>rw [zR];rfl
    |true=>
     rw [Bool.true_or];simp only [if_true];cases hl:l.any (J3 q)with
     |true=>rfl
     |false=>
      have:=KH (q:=q) (base:=base) (b:=base) l (i+1) (i+1) (Co q r x.cs).1 x.p x.p rfl;rw [hl]at this;simp only [vN,if_false]at this⊢;rw [←this];cases En q base (i+1) ((Co q r x.cs).1,x.p) l<;>rfl
  · rw [if_neg hc,if_neg (fun h9=>hc ⟨h9.1,by omega,by omega⟩)]
    rfl
structure La(q:QM)(l:List Bq)(base k:Nat)(s:Int):Prop where
 le:(base:Int)≤s∧s≤((base+k:Nat):Int)
 at_:s≠(base:Int)→∃(j:Nat) (x:Bq),(j:Int)+1=s∧l[j]?=some x∧J3 q x=true
 no:∀(j:Nat) (x:Bq),s≤(j:Int)→j<base+k→l[j]?=some x→J3 q x=false
theorem Iq{q:QM}(hq:BN q){l:List Bq}(hl:DY l){base:Nat}(hb:base≤l.length):∀k,base+k≤l.length→∀st,En q (base:Int) 0 (CV (BU (l.take base)) q,(base:Int)) ((l.drop base).take k)=some st→st.1=CV (BU (l.take (base+k))) q∧La q l base k st.2
 |0,_,st,h=>by
  rw [vI]at h;injection h with h
  subst h;exact ⟨rfl,⟨by simp only;omega,fun h=>absurd rfl h,fun j x h1 h2=>by simp only at h1;omega⟩⟩
 |k+1,hk,st,h=>by
  obtain ⟨x,hx⟩:∃x,l[base+k]?=some x:=⟨_,tq (by omega)⟩;have hx2:(l.drop base)[k]?=some x:=by rw [vK];exact hx
  obtain ⟨ha,_⟩:=hl _ x hx;have hp:x.p=((base+k:Nat):Int)+1:=ha.pos
  cases hr:En q (base:Int) 0 (CV (BU (l.take base)) q,(base:Int)) ((l.drop base).take k)with
  |none=>
   have:=Ll (l:=(l.drop base).take (k+1)) (k:=k) (q:=q) (base:=(base:Int)) (st:=(CV (BU (l.take base)) q,(base:Int))) (by rw [xP,wT (by omega)];exact hr);rw [this]at h;cases h
  |some sk=>
   obtain ⟨e1,e2⟩:=Iq hq hl hb k (by omega) sk hr;rw [Ip hr hx2]at h;split at h
   · rename_i h9
     injection h with h
     subst h;have hA:=LY h9.1
     have h1:=(hl.rows (base+k) (by omega)).1;rw [e1]at hA;refine ⟨?_,?_⟩
     · have:=iL hq h1 ha hA.1
       rw [show base+(k+1)=base+k+1 by omega,Bu hx,FO,←this,e1]
     · have hT:(Co q sk.1 x.cs).2.1=J3 q x:=by rw [e1];exact hA.2
       simp only [hT];obtain ⟨⟨a1,a2⟩,a3,a4⟩:=e2;cases ht:J3 q x with
       |true=>
        simp only [if_true];refine ⟨by omega,fun _=>⟨base+k,x,hp.symm,hx,ht⟩,fun j y h5 h6=>by omega⟩
       |false=>
        simp only [vN,if_false];refine ⟨by push_cast at a2⊢;omega,a3,fun j y h5 h6 h7=>?_⟩;rcases uU j (base+k)with h8|h8
        · exact a4 j y h5 h8 h7
        · obtain rfl:j=base+k:=by omega
          rw [hx]at h7;injection h7 with h7
          rw [←h7];exact ht
   · cases h
theorem WB{q:QM}(hk:1≤q.kd∧q.kd≤4)(c:Chg)(r:CJ):(D5 q c r).2=true:=by
 have:(Bv q c r).2=true:=by
  unfold Bv;split
  · rfl
  · split
    · rfl
    · rw [if_pos (by omega)]
 unfold D5;rw [if_pos this];split<;>rfl
theorem QK{q:QM}(hk:1≤q.kd∧q.kd≤4):∀(cs:List Chg) (r:CJ),∃r',IK q r cs=some r'
 |[],r=>⟨r,rfl⟩
 |c::cs,r=>by
  unfold IK;rw [if_pos (WB hk c r)];exact QK hk cs _
theorem QJ{q:QM}(hk:1≤q.kd∧q.kd≤4){base:Int}:∀(l:List Bq) (i:Nat) (st:CJ×Int),(∀(k:Nat) (x:Bq),l[k]?=some x→base≤9223372036854775806 -((i+k:Nat):Int)∧x.p=base+1+((i+k:Nat):Int))→∃st',En q base i st l=some st'
 |[],i,st,_=>⟨st,rfl⟩
 |x::l,i,st,h=>by
  have h0:=h 0 x rfl;rw [xJ]at h0;obtain ⟨r',hr⟩:=QK hk x.cs st.1;unfold En;rw [if_pos ⟨by unfold Co;rw [hr],h0.1,h0.2⟩];exact QJ hk l (i+1) _ fun k y hy=>by
   have:=h (k+1) y hy;rwa [show i+(k+1)=i+1+k by omega]at this
theorem pM(q:QM)(hq:BN q):Az Tryz.prog 122 #[.agg #[I4 q.kd,I4 q.tb,I4 q.cl,I4 q.lo,I4 q.hi,I4 q.bq,I4 q.ot]] [] (.tuple #[I4 q.tb,I4 q.cl,I4 q.lo,I4 q.hi]):=by
 refine Se func122 ntmps122 [0] ?_;intro u R;refine Zq<|Zg<|Ze (Bx #[I4 q.kd,I4 q.tb,I4 q.cl,I4 q.lo,I4 q.hi,I4 q.bq,I4 q.ot]) ?_;rintro _ _ ⟨bq,rfl,rfl⟩;refine Za Y<|Za Y<|Za Y<|Za Y<|Z0<|Zx<|Zq<|Zq<|Zg<|Zo Wh (Pa #[_,_,_,_,_,_,_] isAgg30 sizeOf30 Y) ?_;refine Xr [_] Y call49 Y rfl (KI q) ?_;refine Zv (CL Y)<|Z0<|Zx ?_;refine Ag Y (fun hb1=>?_) (fun hb1=>?_)
 ·
  exfalso;simp [hq]at hb1
 refine AB<|Zx<|Zq<|BK (n:=12) (0::1::0::4::0::16::0::64::3::271::831::2047::[]) 0 (by kernel_rfl) (by kernel_rfl) rfl ?_;refine Zi 1 0 rfl (AY (off:=1) underlying30 rfl rfl sizeOf3 Y)<|Zj 3 1 rfl isAgg3 Y ?_;refine Zi 7 2 rfl (AY (off:=2) underlying30 rfl rfl sizeOf3 Y)<|Zj 15 3 rfl isAgg3 Y ?_;refine Zi 31 4 rfl (AY (off:=3) underlying30 rfl rfl sizeOf3 Y)<|Zj 63 5 rfl isAgg3 Y ?_;refine Zi 127 6 rfl (AY (off:=4) underlying30 rfl rfl sizeOf3 Y)<|Zj 255 7 rfl isAgg3 Y ?_;refine Zi 511 8 rfl (Au Y)<|Zi 1023 9 rfl (Au Y)<|Zi 2047 10 rfl (Au Y)<|Zi 4095 11 rfl (Au Y)<|Ao ?_;refine Zn [2,3,4,5] ?_;refine Zx<|AA ?_;refine nH rfl results122 Y Y Y Y (by exact ⟨rfl,rfl⟩)
theorem rP(q:QM)(hq:BN q):Az Tryz.prog 52 #[.agg #[I4 q.kd,I4 q.tb,I4 q.cl,I4 q.lo,I4 q.hi,I4 q.bq,I4 q.ot]] [] (.agg #[I4 q.tb,I4 q.cl,I4 q.lo,I4 q.hi]):=by
 refine Se func52 ntmps52 [0] ?_;intro u R;refine Zq<|Zg<|Ze (Bx #[I4 q.kd,I4 q.tb,I4 q.cl,I4 q.lo,I4 q.hi,I4 q.bq,I4 q.ot]) ?_;rintro _ _ ⟨bq,rfl,rfl⟩;refine Ze (Al zeroValue106 #[_,_,_,_]) ?_;rintro _ _ ⟨bo,rfl,rfl⟩;refine Z0<|Zx<|Zq<|Zg<|Zo Wh (Pa #[_,_,_,_,_,_,_] isAgg30 sizeOf30 Y) ?_;refine Xr [_] Y call122 Y rfl (pM q hq) ?_;refine Zm Y<|Zd Y rfl<|Zd Y rfl<|Zd Y rfl<|Zd Y rfl<|Zh 0 underlying106 rfl rfl sizeOf3 Y<|Xe (Zs sizeOf3 Y Y rfl (hi:=by first|omega|decide|(simp;done))) ?_;refine Zh 1 underlying106 rfl rfl sizeOf3 Y<|Xe (Zs sizeOf3 Y Y rfl (hi:=by first|omega|decide|(simp;done))) ?_;refine Zh 2 underlying106 rfl rfl sizeOf3 Y<|Xe (Zs sizeOf3 Y Y rfl (hi:=by first|omega|decide|(simp;done))) ?_;refine Zh 3 underlying106 rfl rfl sizeOf3 Y<|Xe (Zs sizeOf3 Y Y rfl (hi:=by first|omega|decide|(simp;done))) ?_;refine Z0<|Zn [2] ?_;refine Zx<|Zq<|Zg<|Zo Wh (AZ (cs:=#[_,_,_,_]) isAgg106 sizeOf106 Y Wb (by exact Ay rfl)) ?_;refine Xe (BQ sizeOf106 Y Y (by(simp [Value.oneCell'];done)) Wu (by exact Dc rfl) (by first|rfl|(simp;done)) Wb (by exact BS _)) ?_;refine Z0<|Zx<|AA ?_;refine DK rfl results52 Y Wh (Ah isAgg106 sizeOf106 Wn (Ay rfl)) (by exact ⟨rfl,rfl⟩)
end Go.Proofs.YtkdgffcfmgmemaaGreatDoor
