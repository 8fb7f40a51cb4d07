/- A patch gives the result on the rows after the change: rows, numbers, sums, least and greatest values. -/
/- A patch gives the result on the rows after the change: the pairs of a join. -/
/- proof.Replay. -/
/- Records of a log replayed: the result at the later position. -/
/- proof.Make, for queries that are not joins. -/
import Derived.Test.YtkdgffcfmgmemaaGreatDoorEz
import Derived.Test.YtkdgffcfmgmemaaGreatDoorPr5
import Derived.Test.YtkdgffcfmgmemaaGreatDoorLg11
import Derived.Test.YtkdgffcfmgmemaaGreatDoorTk1
set_option linter.unusedVariables false
set_option linter.unusedSimpArgs false
namespace Go.Proofs.YtkdgffcfmgmemaaGreatDoor
open Go.Proofs.Tryz
open Go Go.RowKit Gw
set_option maxRecDepth 100000
attribute [local irreducible] Gw.At Gw.Nx Gw.Ops
theorem Mt{rs:List AP}(hs:BJ rs):rs.Nodup:=hs.imp (by
 intro a b h e;subst e;unfold AP.lt2 at h;omega)
theorem N7{q:QM}(hq:BP q)(rs:List AP)(x:AP):x∈CZ rs q↔x∈rs∧inQ q x=true:=by rw [(Gg hq rs).mem_iff,vW]
theorem Pt{q:QM}(hq:BP q){rs:List AP}(hs:BJ rs):(CZ rs q).Nodup:=(Gg hq rs).nodup_iff.2 ((Mt hs).filter _)
theorem Pq{q:QM}(hq:BP q){rs o:List AP}(hs:BJ rs)(hn:o.Nodup)(hm:∀x,x∈o↔x∈rs∧inQ q x=true)(h2:o.Pairwise (leV q.cl.toNat)):o=CZ rs q:=by
 have h:=Gg hq rs;refine Pm hs (f:=inQ q) (t:=q.tb) (fun r h9=>(of_decide_eq_true h9).1) ?_ h h2 (EY hs _ _ _ _);exact (xC hn ((Mt hs).filter _)).2 fun x=>by rw [hm,vW]
theorem NK{q:QM}{b:Bool}{x y:AP}(h:Hq q b x=some y):y=x∧b=true∧inQ q y=true:=by
 unfold Hq at h;split at h
 · rename_i h9
   rw [uE]at h9;injection h with h
   subst h;exact ⟨rfl,h9⟩
 · cases h
theorem j4{q:QM}{b:Bool}{x:AP}(h:Hq q b x=none)(hh:b=true):inQ q x=false:=by
 unfold Hq at h;rw [hh,xV]at h;split at h
 · cases h
 · simp_all
theorem PX{q:QM}(hq:BP q)(y x:AP):J5 q y x=true↔DR y q.cl.toNat<DR x q.cl.toNat∨(DR x q.cl.toNat=DR y q.cl.toNat∧y.k<x.k):=by
 have hc:=hq.2.1;have e:∀r,Be r q.cl=DR r q.cl.toNat:=fun r=>by
  have:=ME r q.cl.toNat (by omega);rwa [show((q.cl.toNat:Nat):Int)=q.cl by omega]at this
 unfold J5;rw [e,e,wh,uE,decide_eq_true_eq,decide_eq_true_eq,decide_eq_true_eq]
theorem qA{q:QM}(hq:BP q){y x:AP}(h:J5 q y x=false):leV q.cl.toNat x y:=by
 have h1:=PX hq y x;rw [h]at h1;unfold leV;have:¬(DR y q.cl.toNat<DR x q.cl.toNat∨(DR x q.cl.toNat=DR y q.cl.toNat∧y.k<x.k)):=fun h9=>by cases h1.2 h9
 omega
theorem qB{q:QM}(hq:BP q){y x:AP}(h:J5 q y x=true):leV q.cl.toNat y x:=by
 have:=(PX hq y x).1 h;unfold leV;omega
theorem TV{q:QM}(hq:BP q){L:List AP}(hL:L.Pairwise (leV q.cl.toNat))(y:AP):∃A B,L=A++B∧PK (J5 q y) L y=A++[y]++B∧(∀x∈A,J5 q y x=false)∧(∀x∈B,J5 q y x=true):=by
 cases h:L.findIdx? (J5 q y)with
 |none=>
  refine ⟨L,[],by simp,?_,wL.1 h,by simp⟩;unfold PK;rw [h];simp
 |some i=>
  obtain ⟨h1,h2,h3⟩:=vF.1 h;refine ⟨L.take i,L.drop i,(uY i L).symm,?_,fun x hx=>?_,fun x hx=>?_⟩
  · unfold PK
    rw [h];rfl
  · obtain ⟨j,hj⟩:=uV hx
    rw [uX]at hj;split at hj
    · rename_i hji
      obtain ⟨h4,rfl⟩:=tH.1 hj;simpa using h3 j hji
    · cases hj
  · have h5:=hL.sublist (List.drop_sublist i L)
    rw [vB h1]at hx h5;rcases uI.1 hx with rfl|hx
    · exact h2
    · have h6:=(wF.1 h5).1 x hx
      have h7:=(PX hq y _).1 h2;rw [PX hq];unfold leV at h6;omega
theorem WM(pd:AP→Bool)(L:List AP)(y:AP):(PK pd L y).Perm (y::L):=by
 unfold PK;simp only [tO,uU];refine uS.trans ?_;rw [uY]
theorem YG{q:QM}(hq:BP q){L:List AP}(hL:L.Pairwise (leV q.cl.toNat))(y:AP):(PK (J5 q y) L y).Pairwise (leV q.cl.toNat):=by
 obtain ⟨A,B,e,e2,hA,hB⟩:=TV hq hL y;rw [e2];rw [e]at hL;obtain ⟨h1,h2,h3⟩:=vE.1 hL;rw [tO];refine vE.2 ⟨h1,wF.2 ⟨fun x hx=>qB hq (hB x hx),h2⟩,fun a ha b hb=>?_⟩;rcases uI.1 hb with rfl|hb
 · exact qA hq (hA a ha)
 · exact h3 a ha b hb
theorem pK(c:Chg)(x:AP):Iz c x=true↔x.is c.t c.k:=by
 unfold Iz AP.is;rw [uE,decide_eq_true_eq,decide_eq_true_eq]
theorem QN{q:QM}(hq:BP q){rs:List AP}{c:Chg}(hs:BJ rs)(hf:FZ rs c):Dm q c (CZ rs q)=CZ (EI rs c) q:=by
 have hL:((CZ rs q).filter fun x=>!Iz c x).Pairwise (leV q.cl.toNat):=(EY hs _ _ _ _).sublist zO;have hN:((CZ rs q).filter fun x=>!Iz c x).Nodup:=(Pt hq hs).filter _
 have hM:∀x,x∈((CZ rs q).filter fun x=>!Iz c x)↔(x∈rs∧¬x.is c.t c.k)∧inQ q x=true:=fun x=>by
  rw [vW,N7 hq,wE,←Bool.not_eq_true,pK];constructor
  · rintro ⟨⟨a,b⟩,d⟩;exact ⟨⟨a,d⟩,b⟩
  · rintro ⟨⟨a,d⟩,b⟩;exact ⟨⟨a,b⟩,d⟩
 unfold Dm;cases ha:afQ q c with
 |none=>
  refine Pq hq (Ip hs hf) hN (fun x=>?_) hL;rw [hM,FU hs hf];constructor
  · rintro ⟨a,b⟩;exact ⟨.inl a,b⟩
  · rintro ⟨a|⟨a,rfl⟩,b⟩
    · exact ⟨a,b⟩
    · rw [j4 ha a]at b;cases b
 |some y=>
  obtain ⟨hy,hh,hi⟩:=NK ha;have hyn:y∉((CZ rs q).filter fun x=>!Iz c x):=fun h=>((hM y).1 h).1.2 (by rw [hy];exact ⟨rfl,rfl⟩)
  refine Pq hq (Ip hs hf) ((WM _ _ y).nodup_iff.2 (xg.2 ⟨hyn,hN⟩)) (fun x=>?_) (YG hq hL y);rw [(WM _ _ y).mem_iff,uI,hM,FU hs hf];constructor
  · rintro (rfl|⟨a,b⟩)
    · exact ⟨.inr ⟨hh,hy⟩,hi⟩
    · exact ⟨.inl a,b⟩
  · rintro ⟨a|⟨a,e⟩,b⟩
    · exact .inr ⟨a,b⟩
    · exact .inl (e.trans hy.symm)
theorem Wj(lt:Int→Int→Bool)(hlt:∀a b c,lt b a=false→lt c b=false→lt c a=false)(hirr:∀a,lt a a=false)(hasy:∀a b,lt a b=true→lt b a=false)(htot:∀a b,lt a b=false→lt b a=false→a=b){l:List Int}{x:Int}(hx:x∈l)(h:∀y∈l,lt y x=false):EL lt l=⟨[],x,true⟩:=by
 match l,hx,h with
 |z::l,hx,h=>
  obtain ⟨x',a1,a2,a3⟩:=Jq lt hlt hirr hasy z l;rw [a3,htot x x' (a2 x hx) (h x' a1)]
theorem kG(lt:Int→Int→Bool)(l:List Int)(n:Int):EL lt (l++[n])=⟨(EL lt l).rows,if !(EL lt l).fnd||lt n (EL lt l).val then n else(EL lt l).val,true⟩:=by
 unfold EL;rw [wJ];rfl
theorem eQ(lt:Int→Int→Bool)(hlt:∀a b c,lt b a=false→lt c b=false→lt c a=false)(hirr:∀a,lt a a=false)(hasy:∀a b,lt a b=true→lt b a=false)(htot:∀a b,lt a b=false→lt b a=false→a=b)(X:List Int)(b a:Option Int)
 (h:(Fq lt b.isSome a.isSome (b.getD 0) (a.getD 0) (EL lt (X++b.toList))).2=true):(Fq lt b.isSome a.isSome (b.getD 0) (a.getD 0) (EL lt (X++b.toList))).1=EL lt (X++a.toList):=by
 have hadd:∀r:CG,r=EL lt X→(if a.isSome then((⟨r.rows,if !r.fnd||lt (a.getD 0) r.val then a.getD 0 else r.val,true⟩:CG),true)else(r,true)).1=EL lt (X++a.toList):=fun r hr=>by
  subst hr;cases a with
  |none=>simp
  |some n=>rw [zW,kG];rfl
 cases b with
 |none=>
  have e:EL lt (X++(none:Option Int).toList)=EL lt X:=by simp
  rw [e]at h⊢;exact hadd _ rfl
 |some o=>
  have hne:∃x∈X++[o],(∀y∈X++[o],lt y x=false)∧EL lt (X++[o])=⟨[],x,true⟩:=by
   cases hx:X++[o]with
   |nil=>simp at hx
   |cons z l=>exact Jq lt hlt hirr hasy z l
  obtain ⟨x,h1,h2,h3⟩:=hne;rw [zW]at h⊢;rw [h3]at h⊢;unfold Fq at h⊢;simp only [Option.isSome_some,yL,xV,wT,ze]at h⊢;cases hxo:lt x o with
  |false=>
   rw [hxo]at h;simp only [y7,if_true]at h⊢;have hox:=h2 o (by simp)
   have exo:=htot x o hxo hox;subst exo;cases a with
   |none=>simp at h
   |some n=>
    simp only [Option.isSome_some,yL,xV,yQ,wE]at h;rw [zW,Wj lt hlt hirr hasy htot (x:=n) (by simp) fun y hy=>?_]
    · rfl
    · rcases uF.1 hy with hy|hy
      · exact hlt n x y h (h2 y (by simp [hy]))
      · rw [tq.1 hy];exact hirr n
  |true=>
   simp only [wT,vH,if_false];have hxX:x∈X:=by
    rcases uF.1 h1 with h9|h9
    · exact h9
    · rw [tq.1 h9,hirr]at hxo;cases hxo
   have e:(⟨[],x,true⟩:CG)=EL lt X:=(Wj lt hlt hirr hasy htot hxX fun y hy=>h2 y (by simp [hy])).symm;have:=hadd _ e
   simpa using this
theorem NP(q:QM)(a b:List AP):Co q (a++b)=Co q a++Co q b:=uK
theorem Vz(q:QM)(o:Option AP):Co q o.toList=(o.map fun r=>Be r q.bq).toList:=by cases o<;>rfl
theorem Y6(q:QM)(o:Option AP):mQ q o=(o.map fun r=>Be r q.bq).getD 0:=by cases o<;>rfl
theorem ZU(q:QM)(o:Option AP):o.isSome=(o.map fun r=>Be r q.bq).isSome:=by cases o<;>rfl
theorem lV(o:Option Int):JS o.toList=o.getD 0:=by
 cases o with
 |none=>rfl
 |some x=>show x+0=x;omega
theorem Vn{q:QM}(hq:BP q){rs:List AP}{c:Chg}(hs:BJ rs)(hf:FZ rs c)(h7:q.kd≠7)(ht:Dr q c=true)(h:(Bp q c (Df rs q)).2=true):(Bp q c (Df rs q)).1=Df (EI rs c) q:=by
 obtain ⟨A,B,e1,e2⟩:=O7 hf;have f1:rs.filter (inQ q)=A.filter (inQ q)++(bfQ q c).toList++B.filter (inQ q):=by
  conv=>lhs;rw [e1]
  rw [um,um,Qc]
 have f2:(EI rs c).filter (inQ q)=A.filter (inQ q)++(afQ q c).toList++B.filter (inQ q):=by
  rw [e2,um,um,Qi]
 have p1:=Gg hq rs;have p2:=Gg hq (EI rs c)
 rw [f1]at p1;rw [f2]at p2;have hk:=hq.2.2.2
 have l1:=p1.length_eq;have l2:=p2.length_eq
 simp only [tK]at l1 l2;have m1:(Co q (CZ rs q)).Perm ((Co q (A.filter (inQ q))++Co q (B.filter (inQ q)))++((bfQ q c).map fun r=>Be r q.bq).toList):=by
  rw [←Vz,←NP,←NP];refine (p1.map _).trans (List.Perm.map _ ?_);simp only [tO];exact wQ _ uj
 have m2:(Co q (CZ (EI rs c) q)).Perm ((Co q (A.filter (inQ q))++Co q (B.filter (inQ q)))++((afQ q c).map fun r=>Be r q.bq).toList):=by
  rw [←Vz,←NP,←NP];refine (p2.map _).trans (List.Perm.map _ ?_);simp only [tO];exact wQ _ uj
 have hx:∀lt:Int→Int→Bool,(∀a b c,lt b a=false→lt c b=false→lt c a=false)→(∀a,lt a a=false)→(∀a b,lt a b=true→lt b a=false)→(∀a b,lt a b=false→lt b a=false→a=b)→(Fq lt (bfQ q c).isSome (afQ q c).isSome (mQ q (bfQ q c)) (mQ q (afQ q c)) (EL lt (Co q (CZ rs q)))).2=true→(Fq lt (bfQ q c).isSome (afQ q c).isSome (mQ q (bfQ q c)) (mQ q (afQ q c)) (EL lt (Co q (CZ rs q)))).1=EL lt (Co q (CZ (EI rs c) q)):=fun lt a1 a2 a3 a4 h9=>by
  rw [NW lt a1 a2 a3 a4 (fun y=>m1.mem_iff),Y6,Y6,ZU,ZU]at h9⊢;rw [NW lt a1 a2 a3 a4 (fun y=>m2.mem_iff)];exact eQ lt a1 a2 a3 a4 _ _ _ h9
 unfold Bp Df FE at h⊢;unfold Dr at ht;rcases (by omega:(q.kd=1∨q.kd=2)∨q.kd=3∨q.kd=4∨q.kd=5∨q.kd=6)with h8|h8|h8|h8|h8
 · have g3:¬q.kd=3:=by omega
   have g4:¬q.kd=4:=by omega
   have g5:¬q.kd=5:=by omega
   have g6:¬q.kd=6:=by omega
   simp only [if_pos h8,g3,g4,g5,g6,h7,if_false,QN hq hs hf]
 · have g2:¬(q.kd=1∨q.kd=2):=by omega
   simp only [if_neg g2,if_pos h8]at ht⊢;unfold Vy at ht;cases hb:bfQ q c<;>cases ha:afQ q c<;>rw [hb,ha]at ht<;>rw [hb]at l1<;>rw [ha]at l2<;>simp at ht l1 l2⊢<;>omega
 · have g2:¬(q.kd=1∨q.kd=2):=by omega
   have g3:¬q.kd=3:=by omega
   simp only [if_neg g2,g3,if_pos h8,if_false];have s1:=LQ m1
   have s2:=LQ m2;rw [VC,lV,←Y6]at s1 s2;have g:∀l,Ka l=JS l:=fun l=>by unfold Ka;rw [Lh];omega
   simp only [g];congr 1;omega
 · have g2:¬(q.kd=1∨q.kd=2):=by omega
   have g3:¬q.kd=3:=by omega
   have g4:¬q.kd=4:=by omega
   simp only [if_neg g2,g3,g4,if_pos h8,if_false]at h⊢;exact hx _ (fun a b c h1 h2=>by simp only [decide_eq_false_iff_not]at*;omega) (fun a=>by simp) (fun a b h=>by simp only [decide_eq_true_eq,decide_eq_false_iff_not]at*;omega) (fun a b h1 h2=>by simp only [decide_eq_false_iff_not]at*;omega) h
 · have g2:¬(q.kd=1∨q.kd=2):=by omega
   have g3:¬q.kd=3:=by omega
   have g4:¬q.kd=4:=by omega
   have g5:¬q.kd=5:=by omega
   simp only [if_neg g2,g3,g4,g5,if_pos h8,if_false]at h⊢;exact hx _ (fun a b c h1 h2=>by simp only [decide_eq_false_iff_not]at*;omega) (fun a=>by simp) (fun a b h=>by simp only [decide_eq_true_eq,decide_eq_false_iff_not]at*;omega) (fun a b h1 h2=>by simp only [decide_eq_false_iff_not]at*;omega) h
theorem FK{q:QM}{rs:List AP}(hs:BJ rs)(k:Int)(x:AP):DT q (I9 rs q.ot) k=some x↔x∈rs∧x.is q.ot k:=by
 have hu:∀a∈rs,∀b∈rs,a.is q.ot k→b.is q.ot k→a=b:=fun a ha b hb h1 h2=>by
  have e1:=Jo hs ha h1;have e2:=Jo hs hb h2
  rw [e1]at e2;injection e2
 have hin:∀y,y∈I9 rs q.ot∧decide (y.t=q.ot∧y.k=k)=true↔y∈rs∧y.is q.ot k:=fun y=>by
  unfold I9 inT AP.is;rw [vW,decide_eq_true_eq,decide_eq_true_eq];constructor
  · rintro ⟨⟨a,_⟩,b⟩;exact ⟨a,b⟩
  · rintro ⟨a,b⟩;exact ⟨⟨a,b.1⟩,b⟩
 unfold DT;constructor
 · intro h
   exact (hin x).1 ⟨xZ h,by simpa using zM (p:=fun x:AP=>decide (x.t=q.ot∧x.k=k)) h⟩
 · intro h
   cases hf:(I9 rs q.ot).find? fun x=>decide (x.t=q.ot∧x.k=k)with
   |none=>
    have:=yc.1 hf x ((hin x).2 h).1;exact absurd ((hin x).2 h).2 this
   |some y=>
    have h2:=(hin y).1 ⟨xZ hf,by simpa using zM (p:=fun x:AP=>decide (x.t=q.ot∧x.k=k)) hf⟩;rw [hu y h2.1 x h.1 h2.2 h.2]
def prQ(rs:List AP)(q:QM)(r:AP):Option BU:=(DT q (I9 rs q.ot) (Be r q.bq)).map fun x=>⟨r,x⟩
def qW(rs:List AP)(q:QM):List BU:=(CZ rs q).filterMap (prQ rs q)
theorem WI(rs:List AP)(q:QM):∀l:List AP,IM q l (I9 rs q.ot)=DI (l.filterMap (prQ rs q))
 |[]=>rfl
 |r::l=>by
  have h:=WI rs q l;unfold IM at h⊢;rw [ui,h,yO];unfold IJ prQ;cases DT q (I9 rs q.ot) (Be r q.bq)<;>rfl
theorem Xu(ps:List BU):Ee (DI ps)=ps:=by
 have hl:(DI ps).length=2*ps.length:=Gx ps;have hat:∀(ps:List BU) (k:Nat) (p:BU),ps[k]?=some p→(DI ps)[2*k]?=some p.l∧(DI ps)[2*k+1]?=some p.r:=by
  intro ps;induction ps with
  |nil=>intro k p h;cases h
  |cons a ps ih=>
   intro k p h;have e:DI (a::ps)=a.l::a.r::DI ps:=rfl
   rw [e];cases k with
   |zero=>injection h with h;subst h;exact ⟨rfl,rfl⟩
   |succ k=>
    have:=ih k p h;rw [show 2*(k+1)=2*k+2 by omega];exact this
 apply vg;intro k;have hlen:(Ee (DI ps)).length=ps.length:=by rw [Jg];omega
 rcases uJ k ps.length with h|h
 · obtain ⟨h1,h2⟩:=hat ps k _ (tF h)
   unfold Ee;rw [uD,xQ (by omega),vV,uZ,uZ,h1,h2,tF h];rfl
 · rw [uq (by omega),uq h]
theorem mM{α:Type}{a b:Option α}(h:∀x,a=some x↔b=some x):a=b:=Option.ext h
theorem Sn{rs:List AP}{q:QM}{r:AP}{p:BU}(h:prQ rs q r=some p):p.l=r∧DT q (I9 rs q.ot) (Be r q.bq)=some p.r:=by
 unfold prQ at h;cases hp:DT q (I9 rs q.ot) (Be r q.bq)with
 |none=>rw [hp]at h;cases h
 |some x=>rw [hp]at h;injection h with h;subst h;exact ⟨rfl,rfl⟩
theorem Qt{α β:Type}{f g:α→Option β}:∀{l:List α},(∀x∈l,f x=g x)→l.filterMap f=l.filterMap g
 |[],_=>rfl
 |x::l,h=>by rw [yO,yO,h x (by simp),Qt fun y hy=>h y (by simp [hy])]
theorem M3{α β γ:Type}(f:α→Option β)(g:β→Option γ)(h:α→Option γ)(l:List α)(e:∀x∈l,(f x).bind g=h x):(l.filterMap f).filterMap g=l.filterMap h:=by
 rw [yR];exact Qt e
theorem kD(pd:BU→Bool)(A B:List BU)(y:BU)(hA:∀x∈A,pd x=false)(hB:∀x∈B,pd x=true):NQ pd (A++B) y=A++[y]++B:=by
 have e:((A++B).findIdx? pd).getD (A++B).length=A.length:=by
  rw [List.findIdx?_append,wL.2 hA];cases B with
  |nil=>simp
  |cons b B=>rw [List.findIdx?_cons,hB b (by simp)];simp
 unfold NQ;rw [e];simp
theorem Vm{q:QM}(hq:BP q){rs:List AP}{c:Chg}(hs:BJ rs)(hf:FZ rs c)(h7:q.kd=7)(ht:Dr q c=true)(h:(Bp q c (Df rs q)).2=true):(Bp q c (Df rs q)).1=Df (EI rs c) q:=by
 have hs2:=Ip hs hf;have hev:∀rs,Df rs q=⟨DI (qW rs q),0,false⟩:=fun rs=>by
  unfold Df FE;simp only [show¬q.kd=3 by omega,show¬q.kd=4 by omega,show¬q.kd=5 by omega,show¬q.kd=6 by omega,h7,if_true,if_false];rw [WI];rfl
 have hpt:∀r,Bp q c r=Cw q c r:=fun r=>by
  unfold Bp;simp only [show¬(q.kd=1∨q.kd=2) by omega,show¬q.kd=3 by omega,show¬q.kd=4 by omega,show¬q.kd=5 by omega,show¬q.kd=6 by omega,if_false]
 have htq:Us q c=true∨c.t=q.ot:=by
  unfold Dr at ht;simp only [show¬(q.kd=1∨q.kd=2) by omega,show¬q.kd=3 by omega,show¬q.kd=4 by omega,show¬(q.kd=5∨q.kd=6) by omega,if_false,wh,decide_eq_true_eq]at ht;exact ht
 rw [hpt,hev]at h⊢;rw [hev];unfold Cw at h⊢;split
 · rename_i h9;rw [if_pos h9]at h;cases h
 rename_i hto;rw [if_neg hto]at h;simp only [Xu]at h⊢;congr 2;have hsame:c.t≠q.tb→CZ (EI rs c) q=CZ rs q:=fun hne=>by
  refine (Pq hq hs2 (Pt hq hs) (fun x=>?_) (EY hs _ _ _ _)).symm;rw [N7 hq,FU hs hf];constructor
  · rintro ⟨a,b⟩
    exact ⟨.inl ⟨a,fun h9=>hne (h9.1.symm.trans (of_decide_eq_true b).1)⟩,b⟩
  · rintro ⟨⟨a,_⟩|⟨a,rfl⟩,b⟩
    · exact ⟨a,b⟩
    · exact absurd (of_decide_eq_true b).1 hne
 unfold jnT qW at h⊢;by_cases hot:c.t=q.ot
 · rw [if_pos hot]at h⊢
   rw [hsame (by omega)];have hpart:∀k,DT q (I9 (EI rs c) q.ot) k=if k=c.k then(if c.has then some ⟨c.t,c.k,c.n⟩else none)else DT q (I9 rs q.ot) k:=fun k=>by
    apply mM;intro x;rw [FK hs2,FU hs hf];unfold AP.is;split
    · rename_i hk
      split
      · rename_i hh
        rw [Option.some_inj];constructor
        · rintro ⟨⟨_,a⟩|⟨_,rfl⟩,b,d⟩
          · exact absurd ⟨b.trans hot.symm,d.trans hk⟩ a
          · rfl
        · rintro rfl;exact ⟨.inr ⟨hh,rfl⟩,hot,hk.symm⟩
      · rename_i hh
        constructor
        · rintro ⟨⟨_,a⟩|⟨a,_⟩,b,d⟩
          · exact absurd ⟨b.trans hot.symm,d.trans hk⟩ a
          · exact absurd a hh
        · intro h9;cases h9
    · rename_i hk
      rw [FK hs];unfold AP.is;constructor
      · rintro ⟨⟨a,_⟩|⟨_,rfl⟩,b⟩
        · exact ⟨a,b⟩
        · exact absurd b.2.symm hk
      · rintro ⟨a,b,d⟩
        exact ⟨.inl ⟨a,fun h9=>hk (d.symm.trans h9.2)⟩,b,d⟩
   have hold:c.had=true→∃x,DT q (I9 rs q.ot) c.k=some x:=fun hh=>by
    obtain ⟨r,hr,hi,_⟩:=J3 (hf.1.trans hh);exact ⟨r,(FK hs c.k r).2 ⟨hr,by rw [←hot];exact hi⟩⟩
   have hkey:∀{k x},DT q (I9 rs q.ot) k=some x→x.k=k:=fun h9=>((FK hs _ _).1 h9).2.2;split
   · rename_i hh
     rw [if_pos hh]at h;obtain ⟨x0,hx0⟩:=hold h;rw [←List.filterMap_eq_map];refine M3 _ _ _ _ fun r _=>?_;unfold prQ;rw [hpart,hh];by_cases hk:Be r q.bq=c.k
     · rw [hk,hx0,if_pos rfl]
       simp only [vV,uy,Function.comp_apply,GY,hkey hx0,decide_true,if_true]
     · rw [if_neg hk]
       cases hp:DT q (I9 rs q.ot) (Be r q.bq)with
       |none=>rfl
       |some x=>simp only [vV,uy,Function.comp_apply,GY,hkey hp,hk,decide_false,vH,if_false]
   · rename_i hh
     rw [if_neg hh]at h;rw [←yS];refine M3 _ _ _ _ fun r _=>?_;unfold prQ;rw [hpart,if_neg hh];by_cases hk:Be r q.bq=c.k
     · rw [hk,if_pos rfl]
       obtain ⟨x0,hx0⟩:=hold h;rw [hx0];simp [Option.guard,GY,hkey hx0]
     · rw [if_neg hk]
       cases hp:DT q (I9 rs q.ot) (Be r q.bq)with
       |none=>rfl
       |some x=>simp [Option.guard,GY,hkey hp,hk]
 · rw [if_neg hot]at h⊢
   have hg:∀r,prQ (EI rs c) q r=prQ rs q r:=fun r=>by unfold prQ;rw [ZA hf hot]
   have hgf:prQ (EI rs c) q=prQ rs q:=funext hg;rw [hgf];have htb:c.t=q.tb:=by
    rcases htq with h9|h9
    · unfold Us at h9
      rw [wh]at h9;rcases h9 with h9|h9
      · obtain ⟨y,hy⟩:=xM.1 h9
        obtain ⟨e,_,hi⟩:=NK hy;rw [e]at hi;exact (of_decide_eq_true hi).1
      · obtain ⟨y,hy⟩:=xM.1 h9
        obtain ⟨e,_,hi⟩:=NK hy;rw [e]at hi;exact (of_decide_eq_true hi).1
    · exact absurd h9 hot
   have hrest:((CZ rs q).filterMap (prQ rs q)).filter (fun p=>!OT c.k p)=((CZ rs q).filter fun x=>!Iz c x).filterMap (prQ rs q):=by
    rw [←yS,←yS,yR,yR];refine Qt fun r hr=>?_;have hrt:r.t=c.t:=((of_decide_eq_true ((N7 hq rs r).1 hr).2).1).trans htb.symm
    by_cases hk:r.k=c.k
    · cases hp:prQ rs q r with
      |none=>simp [Option.guard,Iz,hrt,hk]
      |some p=>simp [Option.guard,Iz,hrt,hk,OT,(Sn hp).1]
    · cases hp:prQ rs q r with
      |none=>simp [Option.guard,Iz,hrt,hk,hp]
      |some p=>simp [Option.guard,Iz,hrt,hk,OT,(Sn hp).1,hp]
   rw [hrest]at h⊢;have hscan:=QN hq hs hf
   rw [←hscan];unfold Dm;cases ha:afQ q c with
   |none=>rfl
   |some y=>
    rw [ha]at h;simp only [ha]at h⊢;have hm:mQ q (some y)=Be y q.bq:=rfl
    rw [hm]at h⊢;have hL:((CZ rs q).filter fun x=>!Iz c x).Pairwise (leV q.cl.toNat):=(EY hs _ _ _ _).sublist zO
    obtain ⟨A,B,e1,e2,hA,hB⟩:=TV hq hL y;rw [e2];cases hfi:((CZ rs q).filterMap (prQ rs q)).findIdx? (GY (Be y q.bq))with
    |none=>
     have hi:GM (GY (Be y q.bq)) ((CZ rs q).filterMap (prQ rs q))=-1:=by unfold GM;rw [hfi];rfl
     rw [hi,if_pos (by decide)]at h⊢;rw [uE,decide_eq_true_eq]at h;obtain ⟨b,hb⟩:=xM.1 h.1;obtain ⟨eb,hbh,hbi⟩:=NK hb;have h9:=h.2
     rw [hb]at h9;have hbm:b∈CZ rs q:=by
      refine (N7 hq rs b).2 ⟨?_,hbi⟩;obtain ⟨r,hr,hi,_,he⟩:=J3 (hf.1.trans hbh);have hv:=hf.2 (hf.1.trans hbh)
      rw [he]at hv;have:b=r:=by
       rw [eb];obtain ⟨t,k,v⟩:=r;obtain ⟨h5,h6⟩:=hi;simp only at h5 h6 hv;subst h5 h6 hv;rfl
      rw [this];exact hr
     have hgb:prQ rs q b=none:=by
      cases hp:prQ rs q b with
      |none=>rfl
      |some p=>
       have h10:=wL.1 hfi p (xI.2 ⟨b,hbm,hp⟩);have h11:=(FK hs _ _).1 (Sn hp).2
       unfold GY at h10;rw [decide_eq_false_iff_not]at h10;exact absurd (h11.2.2.trans h9) h10
     have hgy:prQ rs q y=none:=by
      unfold prQ at hgb⊢;rw [show Be y q.bq=Be b q.bq from h9.symm];cases hp:DT q (I9 rs q.ot) (Be b q.bq)with
      |none=>rfl
      |some x=>rw [hp]at hgb;cases hgb
     rw [e1,xY,xY,xY];simp [hgy]
    |some i=>
     obtain ⟨h1,h2,h3⟩:=vF.1 hfi;have hi:GM (GY (Be y q.bq)) ((CZ rs q).filterMap (prQ rs q))=(i:Int):=by unfold GM;rw [hfi];rfl
     rw [hi,if_neg (by omega)]at h⊢;rw [vZ,uZ,tF h1,yL];obtain ⟨r,hr,hp⟩:=xI.1 (zx h1);generalize ((CZ rs q).filterMap (prQ rs q))[i]=p at h2 hp;have h4:=(FK hs _ _).1 (Sn hp).2
     unfold GY at h2;rw [decide_eq_true_eq]at h2;have hgy:prQ rs q y=some ⟨y,p.r⟩:=by
      unfold prQ;rw [(FK hs (Be y q.bq) p.r).2 ⟨h4.1,h4.2.1,h2⟩];rfl
     rw [e1,xY,kD]
     · simp [hgy]
     · intro x hx
       obtain ⟨r9,hr9,hp9⟩:=xI.1 hx;rw [(Sn hp9).1];exact hA r9 hr9
     · intro x hx
       obtain ⟨r9,hr9,hp9⟩:=xI.1 hx;rw [(Sn hp9).1];exact hB r9 hr9
theorem Xn{q:QM}(hq:BP q){rs:List AP}{c:Chg}(hs:BJ rs)(hf:FZ rs c)(ht:Dr q c=true)(h:(Bp q c (Df rs q)).2=true):(Bp q c (Df rs q)).1=Df (EI rs c) q:=by
 by_cases h7:q.kd=7
 · exact Vm hq hs hf h7 ht h
 · exact Vn hq hs hf h7 ht h
def Gh(q:QM)(base:Int):Nat→CG×Int→List Br→Option (CG×Int)
 |_,st,[]=>some st
 |i,st,x::l=>if(DC q st.1 x.cs).2.2=true∧base≤9223372036854775806 -(i:Int)∧x.p=base+1+(i:Int)then Gh q base (i+1) ((DC q st.1 x.cs).1,if(DC q st.1 x.cs).2.1 then x.p else st.2) l else none
theorem Q4(q:QM)(base:Int):∀(a:List Br) (i:Nat) (st:CG×Int) (b:List Br),Gh q base i st (a++b)=(Gh q base i st a).bind fun st'=>Gh q base (i+a.length) st' b
 |[],i,st,b=>rfl
 |x::a,i,st,b=>by
  show(if(DC q st.1 x.cs).2.2=true∧base≤9223372036854775806 -(i:Int)∧x.p=base+1+(i:Int)then Gh q base (i+1) _ (a++b)else none)=(if(DC q st.1 x.cs).2.2=true∧base≤9223372036854775806 -(i:Int)∧x.p=base+1+(i:Int)then Gh q base (i+1) _ a else none).bind _;split
  · rw [Q4 q base a (i+1) _ b,tY,show i+(a.length+1)=i+1+a.length by omega]
  · rfl
theorem Ig{q:QM}{base:Int}{st sk:CG×Int}{l:List Br}{k:Nat}{x:Br}(h:Gh q base 0 st (l.take k)=some sk)(hx:l[k]?=some x):Gh q base 0 st (l.take (k+1))=if(DC q sk.1 x.cs).2.2=true∧base≤9223372036854775806 -(k:Int)∧x.p=base+1+(k:Int)then some ((DC q sk.1 x.cs).1,if(DC q sk.1 x.cs).2.1 then x.p else sk.2)else none:=by
 have hk:=(tH.1 hx).1;rw [Bo hx,Q4,h,tL,wB (by omega),uL];rfl
theorem LV{q:QM}{base:Int}{st:CG×Int}{l:List Br}{k:Nat}(h:Gh q base 0 st (l.take k)=none):Gh q base 0 st l=none:=by
 rw [←uY k l,Q4,h];rfl
def Ce(q:QM)(r:CG)(base:Int)(l:List Br):CG×Int×Bool:=match Gh q base 0 (r,base) l with
 |some st=>(st.1,st.2,true)
 |none=>(CG.none,0,false)
theorem PE{q:QM}{r:CG}{cs:List Chg}(h:(DC q r cs).2.2=true):IA q r cs=some (DC q r cs).1∧(DC q r cs).2.1=cs.any (Eh q):=by
 unfold DC at*;split at h
 · rename_i h9;rw [h9];exact ⟨rfl,rfl⟩
 · cases h
theorem ZK{q:QM}{base:Int}:∀(l:List Br) (i:Nat) (st st':CG×Int) (B:Int) (n:Nat),Gh q base i st l=some st'→(∀x∈l,x.cs.length≤1000)→(-B≤st.1.val∧st.1.val≤B)→0≤B→st.1.rows.length≤n→(-(B+2000000000000*(l.length:Int))≤st'.1.val∧st'.1.val≤B+2000000000000*(l.length:Int))∧st'.1.rows.length≤n+2000*l.length
 |[],i,st,st',B,n,h,hl,h1,h2,h3=>by
  unfold Gh at h;injection h with h
  subst h;simp only [vG];exact ⟨⟨by omega,by omega⟩,h3⟩
 |x::l,i,st,st',B,n,h,hl,h1,h2,h3=>by
  unfold Gh at h;split at h
  · rename_i h9
    have h4:=U7 _ _ _ B n (PE h9.1).1 h1 h2 h3;have h5:=hl x (by simp)
    have h6:=ZK l (i+1) _ st' (B+2000000000000) (n+2000) h (fun y hy=>hl y (by simp [hy])) ⟨by simp only;omega,by simp only;omega⟩ (by omega) (by simp only;omega);rw [tY];obtain ⟨⟨h7,h8⟩,h10⟩:=h6;refine ⟨⟨?_,?_⟩,by omega⟩<;>(push_cast;omega)
  · cases h
set_option maxHeartbeats 1000000 in
theorem VW(q:QM)(hq:BP q)(base:Int)(hb:-9223372036854775808≤base∧base≤9223372036854775807){l:List Br}{lv:Value}{ML:List AR}(hL:Du ML lv l)(hll:l.length≤1000)(hcs:∀x∈l,x.cs.length≤1000){r:CG}{rv:Value}{A:List AR}(hr:DV A rv r.rows)(hn:r.rows.length≤1000000)(hv:-1000000000000000000≤r.val∧r.val≤1000000000000000000):CO Tryz.prog 36 #[.agg #[I4 q.kd,I4 q.tb,I4 q.cl,I4 q.lo,I4 q.hi,I4 q.bq,I4 q.ot],.agg #[rv,I4 r.val,.bool r.fnd],I4 base,lv] [A,ML] (fun w H'=>∃rv' s',w= .tuple #[.agg #[rv',I4 (Ce q r base l).1.val,.bool (Ce q r base l).1.fnd],I4 (Ce q r base l).2.1,.bool (Ce q r base l).2.2]∧BX 5 113 rv' (Ce q r base l).1.rows.length (Ac (Ce q r base l).1.rows) s'∧H'=[s',A,ML]):=by
 have hml:=mL;obtain ⟨pv,cv,rfl,_⟩:=id hr;obtain ⟨pl,capl,rfl,⟨hlm,hlc⟩,hgl⟩:=id hL;refine Se func36 ntmps36 [0,1,2,3] ?_;intro u R;refine Zq<|Zg<|Ze (Bx #[I4 q.kd,I4 q.tb,I4 q.cl,I4 q.lo,I4 q.hi,I4 q.bq,I4 q.ot]) ?_;rintro _ _ ⟨bq,rfl,rfl⟩;refine Ze (Bx #[.slice pv r.rows.length cv,I4 r.val,.bool r.fnd]) ?_;rintro _ _ ⟨br,rfl,rfl⟩;refine Ze (Al zeroValue51 #[_,_,_]) ?_;rintro _ _ ⟨bo,rfl,rfl⟩;refine Za Y<|Za Y<|Z0<|Zx<|Zq<|Zg<|Zm Y<|Za Y<|Z0<|Zx<|Zq<|Zg<|Zh 0 underlying51 rfl rfl sizeOf45 Y<|Zl isAgg45 Y ?_;refine Zc [_] Y call94 Y rfl (He hr (by omega)) ?_;rintro _ _ ⟨_,⟨s1,h1,rfl⟩,rfl⟩;obtain ⟨g1,c1,rfl⟩:=h1.form;refine Zh 0 underlying51 rfl rfl sizeOf45 Y<|Xe (Zs sizeOf45 Y Y rfl (hi:=by first|omega|decide|(simp;done))) ?_;refine Z0<|Zx<|Zq<|Zq<|Zg<|Zm Y<|Zv (AV underlying28 Y)<|Zm Y<|Z0<|Zn [2,4,5,8,11,22,23,24] ?_;refine Zx<|AQ<|Zb [11,24,2,4,5,8,22,23] ?_;refine Az (e0:=[(11,_),(24,_)]) (fun m e H=>∃(k:Nat) (rk:CG×Int) (gk:Option Addr) (ck:Nat) (sk:List AR),m=l.length -k∧(k≤l.length∧Gh q base 0 (r,base) (l.take k)=some rk∧BX 5 113 (.slice gk rk.1.rows.length ck) rk.1.rows.length (Ac rk.1.rows) sk)∧e=[(11,I4 rk.2),(24,I4 (k:Int))]∧H=[[(br,.cells #[.slice gk rk.1.rows.length ck,I4 rk.1.val,.bool rk.1.fnd] 51 (0,0))],sk]) (by exact ⟨0,(r,base),g1,c1,s1,rfl,⟨tX _,by rw [ut];rfl,h1⟩,rfl,rfl⟩) Wp ?_;rintro _ _ _ ⟨k,rk,gk,ck,sk,rfl,⟨hk,hrk,hsk⟩,rfl,rfl⟩;obtain ⟨hkv,hkn⟩:=ZK (l.take k) 0 (r,base) rk 1000000000000000000 1000000 hrk (fun x hx=>hcs x (vD hx)) hv (by omega) hn;have hkl:(l.take k).length=k:=by rw [tL];omega
 rw [hkl]at hkv hkn;have hUk:=Dv hsk (by omega)
 refine Zq<|Zg<|Zv (Aq Y Y)<|Z0<|Zx<|Zq ?_;refine Ao Y (fun hlt=>?_) (fun hlt=>?_)
 ·
  obtain ⟨x,hx⟩:∃x,l[k]?=some x:=⟨_,tF hlt⟩;have hxc:=hcs x (tV hx)
  obtain ⟨hOx,g2,off2,cur2,T2,zz2,rfl,hm2,hsz2,hex2⟩:=hgl k x hx;refine AC<|Zx<|Zq<|AQ<|Zq<|Zg<|Zm Y ?_;refine BM (AU underlying28 sizeOf73 Y Y (by first|omega|decide|(simp;done))) ?_;refine Cf (cs:=[(g2,.cells cur2 T2 zz2)]) (by simp [hm2]) (AX (cs:=#[I4 x.p,.slice x.q x.cs.length x.cap]) isAgg73 sizeOf73 Y (by omega) hex2) rfl rfl ?_;refine Ze (Al zeroValue73 #[_,_]) ?_;rintro _ _ ⟨bx,rfl,rfl⟩;refine Za Y<|Xe (Xw sizeOf73 #[I4 x.p,.slice x.q x.cs.length x.cap]) ?_;refine Z0<|Zx<|Zq<|Zg<|Zo Wh (Pa #[_,_,_,_,_,_,_] isAgg30 sizeOf30 Y) ?_;refine Zo Wh (Pa #[_,_,_] isAgg51 sizeOf51 Y) ?_;refine Zo Wh (Pa #[_,_] isAgg73 sizeOf73 Y) ?_;refine Zc [_,_,_] Y call95 Y rfl (Yo q hq x.p x.q x.cap x.cs hOx hxc hUk (by omega) (by omega)) ?_;rintro _ _ ⟨_,⟨rv3,s3,rfl,h3,rfl⟩,rfl⟩;obtain ⟨g3,c3,rfl⟩:=h3.form;refine Zm Y<|Zd Y rfl<|Zd Y rfl<|Zd Y rfl<|Ze (Al zeroValue51 #[_,_,_]) ?_;rintro _ _ ⟨bn,rfl,rfl⟩;refine Xe (Xw sizeOf51 #[.slice g3 (DC q rk.1 x.cs).1.rows.length c3,I4 (DC q rk.1 x.cs).1.val,.bool (DC q rk.1 x.cs).1.fnd]) ?_;refine Za Y<|Za Y<|Z0<|Zn [2,4,5,8,11,12,13,14,15,16,22,23,24] ?_;refine Zx<|Zq<|Zq<|Zg<|Zm Y<|Zv (Ca Y)<|Zm Y ?_;refine Ai (t:=39) Y rfl (fun h1g=>?_) (fun h1g=>?_)
  ·
   have h1k:(DC q rk.1 x.cs).2.2=false:=by simpa using h1g
   refine A7 Y rfl<|A7 Y rfl<|A7 Y rfl<|A7 Y rfl<|Zv (AL Y Y)<|Zm Y<|A7 Y rfl<|A7 Y rfl<|A7 Y rfl<|A7 Y rfl<|A7 Y rfl<|A7 Y rfl<|A7 Y rfl<|Zv (AL Y Y)<|Z0<|Zn [2,4,5,8,11,13,14,15,22,23,24,53] ?_;refine Zx<|CE Y<|Zq<|Bd ?_;have e8:Ce q r base l=(CG.none,0,false):=by unfold Ce;rw [LV (k:=k+1) (by rw [Ig hrk hx,if_neg (by(rw [h1k];rintro ⟨h,_⟩;cases h;done))])]
   refine Zg<|Zv (BK (vs:=[]) (cs:=#[_,_,_]) Y (Aa (pl:=#[(0,1),(1,1),(2,1)]) zeroValue51 underlying51 (fun _=>by kernel_rfl) rfl)) ?_;refine Xe (Xw sizeOf51 _) ?_;refine Za Y<|Za Y<|Z0<|Zx<|A9<|Zt<|AY<|Zt<|Zt<|AY<|Zt ?_;refine Gj rfl results36 Y Wh (Ah isAgg51 sizeOf51 Wn (rfl)) Y Y (by exact ⟨.slice none 0 0,[],by rw [e8];rfl,by rw [e8];exact BV 5 _,rfl⟩)
  have h1k:(DC q rk.1 x.cs).2.2=true:=by simpa using h1g
  refine Zf Y Y<|Zf Y Y ?_
  (refine FX Y (Bg (m:=9223372036854775806) Y Y ?_ ?_) rfl rfl ?_;(focus (omega));(focus (omega)))
  refine Yg (Es Y Y)<|Zv (AA Y Y)<|Zm Y ?_;refine Aj (t:=45) Y rfl (fun h2g=>?_) (fun h2g=>?_)
  ·
   refine A7 Y rfl<|A7 Y rfl<|A7 Y rfl<|A7 Y rfl<|A7 Y rfl<|A7 Y rfl<|A7 Y rfl<|Zv (AL Y Y)<|Z0<|Zn [2,4,5,8,11,13,14,15,22,23,24,53] ?_;refine Zx<|CE Y<|Zq<|Bd ?_;have e8:Ce q r base l=(CG.none,0,false):=by unfold Ce;rw [LV (k:=k+1) (by rw [Ig hrk hx,if_neg (by(rintro ⟨_,h8,h9⟩;omega))])]
   refine Zg<|Zv (BK (vs:=[]) (cs:=#[_,_,_]) Y (Aa (pl:=#[(0,1),(1,1),(2,1)]) zeroValue51 underlying51 (fun _=>by kernel_rfl) rfl)) ?_;refine Xe (Xw sizeOf51 _) ?_;refine Za Y<|Za Y<|Z0<|Zx<|A9<|Zt<|AY<|Zt<|Zt<|AY<|Zt ?_;refine Gj rfl results36 Y Wh (Ah isAgg51 sizeOf51 Wn (rfl)) Y Y (by exact ⟨.slice none 0 0,[],by rw [e8];rfl,by rw [e8];exact BV 5 _,rfl⟩)
  refine Yf 0 underlying73 rfl rfl sizeOf3 Y<|Yl isAgg3 Y ?_;refine Zf Y Y ?_
  (refine FX Y (JI Y Y (IntWalk.i64_in _ ?_)) rfl rfl ?_;(focus (omega)))
  refine Zf Y Y ?_
  (refine FX Y (JI Y Y (IntWalk.i64_in _ ?_)) rfl rfl ?_;(focus (omega)))
  refine Yg (IL Y Y)<|Zv (AA Y Y)<|Z0<|Zn [2,4,5,8,11,13,14,15,22,23,24,53] ?_;refine Zx ?_;refine Ao Y (fun h3g=>?_) (fun h3g=>?_)
  ·
   refine Zq<|Bd ?_;have e8:Ce q r base l=(CG.none,0,false):=by unfold Ce;rw [LV (k:=k+1) (by rw [Ig hrk hx,if_neg (by(rintro ⟨_,h8,h9⟩;omega))])]
   refine Zg<|Zv (BK (vs:=[]) (cs:=#[_,_,_]) Y (Aa (pl:=#[(0,1),(1,1),(2,1)]) zeroValue51 underlying51 (fun _=>by kernel_rfl) rfl)) ?_;refine Xe (Xw sizeOf51 _) ?_;refine Za Y<|Za Y<|Z0<|Zx<|A9<|Zt<|AY<|Zt<|Zt<|AY<|Zt ?_;refine Gj rfl results36 Y Wh (Ah isAgg51 sizeOf51 Wn (rfl)) Y Y (by exact ⟨.slice none 0 0,[],by rw [e8];rfl,by rw [e8];exact BV 5 _,rfl⟩)
  refine AC<|Zx<|Zq<|Zg<|Zo Wh (Pa #[_,_,_] isAgg51 sizeOf51 Y) ?_;refine Xe (Xw sizeOf51 _) ?_;refine Z0<|Zx<|Zq<|Zg<|Zm Y<|Z0<|Zx ?_;refine Af Y (fun ht=>?_) (fun ht=>?_)
  ·
   refine Zg<|Zh 0 underlying73 rfl rfl sizeOf3 Y<|Zl isAgg3 Y ?_;refine Za Y<|Z0<|A8<|Zx<|Zg<|Ya (n:=1) Y Y<|Zm Y<|Z0<|Zn [11,24,2,4,5,8,22,23] ?_;refine Ab (e':=[(11,_),(24,_)]) (by exact ⟨k+1,((DC q rk.1 x.cs).1,x.p),g3,c3,s3,rfl,⟨by omega,by rw [Ig hrk hx,if_pos ⟨h1k,by omega,by omega⟩,ht];rfl,h3⟩,rfl,rfl⟩)
  refine AC<|A8<|Zx<|Zg<|Ya (n:=1) Y Y<|Zm Y<|Z0<|Zn [11,24,2,4,5,8,22,23] ?_;refine Ab (e':=[(11,_),(24,_)]) (by exact ⟨k+1,((DC q rk.1 x.cs).1,rk.2),g3,c3,s3,rfl,⟨by omega,by rw [Ig hrk hx,if_pos ⟨h1k,by omega,by omega⟩,ht];rfl,h3⟩,rfl,rfl⟩)
 have ek:k=l.length:=by omega
 subst ek;rw [uQ]at hrk;have e8:Ce q r base l=(rk.1,rk.2,true):=by unfold Ce;rw [hrk]
 refine Ar<|Zt<|Zt<|AO<|Zx<|Zq<|Zg<|Zo Wh (Pa #[_,_,_] isAgg51 sizeOf51 Y) ?_;refine Zm Y<|Xe (Xw sizeOf51 _) ?_;refine Za Y<|Za Y<|Z0<|Zx<|A9 ?_;refine Gj rfl results36 Y Wh (Ah isAgg51 sizeOf51 Wn (rfl)) Y Y (by exact ⟨.slice gk _ ck,sk,by rw [e8];rfl,by rw [e8];exact hsk,rfl⟩)
theorem ae{q:QM}(hq:BP q){rs:List AP}{c:Chg}(hs:BJ rs)(hf:FZ rs c)(hok:c.ok)(h:(Cu q c (Df rs q)).2=true):(Cu q c (Df rs q)).1=Df (EI rs c) q:=by
 unfold Cu at h⊢;cases ht:Eh q c with
 |false=>
  rw [if_neg (by decide)];unfold Eh at ht;rw [decide_eq_true hok,xV]at ht;exact (kK hq hf ht).symm
 |true=>
  rw [ht,if_pos rfl]at h;rw [if_pos rfl];unfold Eh at ht;rw [uE]at ht;split at h
  · rename_i h9
    rw [if_pos h9];exact Xn hq hs hf ht.2 h9
  · cases h
theorem SX{q:QM}(hq:BP q){rs:List AP}{cs:List Chg}(hs:BJ rs)(ha:ng cs)(hf:∀c∈cs,FZ rs c)(hok:∀c∈cs,c.ok):∀i,i≤cs.length→∀r,IA q (Df rs q) (cs.take i)=some r→r=Df (DD rs (cs.take i)) q
 |0,_,r,h=>by
  rw [ut]at h⊢;injection h with h
  exact h.symm
 |i+1,hi,r,h=>by
  obtain ⟨c,hc⟩:∃c,cs[i]?=some c:=⟨_,tF (by omega)⟩;obtain ⟨h1,h2⟩:=Jp hs ha hf i (by omega);cases hr:IA q (Df rs q) (cs.take i)with
  |none=>
   have:=Nz (cs:=cs.take (i+1)) (k:=i) (q:=q) (r:=Df rs q) (by rw [xB,wB (by omega)];exact hr);rw [this]at h;cases h
  |some rk=>
   have e:=SX hq hs ha hf hok i (by omega) rk hr;rw [Ja hr hc,e]at h;split at h
   · rename_i h9
     injection h with h
     rw [←h,E9 rs cs i c hc];exact ae hq h1 (h2 i c (tQ _) hc) (hok c (tV hc)) h9
   · cases h
theorem iB{q:QM}(hq:BP q){rs:List AP}{p rp:Int}{cs:List Chg}(hs:BJ rs)(h:M9 rs p rp cs){r:CG}(hr:IA q (Df rs q) cs=some r):r=Df (DD rs cs) q:=by
 have:=SX hq hs (RF h.ok.ord) h.fit (fun c hc=>by obtain ⟨i,hi⟩:=uV hc;exact h.ok.all i c hi) cs.length (tQ _) r (by rw [uQ];exact hr);rwa [uQ]at this
def Nt(q:QM)(x:Br):Bool:=x.cs.any (Eh q)
structure l5(q:QM)(l:List Br)(base k:Nat)(s:Int):Prop where
 le:(base:Int)≤s∧s≤((base+k:Nat):Int)
 at_:s≠(base:Int)→∃(j:Nat) (x:Br),(j:Int)+1=s∧l[j]?=some x∧Nt q x=true
 no:∀(j:Nat) (x:Br),s≤(j:Int)→j<base+k→l[j]?=some x→Nt q x=false
theorem SV{q:QM}(hq:BP q){l:List Br}(hl:DW l){base:Nat}(hb:base≤l.length):∀k,base+k≤l.length→∀st,Gh q (base:Int) 0 (Df (Bh (l.take base)) q,(base:Int)) ((l.drop base).take k)=some st→st.1=Df (Bh (l.take (base+k))) q∧l5 q l base k st.2
 |0,_,st,h=>by
  rw [ut]at h;injection h with h
  subst h;exact ⟨rfl,⟨by simp only;omega,fun h=>absurd rfl h,fun j x h1 h2=>by simp only at h1;omega⟩⟩
 |k+1,hk,st,h=>by
  obtain ⟨x,hx⟩:∃x,l[base+k]?=some x:=⟨_,tF (by omega)⟩;have hx2:(l.drop base)[k]?=some x:=by rw [uw];exact hx
  obtain ⟨ha,_⟩:=hl _ x hx;have hp:x.p=((base+k:Nat):Int)+1:=ha.pos
  cases hr:Gh q (base:Int) 0 (Df (Bh (l.take base)) q,(base:Int)) ((l.drop base).take k)with
  |none=>
   have:=LV (l:=(l.drop base).take (k+1)) (k:=k) (q:=q) (base:=(base:Int)) (st:=(Df (Bh (l.take base)) q,(base:Int))) (by rw [xB,wB (by omega)];exact hr);rw [this]at h;cases h
  |some sk=>
   obtain ⟨e1,e2⟩:=SV hq hl hb k (by omega) sk hr;rw [Ig hr hx2]at h;split at h
   · rename_i h9
     injection h with h
     subst h;have hA:=PE h9.1
     have h1:=(hl.rows (base+k) (by omega)).1;rw [e1]at hA;refine ⟨?_,?_⟩
     · have:=iB hq h1 ha hA.1
       rw [show base+(k+1)=base+k+1 by omega,Bo hx,FI,←this,e1]
     · have hT:(DC q sk.1 x.cs).2.1=Nt q x:=by rw [e1];exact hA.2
       simp only [hT];obtain ⟨⟨a1,a2⟩,a3,a4⟩:=e2;cases ht:Nt q x with
       |true=>
        simp only [if_true];refine ⟨by omega,fun _=>⟨base+k,x,hp.symm,hx,ht⟩,fun j y h5 h6=>by omega⟩
       |false=>
        simp only [vH,if_false];refine ⟨by push_cast at a2⊢;omega,a3,fun j y h5 h6 h7=>?_⟩;rcases uJ j (base+k)with h8|h8
        · exact a4 j y h5 h8 h7
        · obtain rfl:j=base+k:=by omega
          rw [hx]at h7;injection h7 with h7
          rw [←h7];exact ht
   · cases h
theorem Vl{q:QM}(hk:1≤q.kd∧q.kd≤4)(c:Chg)(r:CG):(Cu q c r).2=true:=by
 have:(Bp q c r).2=true:=by
  unfold Bp;split
  · rfl
  · split
    · rfl
    · rw [if_pos (by omega)]
 unfold Cu;rw [if_pos this];split<;>rfl
theorem Q5{q:QM}(hk:1≤q.kd∧q.kd≤4):∀(cs:List Chg) (r:CG),∃r',IA q r cs=some r'
 |[],r=>⟨r,rfl⟩
 |c::cs,r=>by
  unfold IA;rw [if_pos (Vl hk c r)];exact Q5 hk cs _
theorem Q3{q:QM}(hk:1≤q.kd∧q.kd≤4){base:Int}:∀(l:List Br) (i:Nat) (st:CG×Int),(∀(k:Nat) (x:Br),l[k]?=some x→base≤9223372036854775806 -((i+k:Nat):Int)∧x.p=base+1+((i+k:Nat):Int))→∃st',Gh q base i st l=some st'
 |[],i,st,_=>⟨st,rfl⟩
 |x::l,i,st,h=>by
  have h0:=h 0 x rfl;rw [wU]at h0;obtain ⟨r',hr⟩:=Q5 hk x.cs st.1;unfold Gh;rw [if_pos ⟨by unfold DC;rw [hr],h0.1,h0.2⟩];exact Q3 hk l (i+1) _ fun k y hy=>by
   have:=h (k+1) y hy;rwa [show i+(k+1)=i+1+k by omega]at this
theorem oZ(q:QM)(hq:BP q):Av Tryz.prog 122 #[.agg #[I4 q.kd,I4 q.tb,I4 q.cl,I4 q.lo,I4 q.hi,I4 q.bq,I4 q.ot]] [] (.tuple #[I4 q.tb,I4 q.cl,I4 q.lo,I4 q.hi]):=by
 refine Se func122 ntmps122 [0] ?_;intro u R;refine Zq<|Zg<|Ze (Bx #[I4 q.kd,I4 q.tb,I4 q.cl,I4 q.lo,I4 q.hi,I4 q.bq,I4 q.ot]) ?_;rintro _ _ ⟨bq,rfl,rfl⟩;refine Za Y<|Za Y<|Za Y<|Za Y<|Z0<|Zx<|Zq<|Zq<|Zg<|Zo Wh (Pa #[_,_,_,_,_,_,_] isAgg30 sizeOf30 Y) ?_;refine Xr [_] Y call49 Y rfl (LY q) ?_;refine Zv (CB Y)<|Z0<|Zx ?_;refine Af Y (fun hb1=>?_) (fun hb1=>?_)
 ·
  exfalso;simp [hq]at hb1
 refine AC<|Zx<|Zq<|BI (n:=12) (0::1::0::4::0::16::0::64::3::271::831::2047::[]) 0 (by kernel_rfl) (by kernel_rfl) rfl ?_;refine Zi 1 0 rfl (AZ (off:=1) underlying30 rfl rfl sizeOf3 Y)<|Zj 3 1 rfl isAgg3 Y ?_;refine Zi 7 2 rfl (AZ (off:=2) underlying30 rfl rfl sizeOf3 Y)<|Zj 15 3 rfl isAgg3 Y ?_;refine Zi 31 4 rfl (AZ (off:=3) underlying30 rfl rfl sizeOf3 Y)<|Zj 63 5 rfl isAgg3 Y ?_;refine Zi 127 6 rfl (AZ (off:=4) underlying30 rfl rfl sizeOf3 Y)<|Zj 255 7 rfl isAgg3 Y ?_;refine Zi 511 8 rfl (Ay Y)<|Zi 1023 9 rfl (Ay Y)<|Zi 2047 10 rfl (Ay Y)<|Zi 4095 11 rfl (Ay Y)<|Am ?_;refine Zn [2,3,4,5] ?_;refine Zx<|A9 ?_;refine mV rfl results122 Y Y Y Y (by exact ⟨rfl,rfl⟩)
theorem qi(q:QM)(hq:BP q):Av Tryz.prog 52 #[.agg #[I4 q.kd,I4 q.tb,I4 q.cl,I4 q.lo,I4 q.hi,I4 q.bq,I4 q.ot]] [] (.agg #[I4 q.tb,I4 q.cl,I4 q.lo,I4 q.hi]):=by
 refine Se func52 ntmps52 [0] ?_;intro u R;refine Zq<|Zg<|Ze (Bx #[I4 q.kd,I4 q.tb,I4 q.cl,I4 q.lo,I4 q.hi,I4 q.bq,I4 q.ot]) ?_;rintro _ _ ⟨bq,rfl,rfl⟩;refine Ze (Al zeroValue106 #[_,_,_,_]) ?_;rintro _ _ ⟨bo,rfl,rfl⟩;refine Z0<|Zx<|Zq<|Zg<|Zo Wh (Pa #[_,_,_,_,_,_,_] isAgg30 sizeOf30 Y) ?_;refine Xr [_] Y call122 Y rfl (oZ q hq) ?_;refine Zm Y<|Zd Y rfl<|Zd Y rfl<|Zd Y rfl<|Zd Y rfl<|Zh 0 underlying106 rfl rfl sizeOf3 Y<|Xe (Zs sizeOf3 Y Y rfl (hi:=by first|omega|decide|(simp;done))) ?_;refine Zh 1 underlying106 rfl rfl sizeOf3 Y<|Xe (Zs sizeOf3 Y Y rfl (hi:=by first|omega|decide|(simp;done))) ?_;refine Zh 2 underlying106 rfl rfl sizeOf3 Y<|Xe (Zs sizeOf3 Y Y rfl (hi:=by first|omega|decide|(simp;done))) ?_;refine Zh 3 underlying106 rfl rfl sizeOf3 Y<|Xe (Zs sizeOf3 Y Y rfl (hi:=by first|omega|decide|(simp;done))) ?_;refine Z0<|Zn [2] ?_;refine Zx<|Zq<|Zg<|Zo Wh (AX (cs:=#[_,_,_,_]) isAgg106 sizeOf106 Y Wb (by exact Au rfl)) ?_;refine Xe (BN sizeOf106 Y Y (by(simp [Value.oneCell'];done)) Wu (by exact DU rfl) (by first|rfl|(simp;done)) Wb (by exact BQ _)) ?_;refine Z0<|Zx<|A9 ?_;refine D7 rfl results52 Y Wh (Ah isAgg106 sizeOf106 Wn (Au rfl)) (by exact ⟨rfl,rfl⟩)
end Go.Proofs.YtkdgffcfmgmemaaGreatDoor
