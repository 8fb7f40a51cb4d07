/- A patch gives the result on the rows after the change: rows, numbers, sums, least and greatest values. -/
/- A patch gives the result on the rows after the change: the pairs of a join. -/
/- proof.Replay. -/
/- Records of a log replayed: the result at the later position. -/
/- Roots of lists, in plain words. -/
/- slices.Backward; digest.Root. -/
/- digest.left, Proof. -/
/- digest.Verify. -/
/- Rows encoded; the orders of a state, its summaries and its root. -/
/- All orders; the summaries; the root of a state. -/
import Derived.Test.YteaiajghbkenoaaGreatDoorEz
import Derived.Test.YteaiajghbkenoaaGreatDoorPr5
import Derived.Test.YteaiajghbkenoaaGreatDoorQe1
import Derived.Test.YteaiajghbkenoaaGreatDoorLg4
import Derived.Test.YteaiajghbkenoaaGreatDoorEx36
set_option linter.unusedVariables false
set_option linter.unusedSimpArgs false
namespace Go.Proofs.YteaiajghbkenoaaGreatDoor
open Go.Proofs.Tryz
open Go Go.RowKit Gw
set_option maxRecDepth 100000
attribute [local irreducible] Gw.At Gw.Nx Gw.Ops
variable{rs:List AU}
theorem OI(g:BP rs):rs.Nodup:=g.imp (by
 intro a b h e;subst e;unfold AU.lt2 at h;omega)
variable{q:QM}
theorem OP(g:BJ q)(rs:List AU)(x:AU):x∈CS rs q↔x∈rs/\inQ q x=true:=by rw [(Hl g rs).mem_iff,Ek]
theorem Rw(g:BJ q)(m:BP rs):(CS rs q).Nodup:=(Hl g rs).nodup_iff.2 ((OI m).filter _)
theorem Rv(I:BJ q){o:List AU}(g:BP rs)(G:o.Nodup)(B:∀x,x∈o↔x∈rs/\inQ q x=true)(h2:o.Pairwise (leV q.cl.toNat)):o=CS rs q:=by
 have h:=Hl I rs;refine Rt g (f:=inQ q) (t:=q.tb) (fun r m=>(HX m).1) ?_ h h2 (Ej g _ _ _ _);exact (OR G ((OI g).filter _)).2 fun x=>by rw [B,Ek]
variable{y x:AU}
theorem Om{b:Bool}(h:Ht q b x=some y):y=x/\b=true/\inQ q y=true:=by
 unfold Ht at h;split at h
 · rename_i h9
   rw [Fi]at h9;injection h with h
   subst h;exact ⟨V,h9⟩
 · cases h
theorem qZ{b:Bool}(h:Ht q b x=none)(g:b=true):inQ q x=false:=by
 unfold Ht at h;rw [g,Th]at h;split at h
 · cases h
 · simp_all
theorem RO(g:BJ q)(y x:AU):KN q y x=true↔Df y q.cl.toNat<Df x q.cl.toNat\/(Df x q.cl.toNat=Df y q.cl.toNat/\y.k<x.k):=by
 have hc:=g.2.1;have e:∀r,Bl r q.cl=Df r q.cl.toNat:=fun r=>by
  have:=LM r q.cl.toNat A1;rwa [show((q.cl.toNat:Nat):Int)=q.cl by omega]at this
 unfold KN;rw [e,e,S0,Fi,G1,G1,G1]
theorem zT(B:BJ q)(h:KN q y x=false):leV q.cl.toNat x y:=by
 have g:=RO B y x;rw [h]at g;unfold leV;have:¬(Df y q.cl.toNat<Df x q.cl.toNat\/(Df x q.cl.toNat=Df y q.cl.toNat/\y.k<x.k)):=fun m=>by cases g.2 m
 omega
theorem zU(g:BJ q)(h:KN q y x=true):leV q.cl.toNat y x:=by
 have:=(RO g y x).1 h;unfold leV;omega
theorem Vn(I:BJ q){L:List AU}(U:L.Pairwise (leV q.cl.toNat))(y:AU):∃A B,L=A++B/\R7 (KN q y) L y=A++[y]++B/\(∀x∈A,KN q y x=false)/\(∀x∈B,KN q y x=true):=by
 cases h:L.findIdx? (KN q y)with
 |none=>
  refine ⟨L,[],by simp,?_,cM.1 h,by simp⟩;unfold R7;rw [h];simp
 |some i=>
  obtain ⟨J,h2,K⟩:=Wg.1 h;refine ⟨L.take i,L.drop i,(I3 i L).symm,?_,fun x g=>?_,fun x g=>?_⟩
  · unfold R7
    rw [h];rfl
  · obtain ⟨j,m⟩:=GW g
    rw [HA]at m;split at m
    · rename_i hji
      obtain ⟨W,rfl⟩:=B9.1 m;simpa using K j hji
    · cases m
  · have G:=U.sublist (List.drop_sublist i L)
    rw [RE J]at g G;rcases D2.1 g with rfl|g
    · exact h2
    · have O:=(PC.1 G).1 x g
      have X:=(RO I y _).1 h2;rw [RO I];unfold leV at O;omega
theorem ZQ(g:AU->Bool)(L:List AU)(y:AU):(R7 g L y).Perm (y::L):=by
 unfold R7;simp only [CN,MA];refine RW.trans ?_;rw [I3]
theorem fK(G:BJ q){L:List AU}(g:L.Pairwise (leV q.cl.toNat))(y:AU):(R7 (KN q y) L y).Pairwise (leV q.cl.toNat):=by
 obtain ⟨A,B,e,e2,O,U⟩:=Vn G g y;rw [e2];rw [e]at g;obtain ⟨J,h2,K⟩:=P0.1 g;rw [CN];refine P0.2 ⟨J,PC.2 ⟨fun x W=>zU G (U x W),h2⟩,fun a I b m=>?_⟩;rcases D2.1 m with rfl|m
 · exact zT G (O a I)
 · exact K a I b m
theorem zG(c:Chg)(x:AU):Jp c x=true↔x.is c.t c.k:=by
 unfold Jp AU.is;rw [Fi,G1,G1]
variable{c:Chg}
theorem Sm(m:BJ q)(g:BP rs)(B:GK rs c):E8 q c (CS rs q)=CS (EI rs c) q:=by
 have K:((CS rs q).filter fun x=>!Jp c x).Pairwise (leV q.cl.toNat):=(Ej g _ _ _ _).sublist SU;have O:((CS rs q).filter fun x=>!Jp c x).Nodup:=(Rw m g).filter _
 have G:∀x,x∈((CS rs q).filter fun x=>!Jp c x)↔(x∈rs/\¬x.is c.t c.k)/\inQ q x=true:=fun x=>by
  rw [Ek,OP m,SZ,<-nh,zG];constructor
  · rintro ⟨⟨a,b⟩,d⟩;exact ⟨⟨a,d⟩,b⟩
  · rintro ⟨⟨a,d⟩,b⟩;exact ⟨⟨a,b⟩,d⟩
 unfold E8;cases ha:afQ q c with
 |none=>
  refine Rv m (J6 g B) O (fun x=>?_) K;rw [G,Fy g B];constructor
  · rintro ⟨a,b⟩;exact ⟨.inl a,b⟩
  · rintro ⟨a|⟨a,rfl⟩,b⟩
    · exact ⟨a,b⟩
    · rw [qZ ha a]at b;cases b
 |some y=>
  obtain ⟨I,U,hi⟩:=Om ha;have J:y∉((CS rs q).filter fun x=>!Jp c x):=fun h=>((G y).1 h).1.2 (by rw [I];exact ⟨rfl,rfl⟩)
  refine Rv m (J6 g B) ((ZQ _ _ y).nodup_iff.2 (Hi.2 ⟨J,O⟩)) (fun x=>?_) (fK m K y);rw [(ZQ _ _ y).mem_iff,D2,G,Fy g B];constructor
  · rintro (rfl|⟨a,b⟩)
    · exact ⟨.inr ⟨U,I⟩,hi⟩
    · exact ⟨.inl a,b⟩
  · rintro ⟨a|⟨a,e⟩,b⟩
    · exact .inr ⟨a,b⟩
    · exact .inl (e.trans I.symm)
theorem aP(lt:Int->Int->Bool)(G:∀a b c,lt b a=false->lt c b=false->lt c a=false)(m:∀a,lt a a=false)(g:∀a b,lt a b=true->lt b a=false)(B:∀a b,lt a b=false->lt b a=false->a=b){l:List Int}{x:Int}(I:x∈l)(h:∀y∈l,lt y x=false):ER lt l=⟨[],x,true⟩:=by
 match l,I,h with
 |z::l,I,h=>
  obtain ⟨J,K,O,U⟩:=KJ lt G m g z l;rw [U,B x J (O x I) (h J K)]
theorem tV(lt:Int->Int->Bool)(l:List Int)(n:Int):ER lt (l++[n])=⟨(ER lt l).rows,if !(ER lt l).fnd||lt n (ER lt l).val then n else(ER lt l).val,true⟩:=by
 unfold ER;rw [Xs];rfl
theorem mZ(lt:Int->Int->Bool)(G:∀a b c,lt b a=false->lt c b=false->lt c a=false)(g:∀a,lt a a=false)(m:∀a b,lt a b=true->lt b a=false)(B:∀a b,lt a b=false->lt b a=false->a=b)(X:List Int)(b a:Option Int)
 (h:(GZ lt b.isSome a.isSome (b.getD 0) (a.getD 0) (ER lt (X++b.toList))).2=true):(GZ lt b.isSome a.isSome (b.getD 0) (a.getD 0) (ER lt (X++b.toList))).1=ER lt (X++a.toList):=by
 have I:∀r:CE,r=ER lt X->(if a.isSome then((⟨r.rows,if !r.fnd||lt (a.getD 0) r.val then a.getD 0 else r.val,true⟩:CE),true)else(r,true)).1=ER lt (X++a.toList):=fun r hr=>by
  subst hr;cases a with
  |none=>simp
  |some n=>rw [nc,tV];rfl
 cases b with
 |none=>
  have e:ER lt (X++(none:Option Int).toList)=ER lt X:=by simp
  rw [e]at h⊢;exact I _ V
 |some o=>
  have O:∃x∈X++[o],(∀y∈X++[o],lt y x=false)/\ER lt (X++[o])=⟨[],x,true⟩:=by
   cases hx:X++[o]with
   |nil=>simp at hx
   |cons z l=>exact KJ lt G g m z l
  obtain ⟨x,Z,h2,h3⟩:=O;rw [nc]at h⊢;rw [h3]at h⊢;unfold GZ at h⊢;simp only [Option.isSome_some,gE,Th,S1,kj]at h⊢;cases hxo:lt x o with
  |false=>
   rw [hxo]at h;simp only [cT,Hb]at h⊢;have U:=h2 o B0
   have K:=B x o hxo U;subst K;cases a with
   |none=>simp at h
   |some n=>
    simp only [Option.isSome_some,gE,Th,Bool.and_true,SZ]at h;rw [nc,aP lt G g m B (x:=n) B0 fun y J=>?_]
    · rfl
    · rcases BE.1 J with J|J
      · exact G n x y h (h2 y (by simp [J]))
      · rw [BT.1 J];exact g n
  |true=>
   simp only [S1,MT,HI];have W:x∈X:=by
    rcases BE.1 Z with h9|h9
    · exact h9
    · rw [BT.1 h9,g]at hxo;cases hxo
   have e:(⟨[],x,true⟩:CE)=ER lt X:=(aP lt G g m B W fun y J=>h2 y (by simp [J])).symm;have:=I _ e
   simpa using this
theorem Ou(q:QM)(a b:List AU):Cu q (a++b)=Cu q a++Cu q b:=Bm
theorem Z5(q:QM)(o:Option AU):Cu q o.toList=(o.map fun r=>Bl r q.bq).toList:=by cases o<;>rfl
theorem eX(q:QM)(o:Option AU):mQ q o=(o.map fun r=>Bl r q.bq).getD 0:=by cases o<;>rfl
theorem iy(q:QM)(o:Option AU):o.isSome=(o.map fun r=>Bl r q.bq).isSome:=by cases o<;>rfl
theorem vV(o:Option Int):Jm o.toList=o.getD 0:=by
 cases o with
 |none=>rfl
 |some x=>show x+0=x;omega
theorem Ym(K:BJ q)(hs:BP rs)(hf:GK rs c)(h7:q.kd≠7)(J:Co q c=true)(h:(Bw q c (Cj rs q)).2=true):(Bw q c (Cj rs q)).1=Cj (EI rs c) q:=by
 obtain ⟨A,B,e1,e2⟩:=Q0 hf;have f1:rs.filter (inQ q)=A.filter (inQ q)++(bfQ q c).toList++B.filter (inQ q):=by
  conv=>lhs;rw [e1]
  rw [Hh,Hh,TG]
 have f2:(EI rs c).filter (inQ q)=A.filter (inQ q)++(afQ q c).toList++B.filter (inQ q):=by
  rw [e2,Hh,Hh,TI]
 have p1:=Hl K rs;have p2:=Hl K (EI rs c)
 rw [f1]at p1;rw [f2]at p2;have hk:=K.2.2.2
 have l1:=p1.length_eq;have l2:=p2.length_eq
 simp only [B7]at l1 l2;have m1:(Cu q (CS rs q)).Perm ((Cu q (A.filter (inQ q))++Cu q (B.filter (inQ q)))++((bfQ q c).map fun r=>Bl r q.bq).toList):=by
  rw [<-Z5,<-Ou,<-Ou];refine (p1.map _).trans (List.Perm.map _ ?_);simp only [CN];exact RK _ LR
 have m2:(Cu q (CS (EI rs c) q)).Perm ((Cu q (A.filter (inQ q))++Cu q (B.filter (inQ q)))++((afQ q c).map fun r=>Bl r q.bq).toList):=by
  rw [<-Z5,<-Ou,<-Ou];refine (p2.map _).trans (List.Perm.map _ ?_);simp only [CN];exact RK _ LR
 have hx:∀lt:Int->Int->Bool,(∀a b c,lt b a=false->lt c b=false->lt c a=false)->(∀a,lt a a=false)->(∀a b,lt a b=true->lt b a=false)->(∀a b,lt a b=false->lt b a=false->a=b)->(GZ lt (bfQ q c).isSome (afQ q c).isSome (mQ q (bfQ q c)) (mQ q (afQ q c)) (ER lt (Cu q (CS rs q)))).2=true->(GZ lt (bfQ q c).isSome (afQ q c).isSome (mQ q (bfQ q c)) (mQ q (afQ q c)) (ER lt (Cu q (CS rs q)))).1=ER lt (Cu q (CS (EI rs c) q)):=fun lt O U W X h9=>by
  rw [PK lt O U W X (fun y=>m1.mem_iff),eX,eX,iy,iy]at h9⊢;rw [PK lt O U W X (fun y=>m2.mem_iff)];exact mZ lt O U W X _ _ _ h9
 unfold Bw Cj FN at h⊢;unfold Co at J;rcases (by omega:(q.kd=1\/q.kd=2)\/q.kd=3\/q.kd=4\/q.kd=5\/q.kd=6)with h8|h8|h8|h8|h8
 · have G:¬q.kd=3:=by omega
   have I:¬q.kd=4:=by omega
   have Z:¬q.kd=5:=by omega
   have g6:¬q.kd=6:=by omega
   simp only [AM h8,G,I,Z,g6,h7,HI,Sm K hs hf]
 · have m:¬(q.kd=1\/q.kd=2):=by omega
   simp only [AK m,AM h8]at J⊢;unfold UZ at J;cases hb:bfQ q c<;>cases ha:afQ q c<;>rw [hb,ha]at J<;>rw [hb]at l1<;>rw [ha]at l2<;>simp at J l1 l2⊢<;>omega
 · have m:¬(q.kd=1\/q.kd=2):=by omega
   have G:¬q.kd=3:=by omega
   simp only [AK m,G,AM h8,HI];have s1:=MG m1
   have s2:=MG m2;rw [Y8,vV,<-eX]at s1 s2;have g:∀l,LU l=Jm l:=fun l=>by unfold LU;rw [Mg];omega
   simp only [g];congr 1;omega
 · have m:¬(q.kd=1\/q.kd=2):=by omega
   have G:¬q.kd=3:=by omega
   have I:¬q.kd=4:=by omega
   simp only [AK m,G,I,AM h8,HI]at h⊢;exact hx _ (fun a b c h1 h2=>by simp only [N0]at*;omega) (fun a=>by simp) (fun a b h=>by simp only [G1,N0]at*;omega) (fun a b h1 h2=>by simp only [N0]at*;omega) h
 · have m:¬(q.kd=1\/q.kd=2):=by omega
   have G:¬q.kd=3:=by omega
   have I:¬q.kd=4:=by omega
   have Z:¬q.kd=5:=by omega
   simp only [AK m,G,I,Z,AM h8,HI]at h⊢;exact hx _ (fun a b c h1 h2=>by simp only [N0]at*;omega) (fun a=>by simp) (fun a b h=>by simp only [G1,N0]at*;omega) (fun a b h1 h2=>by simp only [N0]at*;omega) h
theorem Ff(m:BP rs)(k:Int)(x:AU):Da q (IK rs q.ot) k=some x↔x∈rs/\x.is q.ot k:=by
 have J:∀a∈rs,∀b∈rs,a.is q.ot k->b.is q.ot k->a=b:=fun a G b I B h2=>by
  have e1:=KH m G B;have e2:=KH m I h2
  rw [e1]at e2;injection e2
 have g:∀y,y∈IK rs q.ot/\decide (y.t=q.ot/\y.k=k)=true↔y∈rs/\y.is q.ot k:=fun y=>by
  unfold IK inT AU.is;rw [Ek,G1,G1];constructor
  · rintro ⟨⟨a,_⟩,b⟩;exact ⟨a,b⟩
  · rintro ⟨a,b⟩;exact ⟨⟨a,b.1⟩,b⟩
 unfold Da;constructor
 · intro h
   exact (g x).1 ⟨iv h,by simpa using kf (p:=fun x:AU=>decide (x.t=q.ot/\x.k=k)) h⟩
 · intro h
   cases hf:(IK rs q.ot).find? fun x=>decide (x.t=q.ot/\x.k=k)with
   |none=>
    have:=k8.1 hf x ((g x).2 h).1;exact absurd ((g x).2 h).2 this
   |some y=>
    have h2:=(g y).1 ⟨iv hf,by simpa using kf (p:=fun x:AU=>decide (x.t=q.ot/\x.k=k)) hf⟩;rw [J y h2.1 x h.1 h2.2 h.2]
def prQ(rs:List AU)(q:QM)(r:AU):Option Bc:=(Da q (IK rs q.ot) (Bl r q.bq)).map fun x=>⟨r,x⟩
def o4(rs:List AU)(q:QM):List Bc:=(CS rs q).filterMap (prQ rs q)
theorem ZI(rs:List AU)(q:QM):∀l:List AU,Ij q l (IK rs q.ot)=DV (l.filterMap (prQ rs q))
 |[]=>rfl
 |r::l=>by
  have h:=ZI rs q l;unfold Ij at h⊢;rw [HL,h,jj];unfold Ii prQ;cases Da q (IK rs q.ot) (Bl r q.bq)<;>rfl
theorem dx(ps:List Bc):Eu (DV ps)=ps:=by
 have G:(DV ps).length=2*ps.length:=IA ps;have g:∀(ps:List Bc) (k:Nat) (p:Bc),ps[k]?=some p->(DV ps)[2*k]?=some p.l/\(DV ps)[2*k+1]?=some p.r:=by
  intro ps;induction ps with
  |nil=>intro k p h;cases h
  |cons a ps ih=>
   intro k p h;have e:DV (a::ps)=a.l::a.r::DV ps:=rfl
   rw [e];cases k with
   |zero=>injection h with h;subst h;exact ⟨rfl,rfl⟩
   |succ k=>
    have:=ih k p h;rw [show 2*(k+1)=2*k+2 by omega];exact this
 apply Ln;intro k;have m:(Eu (DV ps)).length=ps.length:=by rw [K8];omega
 rcases Dg k ps.length with h|h
 · obtain ⟨B,h2⟩:=g ps k _ (B4 h)
   unfold Eu;rw [DM,X2 A1,N2,Lz,Lz,B,h2,B4 h];rfl
 · rw [LS A1,LS h]
variable{α:Type}
theorem wK{a b:Option α}(h:∀x,a=some x↔b=some x):a=b:=Option.ext h
variable{r:AU}
theorem VN{p:Bc}(h:prQ rs q r=some p):p.l=r/\Da q (IK rs q.ot) (Bl r q.bq)=some p.r:=by
 unfold prQ at h;cases hp:Da q (IK rs q.ot) (Bl r q.bq)with
 |none=>rw [hp]at h;cases h
 |some x=>rw [hp]at h;injection h with h;subst h;exact ⟨rfl,rfl⟩
theorem Tj{α β:Type}{f g:α->Option β}:∀{l:List α},(∀x∈l,f x=g x)->l.filterMap f=l.filterMap g
 |[],_=>rfl
 |x::l,h=>by rw [jj,jj,h x B0,Tj fun y m=>h y (by simp [m])]
theorem NE{β γ:Type}(f:α->Option β)(g:β->Option γ)(h:α->Option γ)(l:List α)(e:∀x∈l,(f x).bind g=h x):(l.filterMap f).filterMap g=l.filterMap h:=by
 rw [mT];exact Tj e
theorem tO(g:Bc->Bool)(A B:List Bc)(y:Bc)(m:∀x∈A,g x=false)(G:∀x∈B,g x=true):Oz g (A++B) y=A++[y]++B:=by
 have e:((A++B).findIdx? g).getD (A++B).length=A.length:=by
  rw [List.findIdx?_append,cM.2 m];cases B with
  |nil=>simp
  |cons b B=>rw [List.findIdx?_cons,G b B0];simp
 unfold Oz;rw [e];simp
theorem Yj(hq:BJ q)(K:BP rs)(X:GK rs c)(h7:q.kd=7)(ht:Co q c=true)(h:(Bw q c (Cj rs q)).2=true):(Bw q c (Cj rs q)).1=Cj (EI rs c) q:=by
 have j3:=J6 K X;have gB:∀rs,Cj rs q=⟨DV (o4 rs q),0,false⟩:=fun rs=>by
  unfold Cj FN;simp only [show¬q.kd=3 by omega,show¬q.kd=4 by omega,show¬q.kd=5 by omega,show¬q.kd=6 by omega,h7,Hb,HI];rw [ZI];rfl
 have l9:∀r,Bw q c r=DD q c r:=fun r=>by
  unfold Bw;simp only [show¬(q.kd=1\/q.kd=2) by omega,show¬q.kd=3 by omega,show¬q.kd=4 by omega,show¬q.kd=5 by omega,show¬q.kd=6 by omega,HI]
 have o9:Nz q c=true\/c.t=q.ot:=by
  unfold Co at ht;simp only [show¬(q.kd=1\/q.kd=2) by omega,show¬q.kd=3 by omega,show¬q.kd=4 by omega,show¬(q.kd=5\/q.kd=6) by omega,HI,S0,G1]at ht;exact ht
 rw [l9,gB]at h⊢;rw [gB];unfold DD at h⊢;split
 · rename_i g;rw [AM g]at h;cases h
 rename_i hto;rw [AK hto]at h;simp only [dx]at h⊢;congr 2;have gm:c.t≠q.tb->CS (EI rs c) q=CS rs q:=fun ic=>by
  refine (Rv hq j3 (Rw hq K) (fun x=>?_) (Ej K _ _ _ _)).symm;rw [OP hq,Fy K X];constructor
  · rintro ⟨a,b⟩
    exact ⟨.inl ⟨a,fun g=>ic (g.1.symm.trans (HX b).1)⟩,b⟩
  · rintro ⟨⟨a,_⟩|⟨a,rfl⟩,b⟩
    · exact ⟨a,b⟩
    · exact absurd (HX b).1 ic
 unfold jnT o4 at h⊢;by_cases G:c.t=q.ot
 · rw [AM G]at h⊢
   rw [gm A1];have U:∀k,Da q (IK (EI rs c) q.ot) k=if k=c.k then(if c.has then some ⟨c.t,c.k,c.n⟩else none)else Da q (IK rs q.ot) k:=fun k=>by
    apply wK;intro x;rw [Ff j3,Fy K X];unfold AU.is;split
    · rename_i m
      split
      · rename_i O
        rw [Option.some_inj];constructor
        · rintro ⟨⟨_,a⟩|⟨_,rfl⟩,b,d⟩
          · exact absurd ⟨b.trans G.symm,d.trans m⟩ a
          · rfl
        · rintro rfl;exact ⟨.inr ⟨O,rfl⟩,G,m.symm⟩
      · rename_i O
        constructor
        · rintro ⟨⟨_,a⟩|⟨a,_⟩,b,d⟩
          · exact absurd ⟨b.trans G.symm,d.trans m⟩ a
          · exact absurd a O
        · intro g;cases g
    · rename_i m
      rw [Ff K];unfold AU.is;constructor
      · rintro ⟨⟨a,_⟩|⟨_,rfl⟩,b⟩
        · exact ⟨a,b⟩
        · exact absurd b.2.symm m
      · rintro ⟨a,b,d⟩
        exact ⟨.inl ⟨a,fun g=>m (d.symm.trans g.2)⟩,b,d⟩
   have af:c.had=true->∃x,Da q (IK rs q.ot) c.k=some x:=fun O=>by
    obtain ⟨r,hr,hi,_⟩:=JF (X.1.trans O);exact ⟨r,(Ff K c.k r).2 ⟨hr,by rw [<-G];exact hi⟩⟩
   have J:∀{k x},Da q (IK rs q.ot) k=some x->x.k=k:=fun g=>((Ff K _ _).1 g).2.2;split
   · rename_i O
     rw [AM O]at h;obtain ⟨x0,W⟩:=af h;rw [<-List.filterMap_eq_map];refine NE _ _ _ _ fun r _=>?_;unfold prQ;rw [U,O];by_cases m:Bl r q.bq=c.k
     · rw [m,W,AM rfl]
       simp only [N2,IF,Function.comp_apply,H7,J W,decide_true,Hb]
     · rw [AK m]
       cases I:Da q (IK rs q.ot) (Bl r q.bq)with
       |none=>rfl
       |some x=>simp only [N2,IF,Function.comp_apply,H7,J I,m,Wf,MT,HI]
   · rename_i O
     rw [AK O]at h;rw [<-mc];refine NE _ _ _ _ fun r _=>?_;unfold prQ;rw [U,AK O];by_cases m:Bl r q.bq=c.k
     · rw [m,AM rfl]
       obtain ⟨x0,W⟩:=af h;rw [W];simp [Option.guard,H7,J W]
     · rw [AK m]
       cases I:Da q (IK rs q.ot) (Bl r q.bq)with
       |none=>rfl
       |some x=>simp [Option.guard,H7,J I,m]
 · rw [AK G]at h⊢
   have hg:∀r,prQ (EI rs c) q r=prQ rs q r:=fun r=>by unfold prQ;rw [iH X G]
   have l8:prQ (EI rs c) q=prQ rs q:=funext hg;rw [l8];have o8:c.t=q.tb:=by
    rcases o9 with g|g
    · unfold Nz at g
      rw [S0]at g;rcases g with g|g
      · obtain ⟨y,hy⟩:=fm.1 g
        obtain ⟨e,_,hi⟩:=Om hy;rw [e]at hi;exact (HX hi).1
      · obtain ⟨y,hy⟩:=fm.1 g
        obtain ⟨e,_,hi⟩:=Om hy;rw [e]at hi;exact (HX hi).1
    · exact absurd g G
   have ek:((CS rs q).filterMap (prQ rs q)).filter (fun p=>!QF c.k p)=((CS rs q).filter fun x=>!Jp c x).filterMap (prQ rs q):=by
    rw [<-mc,<-mc,mT,mT];refine Tj fun r hr=>?_;have Z:r.t=c.t:=((HX ((OP hq rs r).1 hr).2).1).trans o8.symm
    by_cases m:r.k=c.k
    · cases I:prQ rs q r with
      |none=>simp [Option.guard,Jp,Z,m]
      |some p=>simp [Option.guard,Jp,Z,m,QF,(VN I).1]
    · cases I:prQ rs q r with
      |none=>simp [Option.guard,Jp,Z,m,I]
      |some p=>simp [Option.guard,Jp,Z,m,QF,(VN I).1,I]
   rw [ek]at h⊢;have gq:=Sm hq K X
   rw [<-gq];unfold E8;cases ha:afQ q c with
   |none=>rfl
   |some y=>
    rw [ha]at h;simp only [ha]at h⊢;have hm:mQ q (some y)=Bl y q.bq:=rfl
    rw [hm]at h⊢;have hL:((CS rs q).filter fun x=>!Jp c x).Pairwise (leV q.cl.toNat):=(Ej K _ _ _ _).sublist SU
    obtain ⟨A,B,e1,e2,hA,hB⟩:=Vn hq hL y;rw [e2];cases hfi:((CS rs q).filterMap (prQ rs q)).findIdx? (H7 (Bl y q.bq))with
    |none=>
     have hi:Gt (H7 (Bl y q.bq)) ((CS rs q).filterMap (prQ rs q))=-1:=by unfold Gt;rw [hfi];rfl
     rw [hi,AM AW]at h⊢;rw [Fi,G1]at h;obtain ⟨b,hb⟩:=fm.1 h.1;obtain ⟨eb,gy,kv⟩:=Om hb;have g:=h.2
     rw [hb]at g;have l5:b∈CS rs q:=by
      refine (OP hq rs b).2 ⟨?_,kv⟩;obtain ⟨r,hr,hi,_,he⟩:=JF (X.1.trans gy);have hv:=X.2 (X.1.trans gy)
      rw [he]at hv;have:b=r:=by
       rw [eb];obtain ⟨t,k,v⟩:=r;obtain ⟨h5,h6⟩:=hi;simp only at h5 h6 hv;subst h5 h6 hv;rfl
      rw [this];exact hr
     have bn:prQ rs q b=none:=by
      cases I:prQ rs q b with
      |none=>rfl
      |some p=>
       have ax:=cM.1 hfi p (XS.2 ⟨b,l5,I⟩);have j5:=(Ff K _ _).1 (VN I).2
       unfold H7 at ax;rw [N0]at ax;exact absurd (j5.2.2.trans g) ax
     have cu:prQ rs q y=none:=by
      unfold prQ at bn⊢;rw [show Bl y q.bq=Bl b q.bq from g.symm];cases I:Da q (IK rs q.ot) (Bl b q.bq)with
      |none=>rfl
      |some x=>rw [I]at bn;cases bn
     rw [e1,dv,dv,dv];simp [cu]
    |some i=>
     obtain ⟨h1,h2,h3⟩:=Wg.1 hfi;have hi:Gt (H7 (Bl y q.bq)) ((CS rs q).filterMap (prQ rs q))=(i:Int):=by unfold Gt;rw [hfi];rfl
     rw [hi,AK A1]at h⊢;rw [W0,Lz,B4 h1,gE];obtain ⟨r,hr,I⟩:=XS.1 (nm h1);generalize ((CS rs q).filterMap (prQ rs q))[i]=p at h2 I;have h4:=(Ff K _ _).1 (VN I).2
     unfold H7 at h2;rw [G1]at h2;have cu:prQ rs q y=some ⟨y,p.r⟩:=by
      unfold prQ;rw [(Ff K (Bl y q.bq) p.r).2 ⟨h4.1,h4.2.1,h2⟩];rfl
     rw [e1,dv,tO]
     · simp [cu]
     · intro x hx
       obtain ⟨r9,d9,cO⟩:=XS.1 hx;rw [(VN cO).1];exact hA r9 d9
     · intro x hx
       obtain ⟨r9,d9,cO⟩:=XS.1 hx;rw [(VN cO).1];exact hB r9 d9
theorem dh(B:BJ q)(G:BP rs)(m:GK rs c)(I:Co q c=true)(h:(Bw q c (Cj rs q)).2=true):(Bw q c (Cj rs q)).1=Cj (EI rs c) q:=by
 by_cases g:q.kd=7
 · exact Yj B G m g I h
 · exact Ym B G m g I h
def GD(q:QM)(base:Int):Nat->CE×Int->List BU->Option (CE×Int)
 |_,st,[]=>some st
 |i,st,x::l=>if(Ba q st.1 x.cs).2.2=true/\base<=9223372036854775806 -(i:Int)/\x.p=base+1+(i:Int)then GD q base (i+1) ((Ba q st.1 x.cs).1,if(Ba q st.1 x.cs).2.1 then x.p else st.2) l else none
theorem OW(q:QM)(base:Int):∀(a:List BU) (i:Nat) (st:CE×Int) (b:List BU),GD q base i st (a++b)=(GD q base i st a).bind fun g=>GD q base (i+a.length) g b
 |[],i,st,b=>rfl
 |x::a,i,st,b=>by
  show(if(Ba q st.1 x.cs).2.2=true/\base<=9223372036854775806 -(i:Int)/\x.p=base+1+(i:Int)then GD q base (i+1) _ (a++b)else none)=(if(Ba q st.1 x.cs).2.2=true/\base<=9223372036854775806 -(i:Int)/\x.p=base+1+(i:Int)then GD q base (i+1) _ a else none).bind _;split
  · rw [OW q base a (i+1) _ b,DH,show i+(a.length+1)=i+1+a.length by omega]
  · rfl
theorem J2{base:Int}{st g:CE×Int}{l:List BU}{k:Nat}{x:BU}(h:GD q base 0 st (l.take k)=some g)(m:l[k]?=some x):GD q base 0 st (l.take (k+1))=if(Ba q g.1 x.cs).2.2=true/\base<=9223372036854775806 -(k:Int)/\x.p=base+1+(k:Int)then some ((Ba q g.1 x.cs).1,if(Ba q g.1 x.cs).2.1 then x.p else g.2)else none:=by
 have B:=(B9.1 m).1;rw [Bn m,OW,h,C1,N3 A1,Cl];rfl
theorem MH{base:Int}{st:CE×Int}{l:List BU}{k:Nat}(h:GD q base 0 st (l.take k)=none):GD q base 0 st l=none:=by
 rw [<-I3 k l,OW,h];rfl
def BC(q:QM)(r:CE)(base:Int)(l:List BU):CE×Int×Bool:=match GD q base 0 (r,base) l with
 |some st=>(st.1,st.2,true)
 |none=>(CE.none,0,false)
theorem M7{r:CE}{cs:List Chg}(h:(Ba q r cs).2.2=true):Hm q r cs=some (Ba q r cs).1/\(Ba q r cs).2.1=cs.any (Di q):=by
 unfold Ba at*;split at h
 · rename_i h9;rw [h9];exact ⟨rfl,rfl⟩
 · cases h
theorem OV{q:QM}{base:Int}:∀(l:List BU) (i:Nat) (st st':CE×Int) (B:Int) (n:Nat),GD q base i st l=some st'->(∀x∈l,x.cs.length<=1000)->(-B<=st.1.val/\st.1.val<=B)->0<=B->st.1.rows.length<=n->(-(B+2000000000000*(l.length:Int))<=st'.1.val/\st'.1.val<=B+2000000000000*(l.length:Int))/\st'.1.rows.length<=n+2000*l.length
 |[],i,st,st',B,n,h,hl,h1,h2,h3=>by
  unfold GD at h;injection h with h
  subst h;simp only [J1];exact ⟨⟨by omega,by omega⟩,h3⟩
 |x::l,i,st,st',B,n,h,hl,h1,h2,h3=>by
  unfold GD at h;split at h
  · rename_i h9
    have I:=Wq _ _ _ B n (M7 h9.1).1 h1 h2 h3;have J:=hl x B0
    have m:=OV l (i+1) _ st' (B+2000000000000) (n+2000) h (fun y G=>hl y (by simp [G])) ⟨by simp only;omega,by simp only;omega⟩ A1 (by simp only;omega);rw [DH];obtain ⟨⟨K,O⟩,g⟩:=m;refine ⟨⟨?_,?_⟩,by omega⟩<;>(push_cast;omega)
  · cases h
set_option maxHeartbeats 1000000 in
theorem QZ(q:QM)(hq:BJ q)(base:Int)(hb:-9223372036854775808<=base/\base<=9223372036854775807){l:List BU}{lv:Value}{ML:List A9}(hL:EU ML lv l)(o8:l.length<=1000)(U:∀x∈l,x.cs.length<=1000){r:CE}{rv:Value}{A:List A9}(hr:De A rv r.rows)(hn:r.rows.length<=1000000)(hv:-1000000000000000000<=r.val/\r.val<=1000000000000000000):BZ prog 91 #[.agg q.A30,.agg #[rv,I4 r.val,.bool r.fnd],I4 base,lv] [A,ML] (fun w H'=>∃af s',w= .tuple #[.agg #[af,I4 (BC q r base l).1.val,.bool (BC q r base l).1.fnd],I4 (BC q r base l).2.1,.bool (BC q r base l).2.2]/\Bb 5 83 af (BC q r base l).1.rows.length (Af (BC q r base l).1.rows) s'/\H'=[s',A,ML]):=by
 have p8:=mL;obtain ⟨pv,cv,rfl,_⟩:=id hr;obtain ⟨pl,kv,rfl,⟨o9,l9⟩,gm⟩:=id hL;refine Se func91 ntmps91 [0,1,2,3] ?_;intro u R;refine A0<|Ze (Bx q.A30)<|AD fun bq=>Ze (Bx #[.slice pv r.rows.length cv,I4 r.val,.bool r.fnd])<|AD fun br=>Ze (Al G3 #[_,_,_])<|AD fun bo=>Za Y<|A3 Y<|A0<|Zm Y<|A3 Y<|A0<|Zh 0 C7 V rfl C6 Y<|Zl FA Y ?_;refine Zc [_] Y call109 Y V (Gg hr A1) ?_;rintro _ _ ⟨_,⟨s1,h1,rfl⟩,rfl⟩;obtain ⟨g1,c1,rfl⟩:=h1.form;refine Zh 0 C7 V rfl C6 Y<|Xe (Zs C6 Y Y V (hi:=by(simp;done))) ?_;refine A4<|Zq<|A0<|Zm Y<|Zv (Aa GC Y)<|Zm Y<|Z0<|Zn [2,4,5,8,11,22,23,24] ?_;refine Zx<|AQ<|Zb [11,24,2,4,5,8,22,23] ?_;refine BB (e0:=[(11,_),(24,_)]) (fun m e H=>∃(k:Nat) (g:CE×Int) (gk:Option Addr) (ck:Nat) (sk:List A9),m=l.length -k/\(k<=l.length/\GD q base 0 (r,base) (l.take k)=some g/\Bb 5 83 (.slice gk g.1.rows.length ck) g.1.rows.length (Af g.1.rows) sk)/\e=[(11,I4 g.2),(24,I4 (k:Int))]/\H=[[(br,.cells #[.slice gk g.1.rows.length ck,I4 g.1.val,.bool g.1.fnd] 53 (0,0))],sk]) (by exact ⟨0,(r,base),g1,c1,s1,rfl,⟨C0 _,by rw [Hx];rfl,h1⟩,rfl,rfl⟩) Wp ?_;rintro _ _ _ ⟨k,g,gk,ck,sk,rfl,⟨hk,B,Z⟩,rfl,rfl⟩;obtain ⟨gB,gy⟩:=OV (l.take k) 0 (r,base) g 1000000000000000000 1000000 B (fun x J=>U x (On J)) hv A1 hn;have gq:(l.take k).length=k:=by rw [C1];omega
 rw [gq]at gB gy;have d9:=DU Z A1
 refine A0<|Zv (Av Y Y)<|A4<|Zq<|Au Y (fun X=>?_) (fun X=>?_)
 ·
  obtain ⟨x,J⟩:∃x,l[k]?=some x:=⟨_,B4 X⟩;have j3:=U x (DE J)
  obtain ⟨cO,g2,l8,O,T2,j5,rfl,ic,l5,W⟩:=gm k x J;refine AC<|Zx<|Zq<|AQ<|A0<|Zm Y<|BX (Ac GC F2 Y Y A1)<|CQ (cs:=[(g2,.cells O T2 j5)]) (by simp [ic]) (AA (cs:=#[I4 x.p,.slice x.q x.cs.length x.cap]) HW F2 Y A1 W) V rfl ?_;refine Ze (Al Sx #[_,_])<|AD fun bx=>Za Y<|Xe (Xw F2 #[I4 x.p,.slice x.q x.cs.length x.cap]) ?_;refine A4<|A0<|Zo Wh (AA (cs:=#[_,_,_,_,_,_,_]) E4 CC Y Ax AN) ?_;refine Zo Wh (AA (cs:=#[_,_,_]) BW As Y Ax AN) ?_;refine Zo Wh (AA (cs:=#[_,_]) HW F2 Y Ax AN) ?_;refine Zc [_,_,_] Y call55 Y V (JJ q hq x.p x.q x.cap x.cs cO j3 d9 A1 A1) ?_;rintro _ _ ⟨_,⟨p9,s3,rfl,h3,rfl⟩,rfl⟩;obtain ⟨g3,c3,rfl⟩:=h3.form;refine Zm Y<|Zd Y V<|Zd Y V<|Zd Y V<|Ze (Al G3 #[_,_,_])<|AD fun bn=>Xe (Xw As #[.slice g3 (Ba q g.1 x.cs).1.rows.length c3,I4 (Ba q g.1 x.cs).1.val,.bool (Ba q g.1 x.cs).1.fnd]) ?_;refine Za Y<|AG Y<|Zn [2,4,5,8,11,12,13,14,15,16,22,23,24] ?_;refine Zx<|Zq<|A0<|Zm Y<|Zv (Bo Y)<|Zm Y<|Ag (t:=39) Y V (fun K=>?_) (fun K=>?_)
  ·
   have I:(Ba q g.1 x.cs).2.2=false:=by simpa using K
   refine A7 Y V<|A7 Y V<|A7 Y V<|A7 Y V<|Zv (AV Y Y)<|Zm Y ?_;repeat refine A7 Y rfl ?_
   refine Zv (AV Y Y)<|Z0<|Zn [2,4,5,8,11,13,14,15,22,23,24,53] ?_;refine Zx<|Cn Y<|Zq<|BV ?_;have G:BC q r base l=(CE.none,0,false):=by unfold BC;rw [MH (k:=k+1) (by rw [J2 B J,AK (by(rw [I];rintro ⟨h,_⟩;cases h;done))])]
   refine Zg<|Zv (BL (vs:=[]) (cs:=#[_,_,_]) Y (AY (pl:=#[(0,1),(1,1),(2,1)]) G3 C7 (fun _=>by kernel_rfl) V))<|Xe (Xw As _) ?_;refine Za Y<|A3 Y<|AJ<|Zt<|Ae<|Zt<|Zt<|Ae<|Zt<|Hu rfl results91 Y Wh (Ak BW As Wn (rfl)) Y Y (by exact ⟨.slice none 0 0,[],by rw [G];rfl,by rw [G];exact Bf 5 _,rfl⟩)
  have I:(Ba q g.1 x.cs).2.2=true:=by simpa using K
  refine Zf Y Y<|Zf Y Y ?_
  (refine Gr Y (CO (m:=9223372036854775806) Y Y ?_ ?_) rfl rfl ?_;(focus (omega));(focus (omega)))
  refine Yg (Er Y Y)<|Zv (AL Y Y)<|Zm Y<|Am (t:=45) Y V (fun ax=>?_) (fun ax=>?_)
  ·
   repeat refine A7 Y rfl ?_
   refine Zv (AV Y Y)<|Z0<|Zn [2,4,5,8,11,13,14,15,22,23,24,53] ?_;refine Zx<|Cn Y<|Zq<|BV ?_;have G:BC q r base l=(CE.none,0,false):=by unfold BC;rw [MH (k:=k+1) (by rw [J2 B J,AK (by(rintro ⟨_,h8,h9⟩;omega))])]
   refine Zg<|Zv (BL (vs:=[]) (cs:=#[_,_,_]) Y (AY (pl:=#[(0,1),(1,1),(2,1)]) G3 C7 (fun _=>by kernel_rfl) V))<|Xe (Xw As _) ?_;refine Za Y<|A3 Y<|AJ<|Zt<|Ae<|Zt<|Zt<|Ae<|Zt<|Hu rfl results91 Y Wh (Ak BW As Wn (rfl)) Y Y (by exact ⟨.slice none 0 0,[],by rw [G];rfl,by rw [G];exact Bf 5 _,rfl⟩)
  refine Yf 0 GS V rfl A5 Y<|Yl AE Y ?_;refine Zf Y Y ?_
  (refine Gr Y (HV Y Y (IntWalk.i64_in _ ?_)) rfl rfl ?_;(focus (omega)))
  refine Zf Y Y ?_
  (refine Gr Y (HV Y Y (IntWalk.i64_in _ ?_)) rfl rfl ?_;(focus (omega)))
  refine Yg (J9 Y Y)<|Zv (AL Y Y)<|Z0<|Zn [2,4,5,8,11,13,14,15,22,23,24,53] ?_;refine Zx<|Au Y (fun cu=>?_) (fun cu=>?_)
  ·
   refine Zq<|BV ?_;have G:BC q r base l=(CE.none,0,false):=by unfold BC;rw [MH (k:=k+1) (by rw [J2 B J,AK (by(rintro ⟨_,h8,h9⟩;omega))])]
   refine Zg<|Zv (BL (vs:=[]) (cs:=#[_,_,_]) Y (AY (pl:=#[(0,1),(1,1),(2,1)]) G3 C7 (fun _=>by kernel_rfl) V))<|Xe (Xw As _) ?_;refine Za Y<|A3 Y<|AJ<|Zt<|Ae<|Zt<|Zt<|Ae<|Zt<|Hu rfl results91 Y Wh (Ak BW As Wn (rfl)) Y Y (by exact ⟨.slice none 0 0,[],by rw [G];rfl,by rw [G];exact Bf 5 _,rfl⟩)
  refine AC<|Zx<|A0<|Zo Wh (AA (cs:=#[_,_,_]) BW As Y Ax AN) ?_;refine Xe (BK As Y Y HJ Wu AN E3 Ax (by exact BA _)) ?_;refine A4<|A0<|Zm Y<|A4<|AX Y (fun ht=>?_) (fun ht=>?_)
  ·
   refine Zg<|Zh 0 GS V rfl A5 Y<|Zl AE Y ?_;refine AG Y<|A8<|Zx<|Zg<|Ya (n:=1) Y Y<|Zm Y<|Z0<|Zn [11,24,2,4,5,8,22,23] ?_;refine Ab (e':=[(11,_),(24,_)]) (by exact ⟨k+1,((Ba q g.1 x.cs).1,x.p),g3,c3,s3,rfl,⟨by omega,by rw [J2 B J,AM ⟨I,by omega,by omega⟩,ht];rfl,h3⟩,rfl,rfl⟩)
  refine AC<|A8<|Zx<|Zg<|Ya (n:=1) Y Y<|Zm Y<|Z0<|Zn [11,24,2,4,5,8,22,23] ?_;refine Ab (e':=[(11,_),(24,_)]) (by exact ⟨k+1,((Ba q g.1 x.cs).1,g.2),g3,c3,s3,rfl,⟨by omega,by rw [J2 B J,AM ⟨I,by omega,by omega⟩,ht];rfl,h3⟩,rfl,rfl⟩)
 have ek:k=l.length:=by omega
 subst ek;rw [G0]at B;have G:BC q r base l=(g.1,g.2,true):=by unfold BC;rw [B]
 refine Ay<|Zt<|Zt<|AR<|Zx<|A0<|Zo Wh (AA (cs:=#[_,_,_]) BW As Y Ax AN) ?_;refine Zm Y<|Xe (Xw As _) ?_;refine Za Y<|A3 Y<|AJ<|Hu rfl results91 Y Wh (Ak BW As Wn (rfl)) Y Y (by exact ⟨.slice gk _ ck,sk,by rw [G];rfl,by rw [G];exact Z,rfl⟩)
theorem jf(B:BJ q)(G:BP rs)(m:GK rs c)(g:c.ok)(h:(D9 q c (Cj rs q)).2=true):(D9 q c (Cj rs q)).1=Cj (EI rs c) q:=by
 unfold D9 at h⊢;cases ht:Di q c with
 |false=>
  rw [AK AW];unfold Di at ht;rw [CM g,Th]at ht;exact (tu B m ht).symm
 |true=>
  rw [ht,AM rfl]at h;rw [AM rfl];unfold Di at ht;rw [Fi]at ht;split at h
  · rename_i h9
    rw [AM h9];exact dh B G m ht.2 h9
  · cases h
theorem VA{q:QM}(G:BJ q){rs:List AU}{cs:List Chg}(I:BP rs)(m:y7 cs)(B:∀c∈cs,GK rs c)(g:∀c∈cs,c.ok):∀i,i<=cs.length->∀r,Hm q (Cj rs q) (cs.take i)=some r->r=Cj (DN rs (cs.take i)) q
 |0,_,r,h=>by
  rw [Hx]at h⊢;injection h with h
  exact h.symm
 |i+1,hi,r,h=>by
  obtain ⟨c,hc⟩:∃c,cs[i]?=some c:=⟨_,B4 A1⟩;obtain ⟨J,h2⟩:=KI I m B i A1;cases hr:Hm q (Cj rs q) (cs.take i)with
  |none=>
   have:=Pp (cs:=cs.take (i+1)) (k:=i) (q:=q) (r:=Cj rs q) (by rw [TX,N3 A1];exact hr);rw [this]at h;cases h
  |some rk=>
   have e:=VA G I m B g i A1 rk hr;rw [Jy hr hc,e]at h;split at h
   · rename_i h9
     injection h with h
     rw [<-h,EL rs cs i c hc];exact jf G J (h2 i c (CD _) hc) (g c (DE hc)) h9
   · cases h
theorem oh(g:BJ q){p rp:Int}{cs:List Chg}(B:BP rs)(h:KQ rs p rp cs){r:CE}(m:Hm q (Cj rs q) cs=some r):r=Cj (DN rs cs) q:=by
 have:=VA g B (U9 h.ok.ord) h.fit (fun c hc=>by obtain ⟨i,hi⟩:=GW hc;exact h.ok.all i c hi) cs.length (CD _) r (by rw [G0];exact m);rwa [G0]at this
def Rh(q:QM)(x:BU):Bool:=x.cs.any (Di q)
structure um(q:QM)(l:List BU)(base k:Nat)(s:Int):Prop where
 le:(base:Int)<=s/\s<=((base+k:Nat):Int)
 at_:s≠(base:Int)->∃(j:Nat) (x:BU),(j:Int)+1=s/\l[j]?=some x/\Rh q x=true
 no:∀(j:Nat) (x:BU),s<=(j:Int)->j<base+k->l[j]?=some x->Rh q x=false
theorem Po{q:QM}(U:BJ q){l:List BU}(I:F6 l){base:Nat}(hb:base<=l.length):∀k,base+k<=l.length->∀st,GD q (base:Int) 0 (Cj (Bd (l.take base)) q,(base:Int)) ((l.drop base).take k)=some st->st.1=Cj (Bd (l.take (base+k))) q/\um q l base k st.2
 |0,_,st,h=>by
  rw [Hx]at h;injection h with h
  subst h;exact ⟨V,⟨by simp only;omega,fun h=>absurd V h,fun j x B h2=>by simp only at B;omega⟩⟩
 |k+1,hk,st,h=>by
  obtain ⟨x,m⟩:∃x,l[base+k]?=some x:=⟨_,B4 A1⟩;have J:(l.drop base)[k]?=some x:=by rw [PA];exact m
  obtain ⟨O,_⟩:=I _ x m;have hp:x.p=((base+k:Nat):Int)+1:=O.pos
  cases hr:GD q (base:Int) 0 (Cj (Bd (l.take base)) q,(base:Int)) ((l.drop base).take k)with
  |none=>
   have:=MH (l:=(l.drop base).take (k+1)) (k:=k) (q:=q) (base:=(base:Int)) (st:=(Cj (Bd (l.take base)) q,(base:Int))) (by rw [TX,N3 A1];exact hr);rw [this]at h;cases h
  |some sk=>
   obtain ⟨e1,e2⟩:=Po U I hb k A1 sk hr;rw [J2 hr J]at h;split at h
   · rename_i h9
     injection h with h
     subst h;have G:=M7 h9.1
     have B:=(I.rows (base+k) A1).1;rw [e1]at G;refine ⟨?_,?_⟩
     · have:=oh U B O G.1
       rw [show base+(k+1)=base+k+1 by omega,Bn m,Gf,<-this,e1]
     · have hT:(Ba q sk.1 x.cs).2.1=Rh q x:=by rw [e1];exact G.2
       simp only [hT];obtain ⟨⟨a1,W⟩,X,Z⟩:=e2;cases ht:Rh q x with
       |true=>
        simp only [Hb];refine ⟨by omega,fun _=>⟨base+k,x,hp.symm,m,ht⟩,fun j y K h6=>by omega⟩
       |false=>
        simp only [MT,HI];refine ⟨by push_cast at W⊢;omega,X,fun j y K h6 g=>?_⟩;rcases Dg j (base+k)with h8|h8
        · exact Z j y K h8 g
        · obtain rfl:j=base+k:=by omega
          rw [m]at g;injection g with g
          rw [<-g];exact ht
   · cases h
theorem Yh(g:1<=q.kd/\q.kd<=4)(c:Chg)(r:CE):(D9 q c r).2=true:=by
 have:(Bw q c r).2=true:=by
  unfold Bw;split
  · rfl
  · split
    · rfl
    · rw [AM A1]
 unfold D9;rw [AM this];split<;>rfl
theorem SC{q:QM}(g:1<=q.kd/\q.kd<=4):∀(cs:List Chg) (r:CE),∃m,Hm q r cs=some m
 |[],r=>⟨r,rfl⟩
 |c::cs,r=>by
  unfold Hm;rw [AM (Yh g c r)];exact SC g cs _
abbrev Bs:=List UInt8
def ZA(s:Bs):Bs:=sha (0::s)
def JC(a b:Bs):Bs:=sha (1::(a++b))
def DY(n:Nat):Nat:=2^Nat.log2 (n -1)
theorem Ow(n:Nat):0<DY n:=cS _
variable{n:Nat}
theorem Ox(h:2<=n):DY n<n:=by
 have:=Nat.log2_self_le (n:=n -1) A1;unfold DY;omega
theorem wW{e:Nat}(g:2^e<n)(h2:n<=2^(e+1)):DY n=2^e:=by
 unfold DY;congr 1;refine (Nat.log2_eq_iff (by have:=cS e;omega)).2 ⟨by omega,by omega⟩
def Dk(l:List Bs):Bs:=
 if h:2<=l.length then JC (Dk (l.take (DY l.length))) (Dk (l.drop (DY l.length)))
 else match l with
  |[]=>sha []
  |x::_=>ZA x
termination_by l.length
decreasing_by
 · have:=Ox h;rw [C1];omega
 · have:=Ow l.length;rw [C2];omega
theorem pG:Dk []=sha []:=by rw [Dk];rfl
theorem pF(x:Bs):Dk [x]=ZA x:=by rw [Dk];rfl
variable{l:List Bs}
theorem kE(h:2<=l.length):Dk l=JC (Dk (l.take (DY l.length))) (Dk (l.drop (DY l.length))):=by
 rw [Dk,dif_pos h]
theorem VF{a b:List Bs}{e:Nat}(g:a.length=2^e)(h0:0<b.length)(B:b.length<=2^e):Dk (a++b)=JC (Dk a) (Dk b):=by
 have G:=cS e;have m:DY (a++b).length=a.length:=by
  rw [g];exact wW (by rw [B7];omega) (by rw [B7,eN];omega)
 rw [kE (by rw [B7];omega),m,HM,W3]
 · rfl
 · rfl
structure JO(ps:List (List Bs)):Prop where
 pow:∀p∈ps,∃e,p.length=2^e
 lt:ps.Pairwise (fun a b=>b.length<a.length)
theorem uR:JO []:=⟨by simp,.nil⟩
theorem qD{a b:Nat}(h:2^a<2^b):2*2^a<=2^b:=by
 have:=(Nat.pow_lt_pow_iff_right (a:=2) A1).1 h
 calc 2*2^a=2^(a+1):=by rw [eN];omega
  _<=2^b:=Nat.pow_le_pow_right A1 this
variable{p:List Bs}{ps:List (List Bs)}
theorem JO.tail(h:JO (p::ps)):JO ps:=⟨fun q g=>h.pow q (by simp [g]),(PC.1 h.lt).2⟩
theorem JO.init(h:JO (ps++[p])):JO ps:=⟨fun q g=>h.pow q (by simp [g]),(P0.1 h.lt).1⟩
theorem JO.sum:∀{ps:List (List Bs)} {e:Nat},JO ps->(∀p∈ps,p.length<2^e)->ps.flatten.length<2^e
 |[],e,_,_=>by simpa using cS e
 |p::ps,e,h,hl=>by
  obtain ⟨e1,g⟩:=h.pow p B0;have h2:=hl p B0
  rw [g]at h2;have B:=qD h2
  have G:=JO.sum (e:=e1) h.tail (fun q m=>by rw [<-g];exact (PC.1 h.lt).1 q m);rw [C5,B7,g];omega
theorem JO.nonempty(h:JO ps)(g:ps≠[]):0<ps.flatten.length:=by
 cases ps with
 |nil=>exact absurd rfl g
 |cons p ps=>
  obtain ⟨e,m⟩:=h.pow p B0;have:=cS e
  rw [C5,B7];omega
theorem JO.root:∀{ps:List (List Bs)} {q:List Bs},JO (ps++[q])->ps.foldr (fun p o=>JC (Dk p) o) (Dk q)=Dk (ps.flatten++q)
 |[],q,_=>by simp
 |p::ps,q,h=>by
  rw [List.foldr_cons,JO.root (ps:=ps) (q:=q) h.tail,C5,CN];obtain ⟨e,m⟩:=h.pow p B0;have G:(ps++[q]).flatten=ps.flatten++q:=by simp
  have B:JO (ps++[q]):=h.tail;have g:0<(ps++[q]).flatten.length:=JO.nonempty B B0
  have h2:=JO.sum (e:=e) B (fun r I=>by rw [<-m];exact (PC.1 h.lt).1 r I);rw [G]at g h2;exact (VF m g A1).symm
structure O1(ls:List Bs)(ps:List (List Bs))(q:List Bs)(i:Nat):Prop where
 bin:JO ps
 pow:∃e,q.length=2^e
 le:∀p∈ps,q.length<=p.length
 flat:ps.flatten++q=ls.take i
variable{ls:List Bs}{i:Nat}
theorem lG{s:Bs}(h:JO ps)(m:ps.flatten=ls.take i)(G:ls[i]?=some s):O1 ls ps [s] (i+1):=
 ⟨h,⟨0,rfl⟩,fun p B=>by
   obtain ⟨e,g⟩:=h.pow p B;have:=cS e
   rw [g];simp;omega,by rw [PF,G,m];rfl⟩
theorem O1.step{q:List Bs}(h:O1 ls (ps++[p]) q i)(e:p.length=q.length):O1 ls ps (p++q) i/\Dk (p++q)=JC (Dk p) (Dk q):=by
 obtain ⟨e1,g⟩:=h.pow;have I:=cS e1
 refine ⟨⟨h.bin.init,⟨e1+1,by rw [B7,e,g,eN];omega⟩,?_,?_⟩,VF (e.trans g) A1 A1⟩
 · intro r B
   obtain ⟨e2,h2⟩:=h.bin.pow r (by simp [B]);have m:=(P0.1 h.bin.lt).2.2 r B p B0
   rw [e,g,h2]at m;have G:=qD m
   rw [B7,e,g,h2];omega
 · rw [<-h.flat];simp
theorem O1.done{q:List Bs}(h:O1 ls ps q i)(I:∀m p,ps=m++[p]->p.length≠q.length):JO (ps++[q])/\(ps++[q]).flatten=ls.take i:=by
 refine ⟨⟨?_,?_⟩,by rw [<-h.flat];simp⟩
 · intro r B
   rcases BE.1 B with B|B
   · exact h.bin.pow r B
   · rw [BT]at B
     subst B;exact h.pow
 · rw [P0]
   refine ⟨h.bin.lt,List.pairwise_singleton _ _,?_⟩;intro a g b J;rw [BT]at J;subst J;rcases fp ps with rfl|⟨m,p,rfl⟩
   · simp at g
   · have K:=I m p B0
     have h2:=h.le p B0;have G:=h.bin.lt
     simp only [mw]at g G;rw [P0]at G;rcases BE.1 g with g|g
     · have:=G.2.2 a g p B0
       omega
     · rw [BT]at g
       subst g;omega
variable{cur:Array Value}{xs:List Value}
theorem vT(h:cur.toList.take xs.length=xs){x:Value}(m:xs[i]?=some x):cur[i]?=some x:=by
 have g:=(B9.1 m).1;rw [<-h,HA,AM g,HG]at m;exact m
theorem tH(ps:List (List Bs))(o:Bs):(ps.map Dk).reverse.foldl (fun o r=>JC r o) o=ps.foldr (fun p o=>JC (Dk p) o) o:=by
 rw [List.foldl_reverse,List.foldr_map]
def ET(M:List A9)(v:Value)(ls:List Bs):Prop:=∃p cap,v= .slice p ls.length cap/\(ls.length<=maxLen/\ls.length<=cap)/\∀(i:Nat) (s:Bs),ls[i]?=some s->∃g off cur T zz,p=some ⟨g,off,none⟩/\(g,Obj.cells cur T zz)∈M/\cur[off+i]?=some (G9 s)
def rtV(p:List Bs):Value:=G9 (Dk p)
def lnV(p:List Bs):Value:=I4 ((p.length:Nat):Int)
variable{e:TypeId}{s:List A9}
theorem Pt{sz:Nat}{b:Option Addr}{c:Nat}(h:Bb sz e (.slice b n c) n xs s)(k:Nat)(B:k<=n):Bb sz e (.slice b k c) k (xs.take (k*sz)) s:=by
 obtain ⟨G,h⟩:=h;refine ⟨by rw [C1,G,N3 (T6 _ B)],?_⟩;rcases h with⟨m,rfl,rfl⟩|⟨g,cap',cur,z,m,rfl,h2,h3,h4,h5,h6⟩
 · injection m with e1 e2 e3
   subst e1 e3;obtain rfl:k=0:=by omega
   exact .inl ⟨V,V,V⟩
 · injection m with e1 e2 e3
   subst e1 e3;refine .inr ⟨g,c,cur,z,V,V,by omega,h3,h4,?_,h6⟩;rw [<-h5,TX,N3 (T6 _ B)]
variable{v:Value}
theorem LX(h:Bb 1 e v n xs s)(h0:0<n):∃g cap cur z,v=I6 g n cap/\s=[(g,.cells cur e z)]/\n<=cap/\∀(i:Nat) (x:Value),xs[i]?=some x->cur[i]?=some x:=by
 obtain ⟨I,⟨_,B,_⟩|⟨g,m,cur,z,B,rfl,h2,K,O,G,U⟩⟩:=h
 · omega
 · rw [<-I]at G
   exact ⟨g,m,cur,z,B,V,h2,fun i x J=>vT G J⟩
variable{M:List A9}
theorem ET.mono{m:List A9}(h:ET M v ls)(J:∀c∈M,c∈m):ET m v ls:=by
 obtain ⟨p,cap,e,I,G⟩:=h;refine ⟨p,cap,e,I,fun i s K=>?_⟩;obtain ⟨g,off,cur,T,zz,e1,B,h2⟩:=G i s K;exact ⟨g,off,cur,T,zz,e1,J _ B,h2⟩
theorem Gc(h:Bb 1 e v ls.length (ls.map G9) s)(G:ls.length<=maxLen):ET s v ls:=by
 rcases PB ls.length with h0|h0
 · obtain ⟨b,cap,rfl⟩:=h.form
   exact ⟨b,cap,rfl,⟨G,by omega⟩,fun i s m=>by rw [LO h0]at m;simp at m⟩
 · obtain ⟨g,cap,cur,z,rfl,rfl,B,I⟩:=LX h h0
   refine ⟨_,cap,V,⟨G,B⟩,fun i s m=>⟨g,0,cur,e,z,V,by simp,?_⟩⟩;rw [Cl];exact I i _ (by rw [DM,m];rfl)
theorem Lb(l:List Bs):(Dk l).length=32:=by
 rw [Dk];split
 · exact Wl _
 · split<;>exact Wl _
theorem lS(s:Bs)(I:s.length<=140737488354000)(g:TypeId)(G:Nat×Nat):BI prog 276 #[.string (str s)] [[(4,.cells (Eo.map Ct).toArray g G)]] (.string (str (ZA s))):=by
 refine Se func276 ntmps276 [0] ?_;intro u R;refine A0<|A3 Y<|A0<|Zc [_] Y call303 Y V (Ql (str [0])) ?_;rintro _ _ ⟨_,⟨B,rfl,rfl⟩,rfl⟩;refine Zm Y<|Ze (Aj (vs:=[_]) (cs:=[_]) Cd F1 HQ Y V rfl V rfl V)<|AD fun m=>Xr [_] Y call330 Y V (Lt m 0 1 B #[G9 s] _ _ _ _ [s] [0] V B0 B0 HS _ _) ?_;refine A3 Y<|AJ<|AP V results276 Y (by exact ⟨by simp [ZA],V⟩)
theorem Vd(a b:Bs)(I:a.length<=1000000000)(J:b.length<=1000000000)(g:TypeId)(G:Nat×Nat):BI prog 277 #[.string (str a),.string (str b)] [[(4,.cells (Eo.map Ct).toArray g G)]] (.string (str (JC a b))):=by
 refine Se func277 ntmps277 [0,1] ?_;intro u R;refine A0<|A3 Y<|A0<|Zc [_] Y call303 Y V (Ql (str [1])) ?_;rintro _ _ ⟨_,⟨B,rfl,rfl⟩,rfl⟩;refine Zm Y<|Zm Y<|Ze (Aj (vs:=[_,_]) (cs:=[_,_]) Cd F1 HQ Y V rfl V rfl V)<|AD fun m=>Xr [_] Y call330 Y V (Lt m 0 2 B #[G9 a,G9 b] _ _ _ _ [a,b] [1] V B0 B0 HS _ _) ?_;refine A3 Y<|AJ<|AP V results277 Y (by exact ⟨by simp [JC],V⟩)
def bwd{α:Type} [Inhabited α](ls:List α):List (Nat×α):=(List.range ls.length).reverse.map (fun i=>(i,ls.getD i default))
theorem Xg [Inhabited α](ls:List α):(bwd ls).length=ls.length:=by simp [bwd]
theorem gT [Inhabited α]{ls:List α}{m:Nat}{s:α}(h:ls[m]?=some s):(bwd ls)[ls.length -(m+1)]?=some (m,s):=by
 have g:=(B9.1 h).1;unfold bwd;rw [DM,List.getElem?_reverse HS,ar,X2 A1];rw [show ls.length -1 -(ls.length -(m+1))=m by omega];simp [List.getD,h]
theorem Mi [Inhabited α](ls:List α):(bwd ls).map Prod.snd=ls.reverse:=by
 apply Ln;intro i;by_cases hi:i<ls.length
 · have g:ls[ls.length -1 -i]?=some (ls[ls.length -1 -i]'A1):=B4 _
   have h2:=gT g;rw [show ls.length -(ls.length -1 -i+1)=i by omega]at h2;rw [DM,h2,List.getElem?_reverse hi,g];rfl
 · rw [LS (by rw [B2,Xg];omega),LS HS]
theorem xe [Inhabited α]{ls:List α}{x:Nat×α}(h:x∈bwd ls):x.2∈ls:=by
 have g:x.2∈(bwd ls).map Prod.snd:=Bk.2 ⟨x,h,rfl⟩;rw [Mi,eC]at g;exact g
theorem OH{xs:List α}{j:Nat}{x:α}(h:xs[j]?=some x):xs=xs.take j++x::xs.drop (j+1):=by
 have g:=(B9.1 h).1;rw [B4 g]at h;injection h with h
 rw [<-h,<-RE g,I3]
theorem tK(xs:List Bs)(q:Bs):(bwd xs).foldl (fun o (x:Nat×Bs)=>JC x.2 o) q=xs.reverse.foldl (fun o r=>JC r o) q:=by
 rw [<-Mi,List.foldl_map]
theorem WZ(f:List α->Value)(ps:List (List α))(p q:List α):(((ps++[p])++[q]).map f)[(ps++[p]).length+1 -2]?=some (f p)/\(((ps++[p])++[q]).map f)[(ps++[p]).length+1 -1]?=some (f q):=by
 have e:(ps++[p]).length=ps.length+1:=by simp
 constructor
 · rw [show(ps++[p]).length+1 -2=ps.length by omega];simp
 · rw [show(ps++[p]).length+1 -1=ps.length+1 by omega];simp
theorem Y5(f:List α->Value)(ps:List (List α))(p q:List α):(((ps++[p])++[q]).map f).take (((ps++[p]).length+1 -2)*1)=ps.map f:=by
 rw [show((ps++[p]).length+1 -2)*1=(ps.map f).length by simp];simp
theorem wZ(f:List α->Value)(ps:List (List α))(q:List α):((ps++[q]).map f)[(ps++[q]).length -1]?=some (f q):=by
 rw [show(ps++[q]).length -1=ps.length by simp];simp
theorem lU(f:List α->Value)(ps:List (List α))(q:List α):((ps++[q]).map f).take (((ps++[q]).length -1)*1)=ps.map f:=by
 rw [show((ps++[q]).length -1)*1=(ps.map f).length by simp];simp
theorem jB{ps:List α}(h:0<ps.length):∃g p,ps=g++[p]:=by
 rcases fp ps with rfl|⟨a,b,e⟩
 · simp at h
 · exact ⟨a,b,by rw [e,mw]⟩
theorem tJ(xs:List (Nat×Bs))(q:Bs)(g:q.length=32):(xs.foldl (fun o (x:Nat×Bs)=>JC x.2 o) q).length=32:=by
 rcases fp xs with rfl|⟨ys,y,rfl⟩
 · exact g
 · rw [mw,Xs];exact Wl _
theorem Uj(p:Option Addr)(n c:Nat):BZ prog 279 #[.slice p n c] [] (fun r H'=>∃b,r= .func (.func 307) #[] #[I5 b]/\H'=[[(b,.cells #[.slice p n c] 45 (0,0))]]):=by
 refine Se func279 ntmps279 [0] ?_;intro u R;refine A0<|Ze (Bx #[_])<|AD fun b=>A3 Y<|A0<|Zv (Bg (vs:=[]) (us:=[_]) Y Y)<|A3 Y<|AJ<|AP V results279 Y (by exact ⟨_,V,V⟩)
theorem Uk(hv:ET M v ls)(b:Nat)(hn:ls.length<=1000000000000):
 F7 prog 307 #[I5 b] [[(b,.cells #[v] 45 (0,0))]] (fun s=>∀c∈M,c∈s) (fun x=>#[I4 ((x.1:Nat):Int),G9 x.2]) (bwd ls):=by
 have af:=mL;obtain ⟨p,cap,rfl,hl,hg⟩:=hv;intro l J hA hy s B;refine Se func307 ntmps307 [0,1] ?_;intro u R;refine A0<|Zl Kf Y ?_;refine Zv (Aa Cd Y) ?_
 (refine BX (GG Y Y (IntWalk.i64_in _ ?_)) ?_;(focus (omega)))
 refine A3 Y<|AQ<|Zb [3,0,1] ?_;refine BB (e0:=[(3,_)]) (fun m e H=>∃(k:Nat) (s:List A9),m=0+k/\(k<=ls.length/\J ((bwd ls).take (ls.length -k)) s)/\e=[(3,I4 ((k:Int) -1))]/\H=[[(b,.cells #[.slice p ls.length cap] 45 (0,0))],s]) (by exact ⟨ls.length,s,rfl,⟨CD _,by rw [Tl,Hx];exact B⟩,rfl,rfl⟩) Wp ?_;rintro _ _ _ ⟨k,s,rfl,⟨hk,B⟩,rfl,rfl⟩;refine Zq<|A0<|Zm Y<|Zv (H9 Y Y)<|A4<|Au Y (fun X=>?_) (fun X=>?_)
 ·
  obtain ⟨m,rfl⟩:∃m,k=m+1:=⟨k -1,by omega⟩;rw [show(((m+1:Nat):Int) -1)=((m:Nat):Int) by omega];obtain ⟨z9,O⟩:∃z9,ls[m]?=some z9:=⟨_,B4 A1⟩;have G:=gT O
  obtain ⟨g,o,cur,T,zz,rfl,hm,I⟩:=hg m z9 O;have K:=I
  have Z:=hy _ _ _ s (OH G) B;refine AC<|Zx<|Zq<|AQ<|A0<|Zm Y<|Zm Y<|Zl Kf Y ?_;refine Zm Y<|BX (Cf Cd F1 Y Y A1)<|CQ (cs:=[(g,.cells cur T zz)]) (by simp [hA _ s B _ hm]) (BO HB Y (by exact K)) V rfl ?_;refine Ze (GR (vs:=[_,_]) Y Y (Z) Wp) ?_;rintro _ _ ⟨_,⟨s',rfl,rfl,U⟩,rfl⟩;refine Zv (Bo Y)<|A4<|AX Y (fun hb=>by cases hb)<|fun hb=>AC<|A8<|Zx<|Zg<|Zm Y ?_
  (refine BX (GG Y Y (IntWalk.i64_in _ ?_)) ?_;(focus (omega)))
  refine AG Y<|Zn [3,0,1] ?_;refine Ab (e':=[(3,_)]) (by exact ⟨m,s',rfl,⟨by omega,by rw [show ls.length -m=ls.length -(m+1)+1 by omega,Bn G];exact U⟩,rfl,rfl⟩)
 have W:k=0:=by omega
 subst W;rw [Sh,Hv (by rw [Xg];exact CD _)]at B;refine Ay<|Zt<|Zt<|AR<|Cz V results307 (by exact ⟨s,V,B⟩)
theorem Pw(hv:ET M v ls)(hn:ls.length<=1000000)(hs:∀s∈ls,s.length<=140737488354000)(Tg:TypeId)(zg:Nat×Nat):BI prog 232 #[v] [[(4,.cells (Eo.map Ct).toArray Tg zg)],M] (.string (str (Dk ls))):=by
 have ve:=mL;obtain ⟨p,cap,rfl,hl,hg⟩:=hv;refine DL func232 V ntmps232 V ?_;intro u R;refine Zb [0] ?_;refine A0<|A3 Y<|A0<|A3 Y<|A0<|A3 Y<|Zq<|A0<|Zm Y<|Zv (Aa Cd Y)<|Zm Y<|A4<|AQ<|BV<|BV<|Zb [3,4,13,11,12] ?_;refine BB (e0:=[(3,_),(4,_),(13,_)]) (fun m e H=>∃(i:Nat) (ps:List (List Bs)) (vw:Value) (sw:List A9) (vz:Value) (sz:List A9),m=ls.length -i/\(i<=ls.length/\JO ps/\ps.flatten=ls.take i/\Bb 1 9 vw ps.length (ps.map rtV) sw/\Bb 1 3 vz ps.length (ps.map lnV) sz/\ps.length<=i)/\e=[(3,vw),(4,vz),(13,I4 (i:Int))]/\H=[sw,sz]) (by exact ⟨0,[],.slice none 0 0,[],.slice none 0 0,[],V,⟨C0 _,uR,V,Bf 1 _,Bf 1 _,CD _⟩,V,V⟩) Wp ?_;rintro _ _ _ ⟨i,ps,vw,sw,vz,sz,rfl,⟨hi,hB,hf,J,X,pz⟩,rfl,rfl⟩;refine A0<|Zv (Av Y Y)<|A4<|Zq<|Au Y (fun j3=>?_) (fun j3=>?_)
 ·
  obtain ⟨s9,d9⟩:∃s9,ls[i]?=some s9:=⟨_,B4 j3⟩;obtain ⟨g,o,cur,T,zz,rfl,pq,ic⟩:=hg i s9 d9;obtain ⟨qw,cw,rfl⟩:=J.form;obtain ⟨qz,cz,rfl⟩:=X.form;have kv:=hs s9 (DE d9)
  refine AC<|Zx<|Zq<|AQ<|A0<|BX (Cf Cd F1 Y Y A1)<|CQ (cs:=[(g,.cells cur T zz)]) (by simp [pq]) (BO HB Y (by exact ic)) V rfl ?_;refine A3 Y<|A0<|Zm Y<|Zm Y<|Xr [_] Y call276 Y V (lS s9 kv Tg zg) ?_;refine Ze (Aj (vs:=[_]) (cs:=[_]) Cd F1 HQ Y V rfl V rfl V)<|AD fun b1=>Ze (Dy (by_:=16) (sz:=1) (news:=[_]) Cd (V:Tryz.prog.info? 9=some Tryz.t9) V rfl V rfl Y J Y Wo Wh AN V Fl AW A1 A1) ?_;rintro _ _ ⟨sw,J,rfl⟩;obtain ⟨gw,cw,rfl⟩:=J.form;refine Zm Y<|Ze (Aj (vs:=[_]) (cs:=[_]) D0 A5 H3 Y V rfl V rfl V)<|AD fun b3=>Ze (Dy (by_:=8) (sz:=1) (news:=[_]) D0 (V:Tryz.prog.info? 3=some Tryz.t3) V rfl V rfl Y X Y Wo Wh AN V Fl AW A1 A1) ?_;rintro _ _ ⟨sz,X,rfl⟩;obtain ⟨gz,cz,rfl⟩:=X.form;refine Za Y<|AG Y<|Zn [3,4,11,12,13] ?_;refine Zx<|A0<|Zm Y<|Zv (Aa D0 Y)<|A3 Y<|AQ<|Zb [3,4,7,11,12,13] ?_;refine BB (e0:=[(3,_),(4,_),(7,_)]) (fun m e H=>∃(G:List (List Bs)) (q:List Bs) (gy:Value) (gm:List A9) (gB:Value) (gq:List A9),m=0+G.length/\(O1 ls G q (i+1)/\Bb 1 9 gy (G.length+1) ((G++[q]).map rtV) gm/\Bb 1 3 gB (G.length+1) ((G++[q]).map lnV) gq/\G.length<=i)/\e=[(3,gy),(4,gB),(7,I4 ((G.length+1:Nat):Int))]/\H=[gm,gq]) (by exact ⟨ps,[s9],_,_,_,_,rfl,⟨lG hB hf d9,BS J rfl (by rw [Bm,Lk];unfold rtV;rw [pF];rfl),BS X rfl (by rw [Bm];rfl),pz⟩,rfl,rfl⟩) Wp ?_;rintro _ _ _ ⟨G,q,gy,gm,gB,gq,rfl,⟨hM,O,U,vo⟩,rfl,rfl⟩;refine Zq<|Zq<|Az (n:=15) (0::1::3::7::7::23::63::127::7::7::519::1799::3847::8191::16383::[]) 0 A6 A6 V<|A2 0 V (AO Y)<|A2 1 V (DJ (n:=1) Y Y)<|A2 2 V (AO Y)<|CW (t:=29) Y (fun cO=>?_) (fun cO=>?_)
  ·
   rw [CM cO];obtain ⟨B,Z,rfl⟩:=jB (ps:=G) A1;have wo:(B++[Z]).length=B.length+1:=by simp
   obtain ⟨cu,o9,W,l9,rfl,rfl,j5,K⟩:=LX (id O) A1;obtain ⟨sM,r9,o8,y5,rfl,rfl,ql,af⟩:=LX (id U) A1;have qj:=af _ _ (WZ lnV B Z q).1
   have l8:=af _ _ (WZ lnV B Z q).2;have ek:=K _ _ (WZ rtV B Z q).1
   have qa:=K _ _ (WZ rtV B Z q).2;have q9:q.length<=ls.length:=by have h9:=congrArg List.length hM.flat;rw [B7,C1]at h9;omega
   refine AH 3 V (AO Y)<|AH 4 V (AO Y) ?_
   (refine AH 5 rfl (CO (n:=2) Y Y ?_ ?_) ?_;(focus (omega));(focus (omega)))
   refine AH 6 V (BQ D0 A5 Y Y A1)<|DA 7 V Wh (BO AE Y (by exact qj)) ?_;refine AH 8 V (AO Y)<|AH 9 V (AO Y) ?_
   (refine AH 10 rfl (CO (n:=1) Y Y ?_ ?_) ?_;(focus (omega));(focus (omega)))
   refine AH 11 V (BQ D0 A5 Y Y A1)<|DA 12 V Wh (BO AE Y (by exact l8)) ?_;refine AH 13 V (CR Y Y)<|A2 14 V (AV Y Y)<|Ah<|Zn [3,4,7,11,12,13,41] ?_;refine Zx<|Au Y (fun he=>?_) (fun he=>?_)
   ·
    have l5:=hM.step he;refine AC<|Zx<|Zq<|AQ<|Zq<|Az (n:=18) (0::0::2::7::0::0::32::112::240::0::0::1024::3584::7680::16368::32752::65535::131071::[]) 114688 A6 A6 V<|A2 0 V (AO Y)<|A2 1 V (AO Y) ?_
    (refine Dp (D':=7) 2 (CO (n:=2) Y Y ?_ ?_) ?_;(focus (omega));(focus (omega)))
    refine A2 3 V (Bt Cd F1 Y Y A1)<|A2 4 V (AO Y)<|A2 5 V (AO Y) ?_
    (refine Dp (D':=127) 6 (CO (n:=2) Y Y ?_ ?_) ?_;(focus (omega));(focus (omega)))
    refine A2 7 rfl (BQ Cd F1 Y Y (by first|omega|(simp;omega)))<|B3 8 rfl HB Y (hv:=by exact ek) ?_;refine A2 9 V (AO Y)<|A2 10 V (AO Y) ?_
    (refine Dp (D':=4095) 11 (CO (n:=1) Y Y ?_ ?_) ?_;(focus (omega));(focus (omega)))
    refine A2 12 rfl (BQ Cd F1 Y Y (by first|omega|(simp;omega)))<|B3 13 rfl HB Y (hv:=by exact qa) ?_;refine Yw 14 32767 rfl (Zu [_,_] Y call277 Y rfl (Vd (Dk Z) (Dk q) (by rw [Lb];omega) (by rw [Lb];omega) Tg zg))<|CT<|Yw 15 65535 V (Aj (vs:=[_]) (cs:=[_]) Cd F1 HQ Y V rfl V rfl V)<|AD fun b5=>Yw 16 131071 V (Dy (by_:=16) (sz:=1) (news:=[_]) Cd (V:Tryz.prog.info? 9=some Tryz.t9) V rfl V rfl Y (Pt O ((B++[Z]).length+1 -2) A1) Y Wo Wh AN V Fl AW A1 A1) ?_;rintro _ _ ⟨wz,ax,rfl⟩;obtain ⟨sJ,qx,rfl⟩:=ax.form;refine A2 17 V (Aw Y)<|Ah<|Zn [3,4,7,11,12,13] ?_;refine Zx<|Az (n:=13) (0::0::2::7::0::0::32::112::240::496::1008::2047::4095::[]) 3072 A6 A6 V<|A2 0 V (AO Y)<|A2 1 V (AO Y) ?_
    (refine Dp (D':=7) 2 (CO (n:=2) Y Y ?_ ?_) ?_;(focus (first|omega|(simp;omega)));(focus (first|omega|(simp;omega))))
    refine A2 3 V (Bt D0 A5 Y Y A1)<|A2 4 V (AO Y)<|A2 5 V (AO Y) ?_
    (refine Dp (D':=127) 6 (CO (n:=1) Y Y ?_ ?_) ?_;(focus (first|omega|(simp;omega)));(focus (first|omega|(simp;omega))))
    refine A2 7 rfl (BQ D0 A5 Y Y (by first|omega|(simp;omega)))<|B3 8 rfl AE Y (hv:=by exact l8) ?_;refine A2 9 rfl (Ez (m:=2) Y Y (by first|omega|(simp;omega)))<|Yw 10 2047 rfl (Aj (vs:=[_]) (cs:=[_]) D0 A5 H3 Y rfl rfl rfl rfl rfl)<|AD fun b7=>Yw 11 4095 V (Dy (by_:=8) (sz:=1) (news:=[_]) D0 (V:Tryz.prog.info? 3=some Tryz.t3) V rfl V rfl Y (Pt U ((B++[Z]).length+1 -2) A1) Y Wo Wh AN V Fl AW A1 A1) ?_;rintro _ _ ⟨x9,bn,rfl⟩;obtain ⟨sO,sj,rfl⟩:=bn.form;refine A2 12 V (Aw Y)<|Ah<|Zn [3,4,7,11,12,13] ?_;refine A8<|Zx<|Zg<|Zm Y<|Yb (n:=1) Y Y<|AG Y<|Zn [3,4,7,11,12,13] ?_;refine Ab (e':=[(3,_),(4,_),(7,_)]) (by exact ⟨B,Z++q,_,_,_,_,rfl,⟨l5.1,BS ax A1 (by rw [Y5,Bm,Lk];unfold rtV;rw [l5.2];rfl),BS bn A1 (by rw [Y5,Bm,Lk];unfold lnV;rw [B7,he,<-Nat.two_mul]),by omega⟩,(by rw [show(B++[Z]).length+1 -1=B.length+1 by omega]),rfl⟩)
   have hD:=hM.done (fun a b e9=>by have e8:=List.singleton_inj.1 (gA e9 rfl).2;rw [<-e8];exact he);refine Ay<|Zt<|Zt<|AR<|A8<|Zx<|Zg<|Ya (n:=1) Y Y<|Zm Y<|Z0<|Zn [3,4,13,11,12] ?_;refine Ab (e':=[(3,_),(4,_),(13,_)]) (by exact ⟨i+1,_,_,_,_,_,rfl,⟨by omega,hD.1,hD.2,BS O B0 rfl,BS U B0 rfl,by rw [B7];simp;omega⟩,rfl,rfl⟩)
  rw [C4 cO];have hD:=hM.done (fun a b e9=>by have e8:=congrArg List.length e9;rw [B7]at e8;simp at e8;omega)
  refine AF 3 V<|AF 4 V<|AF 5 V<|AF 6 V<|AF 7 V<|AF 8 V<|AF 9 V<|AF 10 V<|AF 11 V<|AF 12 V<|AF 13 V<|A2 14 V (AL Y Y)<|Ah<|Zn [3,4,7,11,12,13,41] ?_;refine Zx<|Ch Y<|Ay<|Zt<|Zt<|AR<|A8<|Zx<|Zg<|Ya (n:=1) Y Y<|Zm Y<|Z0<|Zn [3,4,13,11,12] ?_;refine Ab (e':=[(3,_),(4,_),(13,_)]) (by exact ⟨i+1,_,_,_,_,_,rfl,⟨by omega,hD.1,hD.2,BS O B0 rfl,BS U B0 rfl,by rw [B7];simp;omega⟩,rfl,rfl⟩)
 have ei:i=ls.length:=by omega
 subst ei;rw [Hv (CD _)]at hf;obtain ⟨qw,cw,rfl⟩:=J.form;refine Ay<|Zt<|Zt<|AR<|Zx<|Zq<|A0<|Zm Y<|Zv (Aa Cd Y)<|Zv (CR (n:=0) Y Y)<|A4<|Au Y (fun h0=>?_) (fun h0=>?_)
 ·
  have e0:=LO h0;subst e0;have e1:ls=[]:=hf.symm
  refine A0<|Xr [_] Y call278 Y V (iM [] B0 Tg zg) ?_;refine A3 Y<|AJ<|Zt<|Oo rfl (dK results232 Y) (by exact ⟨by rw [e1,pG],rfl⟩)
 obtain ⟨B,q,rfl⟩:=jB (ps:=ps) A1;obtain ⟨cu,o9,W,l9,pg,rfl,j5,K⟩:=LX (id J) A1;injection pg with hev1 hev2 hev3
 subst hev1 hev3;have ek:=K _ _ (wZ rtV B q)
 have q9:(B++[q]).length=B.length+1:=by simp
 refine AC<|Zx<|A0<|Zm Y<|Zm Y<|Zv (Aa Cd Y)<|Yb (n:=1) Y Y ?_;refine BX (BQ Cd F1 Y Y A1)<|Zl HB Y (hv:=by exact ek) ?_;refine Ze (Al HQ #[_])<|AD fun ob=>Xe (Zs F1 Y Y V (hc:=by exact (V:_=(#[G9 (Dk q)]:Array Value)))) ?_;refine A4<|Zq<|A0<|Zm Y<|Zm Y<|Zv (Aa Cd Y)<|Yb (n:=1) Y Y ?_;refine BX (Bt Cd F1 Y Y A1)<|Zc [_] Y call279 Y V (Uj _ _ _) ?_;rintro _ _ ⟨_,⟨bb,rfl,rfl⟩,rfl⟩;refine Z0<|Zn [8,89] ?_;refine Zx<|AQ<|Zb [8,89] ?_;refine PS (H0:=_) (R:=_) (I:=(fun pre H=>H=[[(ob,.cells #[G9 (pre.foldl (fun o (x:Nat×Bs)=>JC x.2 o) (Dk q))] 9 (0,0))],[(cu,.cells W 9 l9)],[(4,.cells (Eo.map Ct).toArray Tg zg)]])) (asg:=fun x=>[(10,G9 x.2),(91,G9 x.2),(90,I4 ((x.1:Nat):Int))]) rfl Y call307 (Uk (ls:=B.map Dk) (v:=I6 cu ((B++[q]).length -1) cw) (Gc (BS (Pt J ((B++[q]).length -1) A1) B0 (by rw [lU,K0];rfl)) (by rw [B2];omega)) bb (by rw [B2];omega)) (fun pre H1 c d h=>by subst h;intro x hx;simp at hx;simp [hx]) Y rfl Wp (rfl) ?ha_13 ?hbd_13 ?hk_13
 case ha_13=>
  intro _ x _ _;refine Zg<|Za Y<|Z0 ?_;exact qf
 case hbd_13=>
  intro l pre x qo u H1 R1 qb hI;subst hI;refine AQ<|Zg<|Zm Y<|Zl HB Y ?_;refine Xr [_,_] Y call277 Y rfl (Vd x.2 _ (by obtain ⟨y9,_,e9⟩:=Bk.1 (xe (Vg qb));rw [<-e9,Lb];omega) (by rw [tJ _ _ (Lb q)];omega) Tg zg) ?_;refine Xe (Zs F1 Y Y V) ?_;refine Z0<|A8<|F3 rfl (by rw [Xs])
 intro D1 H2 p8;subst p8;refine Zn [8] ?_;refine A8<|Zx<|A0<|Zl HB Y ?_;refine A3 Y<|AJ<|GI rfl (dK results232 Y) Wo (by exact ⟨by rw [tK,tH,hB.root,<-hf];simp,rfl⟩)
theorem U4:∀(f x:Nat),0<x->x<2^f->Lib.bitLenAux f x=Nat.log2 x+1
 |0,x,h0,h1=>by simp at h1;omega
 |f+1,x,h0,h1=>by
  unfold Lib.bitLenAux;rw [AK A1];rw [eN]at h1;rcases Dg x 2 with h|h
  · have e:x=1:=by omega
    subst e;cases f<;>rfl
  · rw [U4 f (x/2) A1 A1]
    conv=>rhs;rw [Nat.log2_def,AM h]
    omega
theorem lQ(n:Nat)(g:2<=n)(h2:n<=1000000000000):Lib.bitLen (n -1)=Nat.log2 (n -1)+1:=U4 64 (n -1) A1 A1
def FC(l:List Bs)(i:Nat):List Bs:=
 if h:2<=l.length then
  if i<DY l.length then FC (l.take (DY l.length)) i++[Dk (l.drop (DY l.length))]
  else FC (l.drop (DY l.length)) (i -DY l.length)++[Dk (l.take (DY l.length))]
 else []
termination_by l.length
decreasing_by
 · have:=Ox h;rw [C1];omega
 · have:=Ow l.length;rw [C2];omega
theorem VO(h:l.length<=1)(i:Nat):FC l i=[]:=by rw [FC,dif_neg A1]
theorem Qc(h:2<=l.length)(hi:i<DY l.length):FC l i=FC (l.take (DY l.length)) i++[Dk (l.drop (DY l.length))]:=by rw [FC,dif_pos h,AM hi]
theorem Oe(h:2<=l.length)(hi:¬i<DY l.length):FC l i=FC (l.drop (DY l.length)) (i -DY l.length)++[Dk (l.take (DY l.length))]:=by rw [FC,dif_pos h,AK hi]
theorem ET.take{p:Option Addr}{cap:Nat}(h:ET M (.slice p ls.length cap) ls)(n:Nat)(I:n<=ls.length):ET M (.slice p n cap) (ls.take n):=by
 obtain ⟨J,m,e,G,B⟩:=h;injection e with e1 e2 e3
 subst e1 e3;have g:(ls.take n).length=n:=by rw [C1];omega
 refine ⟨p,cap,by rw [g],by rw [g];omega,fun i z hz=>B i z ?_⟩;rw [HA]at hz;split at hz
 · exact hz
 · cases hz
theorem ET.drop{B g cap:Nat}(h:ET M (.slice (some ⟨B,g,none⟩) ls.length cap) ls)(n:Nat)(hn:n<ls.length):ET M (.slice (some ⟨B,g+n,none⟩) (ls.length -n) (cap -n)) (ls.drop n):=by
 obtain ⟨p',K,e,Z,W⟩:=h;injection e with e1 e2 e3
 subst e1 e3;refine ⟨_,_,by rw [C2],by rw [C2];omega,fun i z hz=>?_⟩;rw [PA]at hz;obtain ⟨X,O,m,U,J,e2,I,G⟩:=W (n+i) z hz;injection e2 with e2;injection e2 with e3 e4
 subst e3 e4;exact ⟨B,g+n,m,U,J,rfl,I,by rw [eK];exact G⟩
theorem mG{w:World}{g:Nat}{z:Nat×Nat}(enc:Bs->Value){zs:List Bs}(I:w.heap[g]?=some (.cells cur e z))(K:zs.length<=cur.size)(B:IZ z cur.size)(O:cur.toList.take zs.length=zs.map enc):Go.Sort.Holds enc w g 0 zs.toArray:=by
 intro j J;have m:j<zs.length:=by simpa using J
 have U:=B j A1;have G:(cur.toList.take zs.length)[j]?=(zs.map enc)[j]?:=by rw [O]
 rw [iz m]at G;refine ⟨?_,?_⟩
 · simp only [World.cell?,I,Cl]
   simp only [na,MT,HI];rw [<-HG,G];simp [m]
 · simp only [World.frozen?,I,Cl]
   simp;omega
theorem X5(enc:Bs->Value)(cur:Array Value)(g:List Bs)(h:g.length<=cur.size):(Go.Sort.putCells enc 0 g.toArray cur).toList.take g.length=g.map enc:=by
 apply Ln;intro j;rw [HA];by_cases m:j<g.length
 · rw [AM m,HG]
   unfold Go.Sort.putCells;rw [mn,HF A1];simp [m]
 · rw [AK m,LS HS]
theorem Sat.sorted_enc{u w:World}{g:Nat}{z:Nat×Nat}{R:Hp}(enc:Bs->Value)(d:Array Bs)(h:Sat u ([(g,.cells cur e z)]::R) w):Sat u ([(g,.cells (Go.Sort.putCells enc 0 d cur) e z)]::R) (Go.Sort.putRow enc (Go.Sort.ahead w n) g 0 d):=by
 have m:=h.get (g,.cells cur e z) B0;refine h.upd (.here _) V rfl V ?_ fun k B=>?_
 · simp [Go.Sort.putRow,Go.Sort.mapBlock,Go.Sort.ahead,SP,m,Go.Sort.onCells]
 · have:g≠k:=fun e=>B e.symm
   simp [Go.Sort.putRow,Go.Sort.mapBlock,Go.Sort.ahead,SP,this]
theorem Wx(h:Bb 1 9 v ls.length (ls.map G9) s)(hn:ls.length<=1000000000000):BZ prog 234 #[v] [s] (fun r H'=>r= .tuple #[]/\∃U,Bb 1 9 v ls.length (ls.reverse.map G9) U/\H'=[U]):=by
 obtain ⟨O,⟨rfl,h0,rfl⟩|⟨g,cap,cur,z,rfl,rfl,K,J,m,G,B⟩⟩:=h
 · intro u R w I
   have e:ls=[]:=LO h0;subst e;exact (Tryz.slices_Reverse_string_empty none 0 w).mono (by
    rintro e Z ⟨rfl,rfl⟩;exact .inl ⟨_,_,V,⟨V,[],Bf 1 _,V⟩,I⟩)
 · intro u R w I
   rw [Mn]at m G;have X:=I.get (g,.cells cur 9 z) B0
   have W:=mG (w:=w) (g:=g) (e:=9) (z:=z) G9 (zs:=ls) X A1 B G;refine (Tryz.slices_Reverse_string g 0 cap ls w W A1).mono ?_;rintro e Z ⟨rfl,n,rfl⟩;refine .inl ⟨_,_,V,⟨V,_,⟨by simp,.inr ⟨g,cap,_,z,V,V,K,J,?_,?_,?_⟩⟩,V⟩,Sat.sorted_enc (n:=n) G9 ls.reverse.toArray I⟩
   · rw [Mn];simp [Go.Sort.putCells,m]
   · rw [Mn]
     have:=X5 G9 cur ls.reverse (by rw [jx];omega);rw [jx]at this;exact this
   · simpa [Go.Sort.putCells]using B
theorem lN(n:Nat)(g:2<=n)(h2:n<=1000000000000):BI prog 233 #[I4 (n:Int)] [] (I4 ((DY n:Nat):Int)):=by
 have B:=lQ n g h2;have G:=Ox g
 unfold DY at G;have I:(n -1).log2<64:=(Nat.log2_lt A1).2 A1
 refine Se func233 ntmps233 [0] ?_;intro u R;refine A0<|A3 Y<|A0<|Zm Y ?_
 (refine BX (CO (n:=1) Y Y ?_ ?_) ?_;(focus (first|omega|(rw [RM];omega)));(focus (first|omega|(rw [RM];omega))))
 refine BX (Lh Cp W4 Y (by first|omega|(rw [RM];omega)))<|Xr [_] Y call117 Y rfl (Rq (H:=[]) (Rl:=fun v=>v=I4 ((Lib.bitLen (n -1):Nat):Int)) (fun w _=>(Tryz.bits_Len ((n -1:Nat):Int) w A1 A1).mono (by rintro e J ⟨rfl,rfl⟩;exact ⟨_,rfl,by rw [W0],Below.refl _ _⟩)) (fun v h=>⟨h,rfl⟩)) ?_;rw [B]
 (refine BX (CO (n:=1) Y Y ?_ ?_) ?_;(focus (first|omega|(rw [RM];omega)));(focus (first|omega|(rw [RM];omega))))
 (refine BX (UV (m:=1) Y Y ?_ ?_) ?_;(focus (omega));(focus (first|omega|(rw [RM];omega))))
 refine A3 Y<|AJ<|AP rfl results233 Y (by exact ⟨by rw [RM,Nat.one_mul];rfl,rfl⟩)
theorem Sc(hv:ET M v ls)(hn:ls.length<=1000000)(hs:∀s∈ls,s.length<=140737488354000)(i:Nat)(hi:i<ls.length)(Z:TypeId)(zg:Nat×Nat):
 BZ prog 177 #[v,I4 (i:Int)] [[(4,.cells (Eo.map Ct).toArray Z zg)],M] (fun r H'=>∃vp sp,r= .tuple #[vp,I4 0]/\Bb 1 9 vp (FC ls i).length ((FC ls i).map G9) sp/\H'=[sp,[(4,.cells (Eo.map Ct).toArray Z zg)],M]):=by
 have ic:=mL;obtain ⟨p,cap,rfl,hl,hg⟩:=id hv;refine Se func177 ntmps177 [0,1] ?_;intro u R;refine A0<|Za Y<|A3 Y<|U6 ?_;refine Zq<|A0<|Zm Y<|Zv (Av (n:=0) Y Y)<|Zm Y<|Am (t:=12) Y V (fun h1=>by omega)<|fun h1=>Zf Y Y<|Zf Y Y<|Yg (Aa Cd Y)<|Yg (Fw Y Y)<|Zv (AL Y Y)<|A4<|Au Y (fun h2=>by omega)<|fun h2=>AC<|Zx<|A0<|A3 Y<|Zq<|U8<|Zx<|Zq<|AQ<|BV<|Zb [0,1,6] ?_;refine BB (e0:=[(0,_),(1,_),(6,_)]) (fun m e H=>∃(l2:List Bs) (i2:Nat) (p2:Option Addr) (cap2:Nat) (o:List Bs) (vo:Value) (so:List A9),m=0+l2.length/\(ET M (.slice p2 l2.length cap2) l2/\i2<l2.length/\(∀s∈l2,s.length<=140737488354000)/\FC ls i=FC l2 i2++o.reverse/\Bb 1 9 vo o.length (o.map G9) so/\o.length+l2.length<=ls.length)/\e=[(0,.slice p2 l2.length cap2),(1,I4 (i2:Int)),(6,vo)]/\H=[so]) (by exact ⟨ls,i,p,cap,[],.slice none 0 0,[],V,⟨hv,hi,hs,by simp,Bf 1 _,by simp⟩,V,V⟩) Wp ?_;rintro _ _ _ ⟨l2,i2,p2,cap2,o,vo,so,rfl,⟨O,gm,J,B,I,j3⟩,rfl,rfl⟩;obtain ⟨qo,co,rfl⟩:=I.form;refine AQ<|Zq<|A0<|Zm Y<|Zv (Aa Cd Y)<|Zv (CR (n:=1) Y Y)<|A4<|Au Y (fun h1=>?_) (fun h1=>?_)
 ·
  rw [VO (l:=l2) A1,Ks]at B;refine Ay<|Zt<|Ar V<|Zt<|AR<|Zx<|A0<|Zm Y<|Zc [_] Y call234 Y V (Wx I A1) ?_;rintro _ _ ⟨_,⟨rfl,bn,U,rfl⟩,rfl⟩;refine A4<|A0<|Zm Y<|Za Y<|A3 Y<|AJ<|Ki ?_;refine Cy rfl results177 Y Y (by exact ⟨_,bn,rfl,BS U (by rw [B,jx]) (by rw [B]),rfl⟩)
 have h9:2<=l2.length:=by omega
 have ax:=Ox h9;have gq:=Ow l2.length
 have g:(l2.take (DY l2.length)).length=DY l2.length:=by rw [C1];omega
 obtain ⟨p8,cu,e8,gy,af⟩:=id O;injection e8 with e81 e82 e83
 subst e81 e83;obtain ⟨g8,d9,cO,T8,j5,rfl,gB,ek⟩:=af 0 _ (B4 A1);have X:=O.take (DY l2.length) A1
 have W:=O.drop (DY l2.length) ax;refine AC<|Zx<|A0<|Zm Y<|Zv (Aa Cd Y)<|Xr [_] Y call233 Y V (lN l2.length h9 A1) ?_;refine A3 Y<|Zq<|Az (n:=8) (0::0::3::0::0::24::7::127::[]) 0 A6 A6 V<|A2 0 V (AO Y)<|A2 1 V (AO Y)<|A2 2 V (Bt Cd F1 Y Y A1)<|A2 3 V (AO Y)<|A2 4 V (AO Y) ?_
 (refine Dp (D':=63) 5 (Mo Cd F1 Y Y ?_ ?_) ?_;(focus (omega));(focus (omega)))
 refine A2 6 V (Aw Y)<|A2 7 V (Aw Y)<|Ah<|Zn [1,6,7,8,9] ?_;refine Zx<|Zq<|A0<|Zm Y<|Zm Y<|Zv (Fw Y Y)<|A4<|Au Y (fun K=>?_) (fun K=>?_)
 ·
  have K:¬i2<DY l2.length:=by omega
  refine Zg<|Zm Y<|Zm Y<|Zm Y<|Zm Y<|Yb Y Y<|Za Y<|Za Y<|A3 Y<|A0<|Zm Y<|Zm Y<|Xr [_] Y call232 Y rfl (Pw X (by rw [g];omega) (fun s h=>J s (On h)) Z zg) ?_;refine Ze (Aj (vs:=[_]) (cs:=[_]) Cd F1 HQ Y V rfl V rfl V)<|AD fun b1=>Ze (Dy (by_:=16) (sz:=1) (news:=[_]) Cd (V:Tryz.prog.info? 9=some Tryz.t9) V rfl V rfl Y I Y Wo Wh AN V Fl AW A1 A1) ?_;rintro _ _ ⟨sw,G,rfl⟩;obtain ⟨gw,cw,rfl⟩:=G.form;refine AG Y<|Zn [1,6,8] ?_;refine Zx<|Zg<|Zm Y<|AG Y<|A8<|Zn [0,1,6] ?_;refine Ab (e':=[(0,_),(1,_),(6,_)]) (by exact ⟨l2.drop (DY l2.length),i2 -DY l2.length,_,_,o++[Dk (l2.take (DY l2.length))],_,_,(by rw [C2]),⟨(by rw [C2];exact W),by rw [C2];omega,fun s h=>J s (ID h),by rw [B,Oe h9 K,nF,CN];rfl,BS G B0 (by simp;rfl),by rw [B7,C2];simp;omega⟩,(by rw [C2]),rfl⟩)
 refine AC<|Zx<|A0<|Zm Y<|Zm Y<|Xr [_] Y call232 Y rfl (Pw W (by rw [C2];omega) (fun s h=>J s (ID h)) Z zg) ?_;refine Ze (Aj (vs:=[_]) (cs:=[_]) Cd F1 HQ Y V rfl V rfl V)<|AD fun b3=>Ze (Dy (by_:=16) (sz:=1) (news:=[_]) Cd (V:Tryz.prog.info? 9=some Tryz.t9) V rfl V rfl Y I Y Wo Wh AN V Fl AW A1 A1) ?_;rintro _ _ ⟨sw,G,rfl⟩;obtain ⟨gw,cw,rfl⟩:=G.form;refine A3 Y<|Zg<|Zm Y<|AG Y<|A8<|Zn [0,1,6] ?_;refine Ab (e':=[(0,_),(1,_),(6,_)]) (by exact ⟨l2.take (DY l2.length),i2,_,_,o++[Dk (l2.drop (DY l2.length))],_,_,(by rw [g]),⟨(by rw [g];exact X),by rw [g];omega,fun s h=>J s (On h),by rw [B,Qc h9 A1,nF,CN];rfl,BS G B0 (by simp;rfl),by rw [B7,g];simp;omega⟩,(by rw [g]),rfl⟩)
def tE(s:Bs):Bool:=!decide (s.length=32)
def yV(s:Bs):Nat->Nat->List Bs->Option Bs
 |n,_,[]=>if n<=1 then some (ZA s)else none
 |n,i,x::rp=>if n<=1 then none else if i<DY n then(yV s (DY n) i rp).map (fun v=>JC v x)else(yV s (n -DY n) (i -DY n) rp).map (fun v=>JC x v)
def sX(root:Bs)(n i:Nat)(s:Bs)(pf:List Bs):Bool:=!(pf.any tE)&&decide (yV s n i pf.reverse=some root)
def QK(r:AU):Bs:=Hr [r.t,r.k]++Hr [r.v.a,r.v.b,r.v.c]
theorem Wt(h:r.ok):(∀n∈[r.t,r.k],-4611686018427387903<=n/\n<=4611686018427387903)/\(∀n∈[r.v.a,r.v.b,r.v.c],-4611686018427387903<=n/\n<=4611686018427387903):=by
 obtain ⟨⟨m,h2,B⟩,G,I⟩:=h;unfold inV at m h2 B;constructor
 · intro n g
   simp only [D2,RT,RC]at g;rcases g with rfl|rfl<;>omega
 · intro n g
   simp only [D2,RT,RC]at g;rcases g with rfl|rfl|rfl<;>omega
theorem fe(h:r.ok):(QK r).length<=45:=by
 have g:=Hq _ (Wt h).1;have h2:=Hq _ (Wt h).2
 unfold QK;rw [B7];simp only [DH,J1]at g h2;omega
theorem rz(a b:Int):Kz #[I4 a,I4 b] 0 [a,b]:=by
 intro i n h;rcases i with _|_|i
 · simp at h;subst h;rfl
 · simp at h;subst h;rfl
 · simp at h
theorem xI(r:AU):Kz r.A29 2 [r.v.a,r.v.b,r.v.c]:=by
 intro i n h;rcases i with _|_|_|i
 · simp at h;subst h;rfl
 · simp at h;subst h;rfl
 · simp at h;subst h;rfl
 · simp at h
theorem jq(r:AU)(G:r.ok):BI prog 229 #[.agg r.A29] [] (.tuple #[.string (str (QK r)),I4 0]):=by
 have g:=Wt G;have m:=Hq _ g.1
 have B:=Hq _ g.2;simp only [DH,J1]at m B;refine Se func229 ntmps229 [0] ?_;intro u R;refine A0<|Ze (Bx #[_,_,_,_,_])<|AD fun I=>Za Y<|A3 Y<|Zq<|A0<|Zo Wh (Pa #[_,_,_,_,_] CI An Y) ?_;refine Xr [_] Y call203 Y V (S9 r) ?_;rw [CM G];refine Zv (Bo Y)<|A4<|AX Y (fun hv=>by cases hv)<|fun hv=>AC<|Zx<|Zq<|Az (n:=12) (0::1::0::4::15::31::0::64::255::511::1023::2047::[]) 304 A6 A6 V<|A2 0 V (AB (off:=0) FG V rfl A5 Y)<|B3 1 V AE Y ?_;refine A2 2 V (AB (off:=1) FG V rfl A5 Y)<|B3 3 V AE Y ?_;refine A2 6 V (AB (off:=2) FG V rfl DG Y)<|A2 7 V (Ie Hj A5 Y)<|Zz (l:=[4])<|B1 [false,false] [] V rfl (Aj (vs:=[_,_]) (cs:=[_,_]) D0 A5 H3 Y V rfl V rfl V) ?_ (fun _ _ h=>h.elim) Ai;rintro _ _ ⟨gb,rfl,rfl⟩;refine B5<|Yw 5 255 V (Zu [_] Y call273 Y V (og gb 0 2 _ _ _ [r.t,r.k] (rz r.t r.k) B0 g.1))<|CT<|Yw 8 511 V (Zu [_] Y call273 Y V (og I 2 3 _ _ _ [r.v.a,r.v.b,r.v.c] (xI r) B0 g.2))<|CT<|A2 9 rfl (Ma Y Y (by rw [Gn,Gn];omega))<|A2 10 rfl (Aw Y)<|A2 11 rfl (Aw Y)<|Ah<|Zn [2,3] ?_;refine Zx<|AJ<|Cy rfl results229 Y Y (by exact ⟨by rw [RI];rfl,rfl⟩)
def BG(rs:List AU)(t:Int)(c:Nat):List AU:=Dq rs t c (-1000000000) 1000000000
theorem JB(g:BP rs)(t:Int)(c:Nat):(BG rs t c).length<=rs.length:=by
 unfold BG;rw [(EO rs t c _ _).length_eq];exact MD _ _
theorem MO{t:Int}{c:Nat}{lo hi:Int}(h:r∈Dq rs t c lo hi):r∈rs:=(Ek.1 ((EO rs t c lo hi).mem_iff.1 h)).1
def Nr(l:List AU):List Bs:=l.map QK
theorem GL(l:List AU):(Nr l).length=l.length:=B2 ..
theorem uC{l:List AU}(h:l[i]?=some x):(Nr (l.take (i+1))).map G9=(Nr (l.take i)).map G9++[.string (str (QK x))]:=by
 rw [Bn h];unfold Nr;rw [Bm,Bm];rfl
def uo(l:List AU)(vr ve:Value)(sr se:List A9):Prop:=Bb 5 83 vr (l).length (Af (l)) sr/\Bb 1 9 ve l.length ((Nr l).map G9) se
theorem TC(v:Value)(p:Int)(rs:List AU)(s:List A9)(hv:RG v p rs s)(hs:BP rs)(hn:rs.length<=2000)(af:∀r∈rs,r.ok)(t:Int)(c:Nat)(hc:c<=3):
 BZ prog 170 #[v,I4 t,I4 (c:Int)] [s] (fun r H'=>∃vr K W J,r= .agg #[vr,K]/\uo (BG rs t c) vr K W J/\H'=[W,J,s]):=by
 have gm:=mL;have ek:=JB hs t c
 refine Se func170 ntmps170 [0,1,2] ?_;intro u R;refine A0<|Ze (Al ia #[_,_])<|AD fun qb=>A4<|A0<|Zm Y<|Zm Y<|Zm Y<|Zc [_,_,_,_,_] Y call105 Y V (YB v p rs s hv t c (-1000000000) 1000000000 hc) ?_;rintro _ _ ⟨_,⟨W,G,rfl⟩,rfl⟩;change Bb 5 83 _ (BG rs t c).length (Af (BG rs t c)) W at G;obtain ⟨qr,cr,rfl⟩:=G.form;have X:=DU G A1
 obtain ⟨p9,bn,e9,gq,hg⟩:=id X;injection e9 with e91 e92 e93
 subst e91 e93;refine Zv (BL (vs:=[(0,_)]) (cs:=#[_,_]) Y (AY (pl:=#[(0,1),(1,1)]) ia Mp (fun _=>by kernel_rfl) V))<|Ze (Al ia #[_,_])<|AD fun ob=>Xe (BK fX Y Y (by(simp [Value.oneCell',Value.cells];done)) Wu (by exact (rfl:_=(#[.slice qr (BG rs t c).length cr,.slice none 0 0]:Array Value))) E3 AW (by exact BA _)) ?_;refine A4<|Zq<|A0<|Zh 0 Mp V rfl C6 Y<|Zl FA Y ?_;refine Zv (Aa B6 Y)<|Zm Y<|A4<|AQ<|BV<|Zb [20,6,7,18,19] ?_;refine BB (e0:=[(20,_)]) (fun m e H=>∃(i:Nat) (K:Value) (J:List A9),m=(BG rs t c).length -i/\(i<=(BG rs t c).length/\Bb 1 9 K i ((Nr ((BG rs t c).take i)).map G9) J)/\e=[(20,I4 (i:Int))]/\H=[[(ob,.cells #[.slice qr (BG rs t c).length cr,K] 262 (0,0))],J]) (by exact ⟨0,.slice none 0 0,[],V,⟨C0 _,Bf 1 _⟩,V,V⟩) Wp ?_;rintro _ _ _ ⟨i,K,J,rfl,⟨hi,B⟩,rfl,rfl⟩;obtain ⟨qe,ce,rfl⟩:=B.form;refine A0<|Zv (Av Y Y)<|A4<|Zq<|Au Y (fun U=>?_) (fun U=>?_)
 ·
  obtain ⟨x,hx⟩:∃x,(BG rs t c)[i]?=some x:=⟨_,B4 U⟩;obtain ⟨g,off,cur,T,zz,rfl,Z,cu,O⟩:=hg i x hx;have ax:=af x (MO (DE hx))
  refine AC<|Zx<|Zq<|AQ<|A0<|BX (Ac B6 An Y Y A1)<|CQ (cs:=[(g,.cells cur T zz)]) (by simp [Z]) (AA (cs:=x.A29) CI An Y A1 O) V rfl ?_;refine Ze (Al DS #[_,_,_,_,_])<|AD fun xb=>Xe (Xw An x.A29) ?_;refine A4<|A0<|Zo Wh (Pa #[_,_,_,_,_] CI An Y) ?_;refine Xr [_] Y call229 Y V (jq x ax) ?_;refine Zm Y<|Zd Y V<|Zd Y V<|Za Y<|A3 Y<|Zg<|Zh 1 Mp V rfl HH Y<|Zl Kf Y ?_;refine Zm Y<|Ze (Aj (vs:=[_]) (cs:=[_]) Cd F1 HQ Y V rfl V rfl V)<|AD fun b4=>Ze (Dy (by_:=16) (sz:=1) (news:=[_]) Cd (V:Tryz.prog.info? 9=some Tryz.t9) V rfl V rfl Y B Y Wo Wh AN V Fl AW A1 A1) ?_;rintro _ _ ⟨gy,I,rfl⟩;obtain ⟨d9,cO,rfl⟩:=I.form;refine Zh 1 Mp V rfl HH Y<|Xe (Zs HH Y Y V (hc:=by exact (V:_=(#[.slice _ (BG rs t c).length cr,_]:Array Value))) (hi:=by(simp;done))) ?_;refine Z0<|Zn [6,7,18,19,20] ?_;refine A8<|Zx<|Zg<|Ya (n:=1) Y Y<|Zm Y<|Z0<|Zn [20,6,7,18,19] ?_;refine Ab (e':=[(20,_)]) (by exact ⟨i+1,_,_,rfl,⟨by omega,BS I rfl (by rw [uC hx])⟩,rfl,rfl⟩)
 have ei:i=(BG rs t c).length:=by omega
 subst ei;rw [G0]at B;refine Ay<|Zt<|Zt<|AR<|Zx<|A0<|Zo Wh (AA (cs:=#[_,_]) isAgg262 fX Y Ax AN) ?_;refine Xe (BK fX Y Y (by(simp [Value.oneCell',Value.cells];done)) Wu (by exact (rfl:_=(#[.slice qr (BG rs t c).length cr,.slice qe _ ce]:Array Value))) E3 AW (by exact BA _)) ?_;refine A4<|AJ<|Cw V results170 Y Wh (Ak isAgg262 fX Wn (V)) (by exact ⟨.slice qr _ cr,.slice qe _ ce,W,J,V,⟨G,B⟩,V⟩)
theorem Yu(v:Value)(p:Int)(rs:List AU)(s:List A9)(hv:RG v p rs s)(K:BP rs)(J:rs.length<=2000)(I:∀r∈rs,r.ok)(t:Int)(c:Nat)(hc:c<=3):
 BZ prog 170 #[v,I4 t,I4 (c:Int)] [s] (fun r H'=>∃G B m g,r= .agg #[G,B]/\uo (BG rs t c) G B m g/\H'=[m++g,s]):=by
 refine Gv (TC v p rs s hv K J I t c hc) V ?_;rintro r H' ⟨G,B,m,g,rfl,h,rfl⟩;exact ⟨_,⟨G,B,m,g,V,h,V⟩,by simp⟩
def tcs:List (Nat×Nat):=(List.range 4).flatMap fun t=>(List.range 4).map fun c=>(t,c)
theorem q5:∀t,t<4->∀c,c<4->tcs[4*t+c]?=some (t,c):=by decide
def yZ(rs:List AU)(x:Nat×Nat):Bs:=Tx ((BG rs (x.1:Int) x.2).length:Int)++Dk (Nr (BG rs (x.1:Int) x.2))
def bV(rs:List AU):List Bs:=tcs.map (yZ rs)
def tx(rs:List AU)(x:Nat×Nat)(vs:Array Value)(sx:List A9):Prop:=∃vr ve sr se,vs=#[.agg #[vr,ve]]/\uo (BG rs (x.1:Int) x.2) vr ve sr se/\sx=sr++se
theorem XX{l:List AU}(h:∀r∈l,r.ok):∀s∈Nr l,s.length<=45:=by
 intro s m;obtain ⟨r,g,rfl⟩:=Bk.1 m;exact fe (h r g)
theorem Yr(q:Option Addr):BZ prog 230 #[.pointer q] [] (fun r H'=>∃b,r= .func (.func 274) #[] #[I5 b]/\H'=[[(b,.cells #[.pointer q] 131 (0,0))]]):=by
 refine Se func230 ntmps230 [0] ?_;intro u R;refine A0<|Ze (Bx #[_])<|AD fun b=>A3 Y<|A0<|Zv (Bg (vs:=[]) (us:=[_]) Y Y)<|A3 Y<|AJ<|AP V results230 Y (by exact ⟨_,V,V⟩)
theorem Yt(v:Value)(p:Int)(rs:List AU)(s:List A9)(hv:RG v p rs s)(hs:BP rs)(hn:rs.length<=2000)(W:∀r∈rs,r.ok)(b:Nat):
 WM prog 274 #[I5 b] [[(b,.cells #[v] 131 (0,0))]] [s] (tx rs) tcs:=by
 have af:=mL;intro l J hy s0 hJ;refine Se func274 ntmps274 [0,1] ?_;intro u R;refine A0<|Zm Y<|A4<|AQ<|Zb [5,0,1] ?_;refine BB (e0:=[(5,_)]) (fun m e H=>∃(t:Nat) (s2:List A9),m=4 -t/\(t<=4/\J (tcs.take (4*t)) s2)/\e=[(5,I4 (t:Int))]/\H=[s2]) (by exact ⟨0,s0,V,⟨by omega,hJ⟩,V,V⟩) Wp ?_;rintro _ _ _ ⟨t,s2,rfl,⟨ht,g⟩,rfl,rfl⟩;refine A0<|Zv (Av (n:=4) Y Y)<|A4<|Zq<|Au Y (fun I=>?_) (fun I=>?_)
 ·
  refine AC<|Zx<|Zq<|AQ<|A0<|Zm Y<|A3 Y<|A0<|Zm Y<|A4<|AQ<|Zb [8,0,1,3,5] ?_;refine BB (e0:=[(8,_)]) (fun m e H=>∃(c:Nat) (K:List A9),m=4 -c/\(c<=4/\J (tcs.take (4*t+c)) K)/\e=[(8,I4 (c:Int))]/\H=[K]) (by exact ⟨0,s2,V,⟨by omega,g⟩,V,V⟩) Wp ?_;rintro _ _ _ ⟨c,K,rfl,⟨hc,B⟩,rfl,rfl⟩;refine A0<|Zv (Av (n:=4) Y Y)<|A4<|Zq<|Au Y (fun G=>?_) (fun G=>?_)
  ·
   have hx:=q5 t I c G;refine AC<|Zx<|Zq<|AQ<|A0<|Zm Y<|A3 Y<|A0<|Zm Y<|Zl isAgg131 Y ?_;refine Zm Y<|Zm Y<|Zc [_,_,_] Y call170 Y V (Yu v p rs s hv hs hn W (t:Int) c A1) ?_;rintro _ _ ⟨_,⟨vr,ve,sr,se,rfl,hO,rfl⟩,rfl⟩;have X:=hy _ _ _ K #[.agg #[vr,ve]] (sr++se) (OH hx) B ⟨vr,ve,sr,se,rfl,hO,rfl⟩
   refine Ze (GR (vs:=[_]) Y Y (X) Wp) ?_;rintro _ _ ⟨_,⟨s4,rfl,rfl,U⟩,rfl⟩;refine Zv (Bo Y)<|A4<|AX Y (fun Z=>by cases Z)<|fun Z=>AC<|A8<|Zx<|Zg<|Ya (n:=1) Y Y<|Zm Y<|Z0<|Zn [8,0,1,3,5] ?_;refine Ab (e':=[(8,_)]) (by exact ⟨c+1,s4,rfl,⟨by omega,by rw [<-eK,Bn hx];exact U⟩,rfl,rfl⟩)
  refine Ay<|Zt<|Zt<|AR<|A8<|Zx<|Zg<|Ya (n:=1) Y Y<|Zm Y<|Z0<|Zn [5,0,1] ?_;refine Ab (e':=[(5,_)]) (by exact ⟨t+1,K,rfl,⟨by omega,by rw [Nat.mul_add,Mn];have O:c=4:=A1;subst O;exact B⟩,rfl,rfl⟩)
 have O:t=4:=by omega
 subst O;refine Ay<|Zt<|Zt<|AR<|Cz V results274 (by exact ⟨s2,V,g⟩)
theorem Uw(v:Value)(p:Int)(rs:List AU)(s:List A9)(hv:RG v p rs s)(hs:BP rs)(hn:rs.length<=2000)(O:∀r∈rs,r.ok)(W:TypeId)(zg:Nat×Nat):
 BZ prog 176 #[v] [[(4,.cells (Eo.map Ct).toArray W zg)],s] (fun r H'=>∃so,Bb 1 9 r 16 ((bV rs).map G9) so/\H'=[so,[(4,.cells (Eo.map Ct).toArray W zg)],s]):=by
 have j3:=mL;obtain ⟨l8,l5,gB,gq,kv,rfl,d9⟩:=id hv;refine DL func176 V ntmps176 V ?_;intro u R;refine Zb [0] ?_;refine A0<|A3 Y<|A0<|Ze (Al US #[_])<|AD fun ob=>A4<|Zq<|A0<|Zm Y<|Zc [_] Y call230 Y V (Yr _) ?_;rintro _ _ ⟨_,⟨bb,rfl,rfl⟩,rfl⟩;refine A4<|AQ<|Zb [3,8] ?_;refine BV<|Xl (H0:=_) (R:=_) (I:=(fun pre H=>∃Z s2,H=[[(ob,.cells #[Z] 45 (0,0))],s2,[(4,.cells (Eo.map Ct).toArray W zg)]]/\Bb 1 9 Z pre.length ((pre.map (yZ rs)).map G9) s2)) (E:=fun x vs sx e Hn=>∃X J G,vs=#[.agg #[J,G]]/\e=[(4,I5 X),(9,.agg #[J,G])]/\Hn=[[(X,.cells #[J,G] 262 (0,0))]]) rfl Y call274 (Yt _ p rs s hv hs hn O bb) (fun x vs sx h=>by obtain ⟨J,G,sr,se,rfl,_⟩:=h;rfl) rfl Wp (⟨_,[],rfl,Bf 1 _⟩) ?ha_2 ?hbd_2 ?hk_2
 case ha_2=>
  intro _ x vs sx _ _ g;obtain ⟨J,G,sr,se,rfl,K,rfl⟩:=g;refine Zg<|Ze (Al ia #[_,_])<|AD fun X=>Xe (BK fX Y Y (by obtain ⟨q1,c1,rfl⟩:=K.1.form;obtain ⟨q2,c2,rfl⟩:=K.2.form;simp [Value.oneCell',Value.cells]) Wu (by exact (rfl:_=(#[J,G]:Array Value))) E3 AW (by exact BA _)) ?_;refine Z0<|Ll (e:=[(4,_),(9,_)]) (Hn:=[[(_,_)]]) ?_;exact ⟨_,_,_,V,V,V⟩
 case hbd_2=>
  intro l pre x ek u vs sx e9 gm H1 R1 cO hI g af;obtain ⟨J,G,sr,se,rfl,K,rfl⟩:=g;obtain ⟨X,o9,o8,U,rfl,rfl⟩:=af;simp at U;obtain ⟨rfl,rfl⟩:=U;obtain ⟨Z,s2,rfl,m⟩:=hI;obtain ⟨qe,ce,rfl⟩:=K.2.form;obtain ⟨q2,c2,rfl⟩:=m.form;have cu:=congrArg List.length cO
  rw [B7,DH,show tcs.length=16 from rfl]at cu;have j5:=JB hs (x.1:Int) x.2
  have bn:ET (sr++se) (.slice qe (BG rs (x.1:Int) x.2).length ce) (Nr (BG rs (x.1:Int) x.2)):=(Gc (BS K.2 (GL _).symm rfl) (by rw [GL];omega)).mono (fun c h=>Fm _ h);refine AQ<|A0<|Zh 1 Mp V rfl HH Y<|Zl Kf Y ?_;refine Zv (Aa Cd Y)<|Xr [_] Y call231 Y V (Qb _ A1 A1) ?_;refine Zm Y<|Zd Y V<|Zd Y V<|Za Y<|A3 Y<|Az (n:=9) (0::0::0::4::12::30::62::127::255::[]) 464 A6 A6 V<|B3 0 V Kf Y ?_;refine A2 1 V (AO Y)<|A2 2 V (AB (off:=1) Mp V rfl HH Y)<|B3 3 V Kf Y ?_;refine Yz 4 12 31 [3,0] [false,true] [(0,(_,_))] rfl Y rfl rfl rfl rfl (Zu [_] Y call232 Y rfl (Pw bn (by rw [GL];omega) (fun s h=>by have:=XX (fun r hr=>O r (MO hr)) s h;omega) W zg))<|CT<|B5<|A2 5 rfl (Ma Y Y (by rw [Gn,Gn,Lb];have:=PM ((BG rs (x.1:Int) x.2).length:Int) A1 A1;omega))<|Yz 6 62 127 [0] [true] [(0,(_,_))] rfl Y rfl rfl rfl rfl (Aj (vs:=[_]) (cs:=[_]) Cd F1 HQ Y rfl rfl rfl rfl rfl)<|AD fun b3=>B5<|Yw 7 255 V (Dy (by_:=16) (sz:=1) (news:=[_]) Cd (V:Tryz.prog.info? 9=some Tryz.t9) V rfl V rfl Y m Y Wo Wh AN V Fl AW A1 A1) ?_;rintro _ _ ⟨l9,B,rfl⟩;obtain ⟨ic,gy,rfl⟩:=B.form;refine Yw 8 511 V (Zs HH Y Y V (hi:=by(simp;done)))<|CT<|Ah<|Zn [] ?_;refine A8<|F3 V (by exact ⟨_,_,V,BS B B0 (by simp [yZ,G9,RI])⟩)
 intro D1 H2 ax;obtain ⟨Z,s2,rfl,m⟩:=ax;refine Zn [3] ?_;refine A8<|Zx<|A0<|Zl Kf Y ?_;refine A3 Y<|AJ<|GI V (dK results176 Y) Wo (by exact ⟨s2,m,V⟩)
end Go.Proofs.YteaiajghbkenoaaGreatDoor
