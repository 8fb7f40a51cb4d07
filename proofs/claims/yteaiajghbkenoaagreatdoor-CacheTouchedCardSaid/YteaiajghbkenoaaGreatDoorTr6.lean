/- A patch gives the result on the rows after the change: rows, numbers, sums, least and greatest values. -/
/- A patch gives the result on the rows after the change: the pairs of a join. -/
/- proof.Replay. -/
/- Records of a log replayed: the result at the later position. -/
/- Roots of lists, in plain words. -/
/- slices.Backward; digest.Root. -/
/- digest.left, Proof. -/
/- digest.Verify. -/
/- Rows encoded; the orders of a state, its summaries and its root. -/
/- All orders; the summaries; the root of a state. -/
import Derived.Test.YteaiajghbkenoaaGreatDoorEz
import Derived.Test.YteaiajghbkenoaaGreatDoorPr5
import Derived.Test.YteaiajghbkenoaaGreatDoorQe1
import Derived.Test.YteaiajghbkenoaaGreatDoorLg4
import Derived.Test.YteaiajghbkenoaaGreatDoorEx36
set_option linter.unusedVariables false
set_option linter.unusedSimpArgs false
namespace Go.Proofs.YteaiajghbkenoaaGreatDoor
open Go.Proofs.Tryz
open Go Go.RowKit Gw
set_option maxRecDepth 100000
attribute [local irreducible] Gw.At Gw.Nx Gw.Ops
variable{rs:List AU}
theorem OH(g:BP rs):rs.Nodup:=g.imp (by
 intro a b h e;subst e;unfold AU.lt2 at h;omega)
variable{q:QM}
theorem OO(g:BI q)(rs:List AU)(x:AU):x∈CQ rs q↔x∈rs/\inQ q x=true:=by rw [(HY g rs).mem_iff,F1]
theorem Rq(g:BI q)(m:BP rs):(CQ rs q).Nodup:=(HY g rs).nodup_iff.2 ((OH m).filter _)
theorem Rp(I:BI q){o:List AU}(g:BP rs)(G:o.Nodup)(B:∀x,x∈o↔x∈rs/\inQ q x=true)(h2:o.Pairwise (leV q.cl.toNat)):o=CQ rs q:=by
 have h:=HY I rs;refine Rn g (f:=inQ q) (t:=q.tb) (fun r m=>(HP m).1) ?_ h h2 (Ei g _ _ _ _);exact (NX G ((OH g).filter _)).2 fun x=>by rw [B,F1]
variable{y x:AU}
theorem Oj{b:Bool}(h:Ho q b x=some y):y=x/\b=true/\inQ q y=true:=by
 unfold Ho at h;split at h
 · rename_i h9
   rw [Fo]at h9;injection h with h
   subst h;exact ⟨V,h9⟩
 · cases h
theorem qV{b:Bool}(h:Ho q b x=none)(g:b=true):inQ q x=false:=by
 unfold Ho at h;rw [g,Rg]at h;split at h
 · cases h
 · simp_all
theorem RI(g:BI q)(y x:AU):KJ q y x=true↔Dc y q.cl.toNat<Dc x q.cl.toNat\/(Dc x q.cl.toNat=Dc y q.cl.toNat/\y.k<x.k):=by
 have hc:=g.2.1;have e:∀r,Bl r q.cl=Dc r q.cl.toNat:=fun r=>by
  have:=LG r q.cl.toNat A1;rwa [show((q.cl.toNat:Nat):Int)=q.cl by omega]at this
 unfold KJ;rw [e,e,RW,Fo,G2,G2,G2]
theorem zK(B:BI q)(h:KJ q y x=false):leV q.cl.toNat x y:=by
 have g:=RI B y x;rw [h]at g;unfold leV;have:¬(Dc y q.cl.toNat<Dc x q.cl.toNat\/(Dc x q.cl.toNat=Dc y q.cl.toNat/\y.k<x.k)):=fun m=>by cases g.2 m
 omega
theorem zL(g:BI q)(h:KJ q y x=true):leV q.cl.toNat y x:=by
 have:=(RI g y x).1 h;unfold leV;omega
theorem Vh(I:BI q){L:List AU}(U:L.Pairwise (leV q.cl.toNat))(y:AU):∃A B,L=A++B/\R3 (KJ q y) L y=A++[y]++B/\(∀x∈A,KJ q y x=false)/\(∀x∈B,KJ q y x=true):=by
 cases h:L.findIdx? (KJ q y)with
 |none=>
  refine ⟨L,[],by simp,?_,cI.1 h,by simp⟩;unfold R3;rw [h];simp
 |some i=>
  obtain ⟨J,h2,K⟩:=Wf.1 h;refine ⟨L.take i,L.drop i,(Hx i L).symm,?_,fun x g=>?_,fun x g=>?_⟩
  · unfold R3
    rw [h];rfl
  · obtain ⟨j,m⟩:=GW g
    rw [H3]at m;split at m
    · rename_i hji
      obtain ⟨W,rfl⟩:=BE.1 m;simpa using K j hji
    · cases m
  · have G:=U.sublist (List.drop_sublist i L)
    rw [R0 J]at g G;rcases D0.1 g with rfl|g
    · exact h2
    · have O:=(On.1 G).1 x g
      have X:=(RI I y _).1 h2;rw [RI I];unfold leV at O;omega
theorem ZL(g:AU->Bool)(L:List AU)(y:AU):(R3 g L y).Perm (y::L):=by
 unfold R3;simp only [CA,Ly];refine RR.trans ?_;rw [Hx]
theorem fF(G:BI q){L:List AU}(g:L.Pairwise (leV q.cl.toNat))(y:AU):(R3 (KJ q y) L y).Pairwise (leV q.cl.toNat):=by
 obtain ⟨A,B,e,e2,O,U⟩:=Vh G g y;rw [e2];rw [e]at g;obtain ⟨J,h2,K⟩:=O2.1 g;rw [CA];refine O2.2 ⟨J,On.2 ⟨fun x W=>zL G (U x W),h2⟩,fun a I b m=>?_⟩;rcases D0.1 m with rfl|m
 · exact zK G (O a I)
 · exact K a I b m
theorem yw(c:Chg)(x:AU):Jl c x=true↔x.is c.t c.k:=by
 unfold Jl AU.is;rw [Fo,G2,G2]
variable{c:Chg}
theorem Sg(m:BI q)(g:BP rs)(B:GK rs c):Dx q c (CQ rs q)=CQ (EH rs c) q:=by
 have K:((CQ rs q).filter fun x=>!Jl c x).Pairwise (leV q.cl.toNat):=(Ei g _ _ _ _).sublist SU;have O:((CQ rs q).filter fun x=>!Jl c x).Nodup:=(Rq m g).filter _
 have G:∀x,x∈((CQ rs q).filter fun x=>!Jl c x)↔(x∈rs/\¬x.is c.t c.k)/\inQ q x=true:=fun x=>by
  rw [F1,OO m,SZ,<-nh,yw];constructor
  · rintro ⟨⟨a,b⟩,d⟩;exact ⟨⟨a,d⟩,b⟩
  · rintro ⟨⟨a,d⟩,b⟩;exact ⟨⟨a,b⟩,d⟩
 unfold Dx;cases ha:afQ q c with
 |none=>
  refine Rp m (J8 g B) O (fun x=>?_) K;rw [G,Fy g B];constructor
  · rintro ⟨a,b⟩;exact ⟨.inl a,b⟩
  · rintro ⟨a|⟨a,rfl⟩,b⟩
    · exact ⟨a,b⟩
    · rw [qV ha a]at b;cases b
 |some y=>
  obtain ⟨I,U,hi⟩:=Oj ha;have J:y∉((CQ rs q).filter fun x=>!Jl c x):=fun h=>((G y).1 h).1.2 (by rw [I];exact ⟨rfl,rfl⟩)
  refine Rp m (J8 g B) ((ZL _ _ y).nodup_iff.2 (HW.2 ⟨J,O⟩)) (fun x=>?_) (fF m K y);rw [(ZL _ _ y).mem_iff,D0,G,Fy g B];constructor
  · rintro (rfl|⟨a,b⟩)
    · exact ⟨.inr ⟨U,I⟩,hi⟩
    · exact ⟨.inl a,b⟩
  · rintro ⟨a|⟨a,e⟩,b⟩
    · exact .inr ⟨a,b⟩
    · exact .inl (e.trans I.symm)
theorem aK(lt:Int->Int->Bool)(G:∀a b c,lt b a=false->lt c b=false->lt c a=false)(m:∀a,lt a a=false)(g:∀a b,lt a b=true->lt b a=false)(B:∀a b,lt a b=false->lt b a=false->a=b){l:List Int}{x:Int}(I:x∈l)(h:∀y∈l,lt y x=false):ES lt l=⟨[],x,true⟩:=by
 match l,I,h with
 |z::l,I,h=>
  obtain ⟨J,K,O,U⟩:=KG lt G m g z l;rw [U,B x J (O x I) (h J K)]
theorem tL(lt:Int->Int->Bool)(l:List Int)(n:Int):ES lt (l++[n])=⟨(ES lt l).rows,if !(ES lt l).fnd||lt n (ES lt l).val then n else(ES lt l).val,true⟩:=by
 unfold ES;rw [X2];rfl
theorem mV(lt:Int->Int->Bool)(G:∀a b c,lt b a=false->lt c b=false->lt c a=false)(g:∀a,lt a a=false)(m:∀a b,lt a b=true->lt b a=false)(B:∀a b,lt a b=false->lt b a=false->a=b)(X:List Int)(b a:Option Int)
 (h:(GX lt b.isSome a.isSome (b.getD 0) (a.getD 0) (ES lt (X++b.toList))).2=true):(GX lt b.isSome a.isSome (b.getD 0) (a.getD 0) (ES lt (X++b.toList))).1=ES lt (X++a.toList):=by
 have I:∀r:CF,r=ES lt X->(if a.isSome then((⟨r.rows,if !r.fnd||lt (a.getD 0) r.val then a.getD 0 else r.val,true⟩:CF),true)else(r,true)).1=ES lt (X++a.toList):=fun r hr=>by
  subst hr;cases a with
  |none=>simp
  |some n=>rw [nc,tL];rfl
 cases b with
 |none=>
  have e:ES lt (X++(none:Option Int).toList)=ES lt X:=by simp
  rw [e]at h⊢;exact I _ V
 |some o=>
  have O:∃x∈X++[o],(∀y∈X++[o],lt y x=false)/\ES lt (X++[o])=⟨[],x,true⟩:=by
   cases hx:X++[o]with
   |nil=>simp at hx
   |cons z l=>exact KG lt G g m z l
  obtain ⟨x,Z,h2,h3⟩:=O;rw [nc]at h⊢;rw [h3]at h⊢;unfold GX at h⊢;simp only [Option.isSome_some,fx,Rg,S0,ki]at h⊢;cases hxo:lt x o with
  |false=>
   rw [hxo]at h;simp only [cP,Hh]at h⊢;have U:=h2 o B0
   have K:=B x o hxo U;subst K;cases a with
   |none=>simp at h
   |some n=>
    simp only [Option.isSome_some,fx,Rg,Bool.and_true,SZ]at h;rw [nc,aK lt G g m B (x:=n) B0 fun y J=>?_]
    · rfl
    · rcases B9.1 J with J|J
      · exact G n x y h (h2 y (by simp [J]))
      · rw [BT.1 J];exact g n
  |true=>
   simp only [S0,My,HN];have W:x∈X:=by
    rcases B9.1 Z with h9|h9
    · exact h9
    · rw [BT.1 h9,g]at hxo;cases hxo
   have e:(⟨[],x,true⟩:CF)=ES lt X:=(aK lt G g m B W fun y J=>h2 y (by simp [J])).symm;have:=I _ e
   simpa using this
theorem Oo(q:QM)(a b:List AU):Cq q (a++b)=Cq q a++Cq q b:=BW
theorem Yu(q:QM)(o:Option AU):Cq q o.toList=(o.map fun r=>Bl r q.bq).toList:=by cases o<;>rfl
theorem eH(q:QM)(o:Option AU):mQ q o=(o.map fun r=>Bl r q.bq).getD 0:=by cases o<;>rfl
theorem iX(q:QM)(o:Option AU):o.isSome=(o.map fun r=>Bl r q.bq).isSome:=by cases o<;>rfl
theorem vO(o:Option Int):Jj o.toList=o.getD 0:=by
 cases o with
 |none=>rfl
 |some x=>show x+0=x;omega
theorem Yc(K:BI q)(hs:BP rs)(hf:GK rs c)(h7:q.kd≠7)(J:Ce q c=true)(h:(Bu q c (Ci rs q)).2=true):(Bu q c (Ci rs q)).1=Ci (EH rs c) q:=by
 obtain ⟨A,B,e1,e2⟩:=Pt hf;have f1:rs.filter (inQ q)=A.filter (inQ q)++(bfQ q c).toList++B.filter (inQ q):=by
  conv=>lhs;rw [e1]
  rw [HU,HU,TA]
 have f2:(EH rs c).filter (inQ q)=A.filter (inQ q)++(afQ q c).toList++B.filter (inQ q):=by
  rw [e2,HU,HU,TC]
 have p1:=HY K rs;have p2:=HY K (EH rs c)
 rw [f1]at p1;rw [f2]at p2;have hk:=K.2.2.2
 have l1:=p1.length_eq;have l2:=p2.length_eq
 simp only [B7]at l1 l2;have m1:(Cq q (CQ rs q)).Perm ((Cq q (A.filter (inQ q))++Cq q (B.filter (inQ q)))++((bfQ q c).map fun r=>Bl r q.bq).toList):=by
  rw [<-Yu,<-Oo,<-Oo];refine (p1.map _).trans (List.Perm.map _ ?_);simp only [CA];exact RC _ LO
 have m2:(Cq q (CQ (EH rs c) q)).Perm ((Cq q (A.filter (inQ q))++Cq q (B.filter (inQ q)))++((afQ q c).map fun r=>Bl r q.bq).toList):=by
  rw [<-Yu,<-Oo,<-Oo];refine (p2.map _).trans (List.Perm.map _ ?_);simp only [CA];exact RC _ LO
 have hx:∀lt:Int->Int->Bool,(∀a b c,lt b a=false->lt c b=false->lt c a=false)->(∀a,lt a a=false)->(∀a b,lt a b=true->lt b a=false)->(∀a b,lt a b=false->lt b a=false->a=b)->(GX lt (bfQ q c).isSome (afQ q c).isSome (mQ q (bfQ q c)) (mQ q (afQ q c)) (ES lt (Cq q (CQ rs q)))).2=true->(GX lt (bfQ q c).isSome (afQ q c).isSome (mQ q (bfQ q c)) (mQ q (afQ q c)) (ES lt (Cq q (CQ rs q)))).1=ES lt (Cq q (CQ (EH rs c) q)):=fun lt O U W X h9=>by
  rw [PG lt O U W X (fun y=>m1.mem_iff),eH,eH,iX,iX]at h9⊢;rw [PG lt O U W X (fun y=>m2.mem_iff)];exact mV lt O U W X _ _ _ h9
 unfold Bu Ci FN at h⊢;unfold Ce at J;rcases (by omega:(q.kd=1\/q.kd=2)\/q.kd=3\/q.kd=4\/q.kd=5\/q.kd=6)with h8|h8|h8|h8|h8
 · have G:¬q.kd=3:=by omega
   have I:¬q.kd=4:=by omega
   have Z:¬q.kd=5:=by omega
   have g6:¬q.kd=6:=by omega
   simp only [AK h8,G,I,Z,g6,h7,HN,Sg K hs hf]
 · have m:¬(q.kd=1\/q.kd=2):=by omega
   simp only [AH m,AK h8]at J⊢;unfold UT at J;cases hb:bfQ q c<;>cases ha:afQ q c<;>rw [hb,ha]at J<;>rw [hb]at l1<;>rw [ha]at l2<;>simp at J l1 l2⊢<;>omega
 · have m:¬(q.kd=1\/q.kd=2):=by omega
   have G:¬q.kd=3:=by omega
   simp only [AH m,G,AK h8,HN];have s1:=MF m1
   have s2:=MF m2;rw [Y3,vO,<-eH]at s1 s2;have g:∀l,LK l=Jj l:=fun l=>by unfold LK;rw [Mf];omega
   simp only [g];congr 1;omega
 · have m:¬(q.kd=1\/q.kd=2):=by omega
   have G:¬q.kd=3:=by omega
   have I:¬q.kd=4:=by omega
   simp only [AH m,G,I,AK h8,HN]at h⊢;exact hx _ (fun a b c h1 h2=>by simp only [Mn]at*;omega) (fun a=>by simp) (fun a b h=>by simp only [G2,Mn]at*;omega) (fun a b h1 h2=>by simp only [Mn]at*;omega) h
 · have m:¬(q.kd=1\/q.kd=2):=by omega
   have G:¬q.kd=3:=by omega
   have I:¬q.kd=4:=by omega
   have Z:¬q.kd=5:=by omega
   simp only [AH m,G,I,Z,AK h8,HN]at h⊢;exact hx _ (fun a b c h1 h2=>by simp only [Mn]at*;omega) (fun a=>by simp) (fun a b h=>by simp only [G2,Mn]at*;omega) (fun a b h1 h2=>by simp only [Mn]at*;omega) h
theorem Fe(m:BP rs)(k:Int)(x:AU):DZ q (IC rs q.ot) k=some x↔x∈rs/\x.is q.ot k:=by
 have J:∀a∈rs,∀b∈rs,a.is q.ot k->b.is q.ot k->a=b:=fun a G b I B h2=>by
  have e1:=KE m G B;have e2:=KE m I h2
  rw [e1]at e2;injection e2
 have g:∀y,y∈IC rs q.ot/\decide (y.t=q.ot/\y.k=k)=true↔y∈rs/\y.is q.ot k:=fun y=>by
  unfold IC inT AU.is;rw [F1,G2,G2];constructor
  · rintro ⟨⟨a,_⟩,b⟩;exact ⟨a,b⟩
  · rintro ⟨a,b⟩;exact ⟨⟨a,b.1⟩,b⟩
 unfold DZ;constructor
 · intro h
   exact (g x).1 ⟨iu h,by simpa using ke (p:=fun x:AU=>decide (x.t=q.ot/\x.k=k)) h⟩
 · intro h
   cases hf:(IC rs q.ot).find? fun x=>decide (x.t=q.ot/\x.k=k)with
   |none=>
    have:=k8.1 hf x ((g x).2 h).1;exact absurd ((g x).2 h).2 this
   |some y=>
    have h2:=(g y).1 ⟨iu hf,by simpa using ke (p:=fun x:AU=>decide (x.t=q.ot/\x.k=k)) hf⟩;rw [J y h2.1 x h.1 h2.2 h.2]
def prQ(rs:List AU)(q:QM)(r:AU):Option Bb:=(DZ q (IC rs q.ot) (Bl r q.bq)).map fun x=>⟨r,x⟩
def zx(rs:List AU)(q:QM):List Bb:=(CQ rs q).filterMap (prQ rs q)
theorem ZC(rs:List AU)(q:QM):∀l:List AU,Ig q l (IC rs q.ot)=DU (l.filterMap (prQ rs q))
 |[]=>rfl
 |r::l=>by
  have h:=ZC rs q l;unfold Ig at h⊢;rw [HH,h,j8];unfold Ie prQ;cases DZ q (IC rs q.ot) (Bl r q.bq)<;>rfl
theorem df(ps:List Bb):Et (DU ps)=ps:=by
 have G:(DU ps).length=2*ps.length:=I1 ps;have g:∀(ps:List Bb) (k:Nat) (p:Bb),ps[k]?=some p->(DU ps)[2*k]?=some p.l/\(DU ps)[2*k+1]?=some p.r:=by
  intro ps;induction ps with
  |nil=>intro k p h;cases h
  |cons a ps ih=>
   intro k p h;have e:DU (a::ps)=a.l::a.r::DU ps:=rfl
   rw [e];cases k with
   |zero=>injection h with h;subst h;exact ⟨rfl,rfl⟩
   |succ k=>
    have:=ih k p h;rw [show 2*(k+1)=2*k+2 by omega];exact this
 apply Lz;intro k;have m:(Et (DU ps)).length=ps.length:=by rw [K5];omega
 rcases EV k ps.length with h|h
 · obtain ⟨B,h2⟩:=g ps k _ (B4 h)
   unfold Et;rw [DH,Wr A1,Mz,Lw,Lw,B,h2,B4 h];rfl
 · rw [Mp A1,Mp h]
variable{α:Type}
theorem wC{a b:Option α}(h:∀x,a=some x↔b=some x):a=b:=Option.ext h
variable{r:AU}
theorem VH{p:Bb}(h:prQ rs q r=some p):p.l=r/\DZ q (IC rs q.ot) (Bl r q.bq)=some p.r:=by
 unfold prQ at h;cases hp:DZ q (IC rs q.ot) (Bl r q.bq)with
 |none=>rw [hp]at h;cases h
 |some x=>rw [hp]at h;injection h with h;subst h;exact ⟨rfl,rfl⟩
theorem Td{α β:Type}{f g:α->Option β}:∀{l:List α},(∀x∈l,f x=g x)->l.filterMap f=l.filterMap g
 |[],_=>rfl
 |x::l,h=>by rw [j8,j8,h x B0,Td fun y m=>h y (by simp [m])]
theorem ND{β γ:Type}(f:α->Option β)(g:β->Option γ)(h:α->Option γ)(l:List α)(e:∀x∈l,(f x).bind g=h x):(l.filterMap f).filterMap g=l.filterMap h:=by
 rw [mS];exact Td e
theorem tH(g:Bb->Bool)(A B:List Bb)(y:Bb)(m:∀x∈A,g x=false)(G:∀x∈B,g x=true):Ow g (A++B) y=A++[y]++B:=by
 have e:((A++B).findIdx? g).getD (A++B).length=A.length:=by
  rw [List.findIdx?_append,cI.2 m];cases B with
  |nil=>simp
  |cons b B=>rw [List.findIdx?_cons,G b B0];simp
 unfold Ow;rw [e];simp
theorem YZ(hq:BI q)(K:BP rs)(X:GK rs c)(h7:q.kd=7)(ht:Ce q c=true)(h:(Bu q c (Ci rs q)).2=true):(Bu q c (Ci rs q)).1=Ci (EH rs c) q:=by
 have j5:=J8 K X;have ic:∀rs,Ci rs q=⟨DU (zx rs q),0,false⟩:=fun rs=>by
  unfold Ci FN;simp only [show¬q.kd=3 by omega,show¬q.kd=4 by omega,show¬q.kd=5 by omega,show¬q.kd=6 by omega,h7,Hh,HN];rw [ZC];rfl
 have o8:∀r,Bu q c r=D8 q c r:=fun r=>by
  unfold Bu;simp only [show¬(q.kd=1\/q.kd=2) by omega,show¬q.kd=3 by omega,show¬q.kd=4 by omega,show¬q.kd=5 by omega,show¬q.kd=6 by omega,HN]
 have p8:Ny q c=true\/c.t=q.ot:=by
  unfold Ce at ht;simp only [show¬(q.kd=1\/q.kd=2) by omega,show¬q.kd=3 by omega,show¬q.kd=4 by omega,show¬(q.kd=5\/q.kd=6) by omega,HN,RW,G2]at ht;exact ht
 rw [o8,ic]at h⊢;rw [ic];unfold D8 at h⊢;split
 · rename_i g;rw [AK g]at h;cases h
 rename_i hto;rw [AH hto]at h;simp only [df]at h⊢;congr 2;have gm:c.t≠q.tb->CQ (EH rs c) q=CQ rs q:=fun j3=>by
  refine (Rp hq j5 (Rq hq K) (fun x=>?_) (Ei K _ _ _ _)).symm;rw [OO hq,Fy K X];constructor
  · rintro ⟨a,b⟩
    exact ⟨.inl ⟨a,fun g=>j3 (g.1.symm.trans (HP b).1)⟩,b⟩
  · rintro ⟨⟨a,_⟩|⟨a,rfl⟩,b⟩
    · exact ⟨a,b⟩
    · exact absurd (HP b).1 j3
 unfold jnT zx at h⊢;by_cases G:c.t=q.ot
 · rw [AK G]at h⊢
   rw [gm A1];have U:∀k,DZ q (IC (EH rs c) q.ot) k=if k=c.k then(if c.has then some ⟨c.t,c.k,c.n⟩else none)else DZ q (IC rs q.ot) k:=fun k=>by
    apply wC;intro x;rw [Fe j5,Fy K X];unfold AU.is;split
    · rename_i m
      split
      · rename_i O
        rw [Option.some_inj];constructor
        · rintro ⟨⟨_,a⟩|⟨_,rfl⟩,b,d⟩
          · exact absurd ⟨b.trans G.symm,d.trans m⟩ a
          · rfl
        · rintro rfl;exact ⟨.inr ⟨O,rfl⟩,G,m.symm⟩
      · rename_i O
        constructor
        · rintro ⟨⟨_,a⟩|⟨a,_⟩,b,d⟩
          · exact absurd ⟨b.trans G.symm,d.trans m⟩ a
          · exact absurd a O
        · intro g;cases g
    · rename_i m
      rw [Fe K];unfold AU.is;constructor
      · rintro ⟨⟨a,_⟩|⟨_,rfl⟩,b⟩
        · exact ⟨a,b⟩
        · exact absurd b.2.symm m
      · rintro ⟨a,b,d⟩
        exact ⟨.inl ⟨a,fun g=>m (d.symm.trans g.2)⟩,b,d⟩
   have af:c.had=true->∃x,DZ q (IC rs q.ot) c.k=some x:=fun O=>by
    obtain ⟨r,hr,hi,_⟩:=JF (X.1.trans O);exact ⟨r,(Fe K c.k r).2 ⟨hr,by rw [<-G];exact hi⟩⟩
   have J:∀{k x},DZ q (IC rs q.ot) k=some x->x.k=k:=fun g=>((Fe K _ _).1 g).2.2;split
   · rename_i O
     rw [AK O]at h;obtain ⟨x0,W⟩:=af h;rw [<-List.filterMap_eq_map];refine ND _ _ _ _ fun r _=>?_;unfold prQ;rw [U,O];by_cases m:Bl r q.bq=c.k
     · rw [m,W,AK rfl]
       simp only [Mz,I2,Function.comp_apply,Gy,J W,decide_true,Hh]
     · rw [AH m]
       cases I:DZ q (IC rs q.ot) (Bl r q.bq)with
       |none=>rfl
       |some x=>simp only [Mz,I2,Function.comp_apply,Gy,J I,m,ZD,My,HN]
   · rename_i O
     rw [AH O]at h;rw [<-mT];refine ND _ _ _ _ fun r _=>?_;unfold prQ;rw [U,AH O];by_cases m:Bl r q.bq=c.k
     · rw [m,AK rfl]
       obtain ⟨x0,W⟩:=af h;rw [W];simp [Option.guard,Gy,J W]
     · rw [AH m]
       cases I:DZ q (IC rs q.ot) (Bl r q.bq)with
       |none=>rfl
       |some x=>simp [Option.guard,Gy,J I,m]
 · rw [AH G]at h⊢
   have hg:∀r,prQ (EH rs c) q r=prQ rs q r:=fun r=>by unfold prQ;rw [iA X G]
   have l9:prQ (EH rs c) q=prQ rs q:=funext hg;rw [l9];have o9:c.t=q.tb:=by
    rcases p8 with g|g
    · unfold Ny at g
      rw [RW]at g;rcases g with g|g
      · obtain ⟨y,hy⟩:=ff.1 g
        obtain ⟨e,_,hi⟩:=Oj hy;rw [e]at hi;exact (HP hi).1
      · obtain ⟨y,hy⟩:=ff.1 g
        obtain ⟨e,_,hi⟩:=Oj hy;rw [e]at hi;exact (HP hi).1
    · exact absurd g G
   have ek:((CQ rs q).filterMap (prQ rs q)).filter (fun p=>!Q9 c.k p)=((CQ rs q).filter fun x=>!Jl c x).filterMap (prQ rs q):=by
    rw [<-mT,<-mT,mS,mS];refine Td fun r hr=>?_;have Z:r.t=c.t:=((HP ((OO hq rs r).1 hr).2).1).trans o9.symm
    by_cases m:r.k=c.k
    · cases I:prQ rs q r with
      |none=>simp [Option.guard,Jl,Z,m]
      |some p=>simp [Option.guard,Jl,Z,m,Q9,(VH I).1]
    · cases I:prQ rs q r with
      |none=>simp [Option.guard,Jl,Z,m,I]
      |some p=>simp [Option.guard,Jl,Z,m,Q9,(VH I).1,I]
   rw [ek]at h⊢;have gq:=Sg hq K X
   rw [<-gq];unfold Dx;cases ha:afQ q c with
   |none=>rfl
   |some y=>
    rw [ha]at h;simp only [ha]at h⊢;have hm:mQ q (some y)=Bl y q.bq:=rfl
    rw [hm]at h⊢;have hL:((CQ rs q).filter fun x=>!Jl c x).Pairwise (leV q.cl.toNat):=(Ei K _ _ _ _).sublist SU
    obtain ⟨A,B,e1,e2,hA,hB⟩:=Vh hq hL y;rw [e2];cases hfi:((CQ rs q).filterMap (prQ rs q)).findIdx? (Gy (Bl y q.bq))with
    |none=>
     have hi:Gq (Gy (Bl y q.bq)) ((CQ rs q).filterMap (prQ rs q))=-1:=by unfold Gq;rw [hfi];rfl
     rw [hi,AK AN]at h⊢;rw [Fo,G2]at h;obtain ⟨b,hb⟩:=ff.1 h.1;obtain ⟨eb,gy,l5⟩:=Oj hb;have g:=h.2
     rw [hb]at g;have l8:b∈CQ rs q:=by
      refine (OO hq rs b).2 ⟨?_,l5⟩;obtain ⟨r,hr,hi,_,he⟩:=JF (X.1.trans gy);have hv:=X.2 (X.1.trans gy)
      rw [he]at hv;have:b=r:=by
       rw [eb];obtain ⟨t,k,v⟩:=r;obtain ⟨h5,h6⟩:=hi;simp only at h5 h6 hv;subst h5 h6 hv;rfl
      rw [this];exact hr
     have bn:prQ rs q b=none:=by
      cases I:prQ rs q b with
      |none=>rfl
      |some p=>
       have ax:=cI.1 hfi p (X1.2 ⟨b,l8,I⟩);have kv:=(Fe K _ _).1 (VH I).2
       unfold Gy at ax;rw [Mn]at ax;exact absurd (kv.2.2.trans g) ax
     have cu:prQ rs q y=none:=by
      unfold prQ at bn⊢;rw [show Bl y q.bq=Bl b q.bq from g.symm];cases I:DZ q (IC rs q.ot) (Bl b q.bq)with
      |none=>rfl
      |some x=>rw [I]at bn;cases bn
     rw [e1,dr,dr,dr];simp [cu]
    |some i=>
     obtain ⟨h1,h2,h3⟩:=Wf.1 hfi;have hi:Gq (Gy (Bl y q.bq)) ((CQ rs q).filterMap (prQ rs q))=(i:Int):=by unfold Gq;rw [hfi];rfl
     rw [hi,AH A1]at h⊢;rw [V2,Lw,B4 h1,fx];obtain ⟨r,hr,I⟩:=X1.1 (nm h1);generalize ((CQ rs q).filterMap (prQ rs q))[i]=p at h2 I;have h4:=(Fe K _ _).1 (VH I).2
     unfold Gy at h2;rw [G2]at h2;have cu:prQ rs q y=some ⟨y,p.r⟩:=by
      unfold prQ;rw [(Fe K (Bl y q.bq) p.r).2 ⟨h4.1,h4.2.1,h2⟩];rfl
     rw [e1,dr,tH]
     · simp [cu]
     · intro x hx
       obtain ⟨r9,d9,cO⟩:=X1.1 hx;rw [(VH cO).1];exact hA r9 d9
     · intro x hx
       obtain ⟨r9,d9,cO⟩:=X1.1 hx;rw [(VH cO).1];exact hB r9 d9
theorem dV(B:BI q)(G:BP rs)(m:GK rs c)(I:Ce q c=true)(h:(Bu q c (Ci rs q)).2=true):(Bu q c (Ci rs q)).1=Ci (EH rs c) q:=by
 by_cases g:q.kd=7
 · exact YZ B G m g I h
 · exact Yc B G m g I h
def GD(q:QM)(base:Int):Nat->CF×Int->List BU->Option (CF×Int)
 |_,st,[]=>some st
 |i,st,x::l=>if(BZ q st.1 x.cs).2.2=true/\base<=9223372036854775806 -(i:Int)/\x.p=base+1+(i:Int)then GD q base (i+1) ((BZ q st.1 x.cs).1,if(BZ q st.1 x.cs).2.1 then x.p else st.2) l else none
theorem OV(q:QM)(base:Int):∀(a:List BU) (i:Nat) (st:CF×Int) (b:List BU),GD q base i st (a++b)=(GD q base i st a).bind fun g=>GD q base (i+a.length) g b
 |[],i,st,b=>rfl
 |x::a,i,st,b=>by
  show(if(BZ q st.1 x.cs).2.2=true/\base<=9223372036854775806 -(i:Int)/\x.p=base+1+(i:Int)then GD q base (i+1) _ (a++b)else none)=(if(BZ q st.1 x.cs).2.2=true/\base<=9223372036854775806 -(i:Int)/\x.p=base+1+(i:Int)then GD q base (i+1) _ a else none).bind _;split
  · rw [OV q base a (i+1) _ b,DE,show i+(a.length+1)=i+1+a.length by omega]
  · rfl
theorem J3{base:Int}{st g:CF×Int}{l:List BU}{k:Nat}{x:BU}(h:GD q base 0 st (l.take k)=some g)(m:l[k]?=some x):GD q base 0 st (l.take (k+1))=if(BZ q g.1 x.cs).2.2=true/\base<=9223372036854775806 -(k:Int)/\x.p=base+1+(k:Int)then some ((BZ q g.1 x.cs).1,if(BZ q g.1 x.cs).2.1 then x.p else g.2)else none:=by
 have B:=(BE.1 m).1;rw [Bh m,OV,h,C2,PB A1,D2];rfl
theorem MG{base:Int}{st:CF×Int}{l:List BU}{k:Nat}(h:GD q base 0 st (l.take k)=none):GD q base 0 st l=none:=by
 rw [<-Hx k l,OV,h];rfl
def BC(q:QM)(r:CF)(base:Int)(l:List BU):CF×Int×Bool:=match GD q base 0 (r,base) l with
 |some st=>(st.1,st.2,true)
 |none=>(CF.none,0,false)
theorem M6{r:CF}{cs:List Chg}(h:(BZ q r cs).2.2=true):Ha q r cs=some (BZ q r cs).1/\(BZ q r cs).2.1=cs.any (Df q):=by
 unfold BZ at*;split at h
 · rename_i h9;rw [h9];exact ⟨rfl,rfl⟩
 · cases h
theorem OU{q:QM}{base:Int}:∀(l:List BU) (i:Nat) (st st':CF×Int) (B:Int) (n:Nat),GD q base i st l=some st'->(∀x∈l,x.cs.length<=1000)->(-B<=st.1.val/\st.1.val<=B)->0<=B->st.1.rows.length<=n->(-(B+2000000000000*(l.length:Int))<=st'.1.val/\st'.1.val<=B+2000000000000*(l.length:Int))/\st'.1.rows.length<=n+2000*l.length
 |[],i,st,st',B,n,h,hl,h1,h2,h3=>by
  unfold GD at h;injection h with h
  subst h;simp only [It];exact ⟨⟨by omega,by omega⟩,h3⟩
 |x::l,i,st,st',B,n,h,hl,h1,h2,h3=>by
  unfold GD at h;split at h
  · rename_i h9
    have I:=Wd _ _ _ B n (M6 h9.1).1 h1 h2 h3;have J:=hl x B0
    have m:=OU l (i+1) _ st' (B+2000000000000) (n+2000) h (fun y G=>hl y (by simp [G])) ⟨by simp only;omega,by simp only;omega⟩ A1 (by simp only;omega);rw [DE];obtain ⟨⟨K,O⟩,g⟩:=m;refine ⟨⟨?_,?_⟩,by omega⟩<;>(push_cast;omega)
  · cases h
set_option maxHeartbeats 1000000 in
theorem QV(q:QM)(hq:BI q)(base:Int)(hb:-9223372036854775808<=base/\base<=9223372036854775807){l:List BU}{lv:Value}{ML:List A9}(hL:EW ML lv l)(o9:l.length<=1000)(U:∀x∈l,x.cs.length<=1000){r:CF}{rv:Value}{A:List A9}(hr:E8 A rv r.rows)(hn:r.rows.length<=1000000)(hv:-1000000000000000000<=r.val/\r.val<=1000000000000000000):Ba prog 91 #[.agg q.A17,.agg #[rv,I4 r.val,.bool r.fnd],I4 base,lv] [A,ML] (fun w H'=>∃af s',w= .tuple #[.agg #[af,I4 (BC q r base l).1.val,.bool (BC q r base l).1.fnd],I4 (BC q r base l).2.1,.bool (BC q r base l).2.2]/\Bc 5 83 af (BC q r base l).1.rows.length (Ae (BC q r base l).1.rows) s'/\H'=[s',A,ML]):=by
 have p9:=mL;obtain ⟨pv,cv,rfl,_⟩:=id hr;obtain ⟨pl,l5,rfl,⟨p8,o8⟩,gm⟩:=id hL;refine Se func91 ntmps91 [0,1,2,3] ?_;intro u R;refine A0<|Ze (Bx q.A17)<|AD fun bq=>Ze (Bx #[.slice pv r.rows.length cv,I4 r.val,.bool r.fnd])<|AD fun br=>Ze (Al G4 #[_,_,_])<|AD fun bo=>Za Y<|A3 Y<|A0<|Zm Y<|A3 Y<|A0<|Zh 0 CC V rfl C5 Y<|Zl Fl Y ?_;refine Zc [_] Y call109 Y V (Gd hr A1) ?_;rintro _ _ ⟨_,⟨s1,h1,rfl⟩,rfl⟩;obtain ⟨g1,c1,rfl⟩:=h1.form;refine Zh 0 CC V rfl C5 Y<|Xe (Zs C5 Y Y V (hi:=by(simp;done))) ?_;refine A4<|Zq<|A0<|Zm Y<|Zv (Ab GB Y)<|Zm Y<|Z0<|Zn [2,4,5,8,11,22,23,24] ?_;refine Zx<|AP<|Zb [11,24,2,4,5,8,22,23] ?_;refine BB (e0:=[(11,_),(24,_)]) (fun m e H=>∃(k:Nat) (g:CF×Int) (gk:Option Addr) (ck:Nat) (sk:List A9),m=l.length -k/\(k<=l.length/\GD q base 0 (r,base) (l.take k)=some g/\Bc 5 83 (.slice gk g.1.rows.length ck) g.1.rows.length (Ae g.1.rows) sk)/\e=[(11,I4 g.2),(24,I4 (k:Int))]/\H=[[(br,.cells #[.slice gk g.1.rows.length ck,I4 g.1.val,.bool g.1.fnd] 53 (0,0))],sk]) (by exact ⟨0,(r,base),g1,c1,s1,rfl,⟨C0 _,by rw [HX];rfl,h1⟩,rfl,rfl⟩) Wp ?_;rintro _ _ _ ⟨k,g,gk,ck,sk,rfl,⟨hk,B,Z⟩,rfl,rfl⟩;obtain ⟨ic,gy⟩:=OU (l.take k) 0 (r,base) g 1000000000000000000 1000000 B (fun x J=>U x (Nd J)) hv A1 hn;have gq:(l.take k).length=k:=by rw [C2];omega
 rw [gq]at ic gy;have d9:=DT Z A1
 refine A0<|Zv (Au Y Y)<|A4<|Zq<|Av Y (fun X=>?_) (fun X=>?_)
 ·
  obtain ⟨x,J⟩:∃x,l[k]?=some x:=⟨_,B4 X⟩;have j5:=U x (DG J)
  obtain ⟨cO,g2,l9,O,T2,kv,rfl,j3,l8,W⟩:=gm k x J;refine AC<|Zx<|Zq<|AP<|A0<|Zm Y<|BX (Ad GB F2 Y Y A1)<|CO (cs:=[(g2,.cells O T2 kv)]) (by simp [j3]) (AA (cs:=#[I4 x.p,.slice x.q x.cs.length x.cap]) Hc F2 Y A1 W) V rfl ?_;refine Ze (Al Ss #[_,_])<|AD fun bx=>Za Y<|Xe (Xw F2 #[I4 x.p,.slice x.q x.cs.length x.cap]) ?_;refine A4<|A0<|Zo Wh (AA (cs:=#[_,_,_,_,_,_,_]) Dg C7 Y As AM) ?_;refine Zo Wh (AA (cs:=#[_,_,_]) Bm Ax Y As AM) ?_;refine Zo Wh (AA (cs:=#[_,_]) Hc F2 Y As AM) ?_;refine Zc [_,_,_] Y call55 Y V (JH q hq x.p x.q x.cap x.cs cO j5 d9 A1 A1) ?_;rintro _ _ ⟨_,⟨pg,s3,rfl,h3,rfl⟩,rfl⟩;obtain ⟨g3,c3,rfl⟩:=h3.form;refine Zm Y<|Zd Y V<|Zd Y V<|Zd Y V<|Ze (Al G4 #[_,_,_])<|AD fun bn=>Xe (Xw Ax #[.slice g3 (BZ q g.1 x.cs).1.rows.length c3,I4 (BZ q g.1 x.cs).1.val,.bool (BZ q g.1 x.cs).1.fnd]) ?_;refine Za Y<|AG Y<|Zn [2,4,5,8,11,12,13,14,15,16,22,23,24] ?_;refine Zx<|Zq<|A0<|Zm Y<|Zv (Br Y)<|Zm Y<|Af (t:=39) Y V (fun K=>?_) (fun K=>?_)
  ·
   have I:(BZ q g.1 x.cs).2.2=false:=by simpa using K
   refine A7 Y V<|A7 Y V<|A7 Y V<|A7 Y V<|Zv (AX Y Y)<|Zm Y ?_;repeat refine A7 Y rfl ?_
   refine Zv (AX Y Y)<|Z0<|Zn [2,4,5,8,11,13,14,15,22,23,24,53] ?_;refine Zx<|Cn Y<|Zq<|BV ?_;have G:BC q r base l=(CF.none,0,false):=by unfold BC;rw [MG (k:=k+1) (by rw [J3 B J,AH (by(rw [I];rintro ⟨h,_⟩;cases h;done))])]
   refine Zg<|Zv (BK (vs:=[]) (cs:=#[_,_,_]) Y (AY (pl:=#[(0,1),(1,1),(2,1)]) G4 CC (fun _=>by kernel_rfl) V))<|Xe (Xw Ax _) ?_;refine Za Y<|A3 Y<|AJ<|Zt<|Ac<|Zt<|Zt<|Ac<|Zt<|Hq rfl results91 Y Wh (Ak Bm Ax Wn (rfl)) Y Y (by exact ⟨.slice none 0 0,[],by rw [G];rfl,by rw [G];exact Bf 5 _,rfl⟩)
  have I:(BZ q g.1 x.cs).2.2=true:=by simpa using K
  refine Zf Y Y<|Zf Y Y ?_
  (refine Gp Y (CL (m:=9223372036854775806) Y Y ?_ ?_) rfl rfl ?_;(focus (omega));(focus (omega)))
  refine Yg (Ep Y Y)<|Zv (AL Y Y)<|Zm Y<|Ao (t:=45) Y V (fun ax=>?_) (fun ax=>?_)
  ·
   repeat refine A7 Y rfl ?_
   refine Zv (AX Y Y)<|Z0<|Zn [2,4,5,8,11,13,14,15,22,23,24,53] ?_;refine Zx<|Cn Y<|Zq<|BV ?_;have G:BC q r base l=(CF.none,0,false):=by unfold BC;rw [MG (k:=k+1) (by rw [J3 B J,AH (by(rintro ⟨_,h8,h9⟩;omega))])]
   refine Zg<|Zv (BK (vs:=[]) (cs:=#[_,_,_]) Y (AY (pl:=#[(0,1),(1,1),(2,1)]) G4 CC (fun _=>by kernel_rfl) V))<|Xe (Xw Ax _) ?_;refine Za Y<|A3 Y<|AJ<|Zt<|Ac<|Zt<|Zt<|Ac<|Zt<|Hq rfl results91 Y Wh (Ak Bm Ax Wn (rfl)) Y Y (by exact ⟨.slice none 0 0,[],by rw [G];rfl,by rw [G];exact Bf 5 _,rfl⟩)
  refine Yf 0 GF V rfl A5 Y<|Yl AE Y ?_;refine Zf Y Y ?_
  (refine Gp Y (H6 Y Y (IntWalk.i64_in _ ?_)) rfl rfl ?_;(focus (omega)))
  refine Zf Y Y ?_
  (refine Gp Y (H6 Y Y (IntWalk.i64_in _ ?_)) rfl rfl ?_;(focus (omega)))
  refine Yg (Kw Y Y)<|Zv (AL Y Y)<|Z0<|Zn [2,4,5,8,11,13,14,15,22,23,24,53] ?_;refine Zx<|Av Y (fun cu=>?_) (fun cu=>?_)
  ·
   refine Zq<|BV ?_;have G:BC q r base l=(CF.none,0,false):=by unfold BC;rw [MG (k:=k+1) (by rw [J3 B J,AH (by(rintro ⟨_,h8,h9⟩;omega))])]
   refine Zg<|Zv (BK (vs:=[]) (cs:=#[_,_,_]) Y (AY (pl:=#[(0,1),(1,1),(2,1)]) G4 CC (fun _=>by kernel_rfl) V))<|Xe (Xw Ax _) ?_;refine Za Y<|A3 Y<|AJ<|Zt<|Ac<|Zt<|Zt<|Ac<|Zt<|Hq rfl results91 Y Wh (Ak Bm Ax Wn (rfl)) Y Y (by exact ⟨.slice none 0 0,[],by rw [G];rfl,by rw [G];exact Bf 5 _,rfl⟩)
  refine AC<|Zx<|A0<|Zo Wh (AA (cs:=#[_,_,_]) Bm Ax Y As AM) ?_;refine Xe (BM Ax Y Y HR Wu AM E7 As (by exact BA _)) ?_;refine A4<|A0<|Zm Y<|A4<|AV Y (fun ht=>?_) (fun ht=>?_)
  ·
   refine Zg<|Zh 0 GF V rfl A5 Y<|Zl AE Y ?_;refine AG Y<|A8<|Zx<|Zg<|Ya (n:=1) Y Y<|Zm Y<|Z0<|Zn [11,24,2,4,5,8,22,23] ?_;refine Aa (e':=[(11,_),(24,_)]) (by exact ⟨k+1,((BZ q g.1 x.cs).1,x.p),g3,c3,s3,rfl,⟨by omega,by rw [J3 B J,AK ⟨I,by omega,by omega⟩,ht];rfl,h3⟩,rfl,rfl⟩)
  refine AC<|A8<|Zx<|Zg<|Ya (n:=1) Y Y<|Zm Y<|Z0<|Zn [11,24,2,4,5,8,22,23] ?_;refine Aa (e':=[(11,_),(24,_)]) (by exact ⟨k+1,((BZ q g.1 x.cs).1,g.2),g3,c3,s3,rfl,⟨by omega,by rw [J3 B J,AK ⟨I,by omega,by omega⟩,ht];rfl,h3⟩,rfl,rfl⟩)
 have ek:k=l.length:=by omega
 subst ek;rw [FF]at B;have G:BC q r base l=(g.1,g.2,true):=by unfold BC;rw [B]
 refine Ay<|Zt<|Zt<|AR<|Zx<|A0<|Zo Wh (AA (cs:=#[_,_,_]) Bm Ax Y As AM) ?_;refine Zm Y<|Xe (Xw Ax _) ?_;refine Za Y<|A3 Y<|AJ<|Hq rfl results91 Y Wh (Ak Bm Ax Wn (rfl)) Y Y (by exact ⟨.slice gk _ ck,sk,by rw [G];rfl,by rw [G];exact Z,rfl⟩)
theorem jZ(B:BI q)(G:BP rs)(m:GK rs c)(g:c.ok)(h:(D6 q c (Ci rs q)).2=true):(D6 q c (Ci rs q)).1=Ci (EH rs c) q:=by
 unfold D6 at h⊢;cases ht:Df q c with
 |false=>
  rw [AH AN];unfold Df at ht;rw [DA g,Rg]at ht;exact (tV B m ht).symm
 |true=>
  rw [ht,AK rfl]at h;rw [AK rfl];unfold Df at ht;rw [Fo]at ht;split at h
  · rename_i h9
    rw [AK h9];exact dV B G m ht.2 h9
  · cases h
theorem Uz{q:QM}(G:BI q){rs:List AU}{cs:List Chg}(I:BP rs)(m:xh cs)(B:∀c∈cs,GK rs c)(g:∀c∈cs,c.ok):∀i,i<=cs.length->∀r,Ha q (Ci rs q) (cs.take i)=some r->r=Ci (DL rs (cs.take i)) q
 |0,_,r,h=>by
  rw [HX]at h⊢;injection h with h
  exact h.symm
 |i+1,hi,r,h=>by
  obtain ⟨c,hc⟩:∃c,cs[i]?=some c:=⟨_,B4 A1⟩;obtain ⟨J,h2⟩:=KF I m B i A1;cases hr:Ha q (Ci rs q) (cs.take i)with
  |none=>
   have:=Ph (cs:=cs.take (i+1)) (k:=i) (q:=q) (r:=Ci rs q) (by rw [TX,PB A1];exact hr);rw [this]at h;cases h
  |some rk=>
   have e:=Uz G I m B g i A1 rk hr;rw [Jt hr hc,e]at h;split at h
   · rename_i h9
     injection h with h
     rw [<-h,EL rs cs i c hc];exact jZ G J (h2 i c (CT _) hc) (g c (DG hc)) h9
   · cases h
theorem oV(g:BI q){p rp:Int}{cs:List Chg}(B:BP rs)(h:KN rs p rp cs){r:CF}(m:Ha q (Ci rs q) cs=some r):r=Ci (DL rs cs) q:=by
 have:=Uz g B (U7 h.ok.ord) h.fit (fun c hc=>by obtain ⟨i,hi⟩:=GW hc;exact h.ok.all i c hi) cs.length (CT _) r (by rw [FF];exact m);rwa [FF]at this
def Ra(q:QM)(x:BU):Bool:=x.cs.any (Df q)
structure uZ(q:QM)(l:List BU)(base k:Nat)(s:Int):Prop where
 le:(base:Int)<=s/\s<=((base+k:Nat):Int)
 at_:s≠(base:Int)->∃(j:Nat) (x:BU),(j:Int)+1=s/\l[j]?=some x/\Ra q x=true
 no:∀(j:Nat) (x:BU),s<=(j:Int)->j<base+k->l[j]?=some x->Ra q x=false
theorem Pg{q:QM}(U:BI q){l:List BU}(I:F5 l){base:Nat}(hb:base<=l.length):∀k,base+k<=l.length->∀st,GD q (base:Int) 0 (Ci (Bd (l.take base)) q,(base:Int)) ((l.drop base).take k)=some st->st.1=Ci (Bd (l.take (base+k))) q/\uZ q l base k st.2
 |0,_,st,h=>by
  rw [HX]at h;injection h with h
  subst h;exact ⟨V,⟨by simp only;omega,fun h=>absurd V h,fun j x B h2=>by simp only at B;omega⟩⟩
 |k+1,hk,st,h=>by
  obtain ⟨x,m⟩:∃x,l[base+k]?=some x:=⟨_,B4 A1⟩;have J:(l.drop base)[k]?=some x:=by rw [OR];exact m
  obtain ⟨O,_⟩:=I _ x m;have hp:x.p=((base+k:Nat):Int)+1:=O.pos
  cases hr:GD q (base:Int) 0 (Ci (Bd (l.take base)) q,(base:Int)) ((l.drop base).take k)with
  |none=>
   have:=MG (l:=(l.drop base).take (k+1)) (k:=k) (q:=q) (base:=(base:Int)) (st:=(Ci (Bd (l.take base)) q,(base:Int))) (by rw [TX,PB A1];exact hr);rw [this]at h;cases h
  |some sk=>
   obtain ⟨e1,e2⟩:=Pg U I hb k A1 sk hr;rw [J3 hr J]at h;split at h
   · rename_i h9
     injection h with h
     subst h;have G:=M6 h9.1
     have B:=(I.rows (base+k) A1).1;rw [e1]at G;refine ⟨?_,?_⟩
     · have:=oV U B O G.1
       rw [show base+(k+1)=base+k+1 by omega,Bh m,Gc,<-this,e1]
     · have hT:(BZ q sk.1 x.cs).2.1=Ra q x:=by rw [e1];exact G.2
       simp only [hT];obtain ⟨⟨a1,W⟩,X,Z⟩:=e2;cases ht:Ra q x with
       |true=>
        simp only [Hh];refine ⟨by omega,fun _=>⟨base+k,x,hp.symm,m,ht⟩,fun j y K h6=>by omega⟩
       |false=>
        simp only [My,HN];refine ⟨by push_cast at W⊢;omega,X,fun j y K h6 g=>?_⟩;rcases EV j (base+k)with h8|h8
        · exact Z j y K h8 g
        · obtain rfl:j=base+k:=by omega
          rw [m]at g;injection g with g
          rw [<-g];exact ht
   · cases h
theorem YY(g:1<=q.kd/\q.kd<=4)(c:Chg)(r:CF):(D6 q c r).2=true:=by
 have:(Bu q c r).2=true:=by
  unfold Bu;split
  · rfl
  · split
    · rfl
    · rw [AK A1]
 unfold D6;rw [AK this];split<;>rfl
theorem Ry{q:QM}(g:1<=q.kd/\q.kd<=4):∀(cs:List Chg) (r:CF),∃m,Ha q r cs=some m
 |[],r=>⟨r,rfl⟩
 |c::cs,r=>by
  unfold Ha;rw [AK (YY g c r)];exact Ry g cs _
abbrev Bs:=List UInt8
def Z5(s:Bs):Bs:=sha (0::s)
def JC(a b:Bs):Bs:=sha (1::(a++b))
def DX(n:Nat):Nat:=2^Nat.log2 (n -1)
theorem Ou(n:Nat):0<DX n:=cN _
variable{n:Nat}
theorem Ov(h:2<=n):DX n<n:=by
 have:=Nat.log2_self_le (n:=n -1) A1;unfold DX;omega
theorem wN{e:Nat}(g:2^e<n)(h2:n<=2^(e+1)):DX n=2^e:=by
 unfold DX;congr 1;refine (Nat.log2_eq_iff (by have:=cN e;omega)).2 ⟨by omega,by omega⟩
def Dh(l:List Bs):Bs:=
 if h:2<=l.length then JC (Dh (l.take (DX l.length))) (Dh (l.drop (DX l.length)))
 else match l with
  |[]=>sha []
  |x::_=>Z5 x
termination_by l.length
decreasing_by
 · have:=Ov h;rw [C2];omega
 · have:=Ou l.length;rw [C3];omega
theorem ou:Dh []=sha []:=by rw [Dh];rfl
theorem oq(x:Bs):Dh [x]=Z5 x:=by rw [Dh];rfl
variable{l:List Bs}
theorem jr(h:2<=l.length):Dh l=JC (Dh (l.take (DX l.length))) (Dh (l.drop (DX l.length))):=by
 rw [Dh,dif_pos h]
theorem V9{a b:List Bs}{e:Nat}(g:a.length=2^e)(h0:0<b.length)(B:b.length<=2^e):Dh (a++b)=JC (Dh a) (Dh b):=by
 have G:=cN e;have m:DX (a++b).length=a.length:=by
  rw [g];exact wN (by rw [B7];omega) (by rw [B7,eJ];omega)
 rw [jr (by rw [B7];omega),m,HJ,W0]
 · rfl
 · rfl
structure JM(ps:List (List Bs)):Prop where
 pow:∀p∈ps,∃e,p.length=2^e
 lt:ps.Pairwise (fun a b=>b.length<a.length)
theorem uK:JM []:=⟨by simp,.nil⟩
theorem q8{a b:Nat}(h:2^a<2^b):2*2^a<=2^b:=by
 have:=(Nat.pow_lt_pow_iff_right (a:=2) A1).1 h
 calc 2*2^a=2^(a+1):=by rw [eJ];omega
  _<=2^b:=Nat.pow_le_pow_right A1 this
variable{p:List Bs}{ps:List (List Bs)}
theorem JM.tail(h:JM (p::ps)):JM ps:=⟨fun q g=>h.pow q (by simp [g]),(On.1 h.lt).2⟩
theorem JM.init(h:JM (ps++[p])):JM ps:=⟨fun q g=>h.pow q (by simp [g]),(O2.1 h.lt).1⟩
theorem JM.sum:∀{ps:List (List Bs)} {e:Nat},JM ps->(∀p∈ps,p.length<2^e)->ps.flatten.length<2^e
 |[],e,_,_=>by simpa using cN e
 |p::ps,e,h,hl=>by
  obtain ⟨e1,g⟩:=h.pow p B0;have h2:=hl p B0
  rw [g]at h2;have B:=q8 h2
  have G:=JM.sum (e:=e1) h.tail (fun q m=>by rw [<-g];exact (On.1 h.lt).1 q m);rw [C4,B7,g];omega
theorem JM.nonempty(h:JM ps)(g:ps≠[]):0<ps.flatten.length:=by
 cases ps with
 |nil=>exact absurd rfl g
 |cons p ps=>
  obtain ⟨e,m⟩:=h.pow p B0;have:=cN e
  rw [C4,B7];omega
theorem JM.root:∀{ps:List (List Bs)} {q:List Bs},JM (ps++[q])->ps.foldr (fun p o=>JC (Dh p) o) (Dh q)=Dh (ps.flatten++q)
 |[],q,_=>by simp
 |p::ps,q,h=>by
  rw [List.foldr_cons,JM.root (ps:=ps) (q:=q) h.tail,C4,CA];obtain ⟨e,m⟩:=h.pow p B0;have G:(ps++[q]).flatten=ps.flatten++q:=by simp
  have B:JM (ps++[q]):=h.tail;have g:0<(ps++[q]).flatten.length:=JM.nonempty B B0
  have h2:=JM.sum (e:=e) B (fun r I=>by rw [<-m];exact (On.1 h.lt).1 r I);rw [G]at g h2;exact (V9 m g A1).symm
structure O0(ls:List Bs)(ps:List (List Bs))(q:List Bs)(i:Nat):Prop where
 bin:JM ps
 pow:∃e,q.length=2^e
 le:∀p∈ps,q.length<=p.length
 flat:ps.flatten++q=ls.take i
variable{ls:List Bs}{i:Nat}
theorem ky{s:Bs}(h:JM ps)(m:ps.flatten=ls.take i)(G:ls[i]?=some s):O0 ls ps [s] (i+1):=
 ⟨h,⟨0,rfl⟩,fun p B=>by
   obtain ⟨e,g⟩:=h.pow p B;have:=cN e
   rw [g];simp;omega,by rw [P0,G,m];rfl⟩
theorem O0.step{q:List Bs}(h:O0 ls (ps++[p]) q i)(e:p.length=q.length):O0 ls ps (p++q) i/\Dh (p++q)=JC (Dh p) (Dh q):=by
 obtain ⟨e1,g⟩:=h.pow;have I:=cN e1
 refine ⟨⟨h.bin.init,⟨e1+1,by rw [B7,e,g,eJ];omega⟩,?_,?_⟩,V9 (e.trans g) A1 A1⟩
 · intro r B
   obtain ⟨e2,h2⟩:=h.bin.pow r (by simp [B]);have m:=(O2.1 h.bin.lt).2.2 r B p B0
   rw [e,g,h2]at m;have G:=q8 m
   rw [B7,e,g,h2];omega
 · rw [<-h.flat];simp
theorem O0.done{q:List Bs}(h:O0 ls ps q i)(I:∀m p,ps=m++[p]->p.length≠q.length):JM (ps++[q])/\(ps++[q]).flatten=ls.take i:=by
 refine ⟨⟨?_,?_⟩,by rw [<-h.flat];simp⟩
 · intro r B
   rcases B9.1 B with B|B
   · exact h.bin.pow r B
   · rw [BT]at B
     subst B;exact h.pow
 · rw [O2]
   refine ⟨h.bin.lt,List.pairwise_singleton _ _,?_⟩;intro a g b J;rw [BT]at J;subst J;rcases fg ps with rfl|⟨m,p,rfl⟩
   · simp at g
   · have K:=I m p B0
     have h2:=h.le p B0;have G:=h.bin.lt
     simp only [mu]at g G;rw [O2]at G;rcases B9.1 g with g|g
     · have:=G.2.2 a g p B0
       omega
     · rw [BT]at g
       subst g;omega
variable{cur:Array Value}{xs:List Value}
theorem vM(h:cur.toList.take xs.length=xs){x:Value}(m:xs[i]?=some x):cur[i]?=some x:=by
 have g:=(BE.1 m).1;rw [<-h,H3,AK g,HE]at m;exact m
theorem sV(ps:List (List Bs))(o:Bs):(ps.map Dh).reverse.foldl (fun o r=>JC r o) o=ps.foldr (fun p o=>JC (Dh p) o) o:=by
 rw [List.foldl_reverse,List.foldr_map]
def EU(M:List A9)(v:Value)(ls:List Bs):Prop:=∃p cap,v= .slice p ls.length cap/\(ls.length<=maxLen/\ls.length<=cap)/\∀(i:Nat) (s:Bs),ls[i]?=some s->∃g off cur T zz,p=some ⟨g,off,none⟩/\(g,Obj.cells cur T zz)∈M/\cur[off+i]?=some (G8 s)
def rtV(p:List Bs):Value:=G8 (Dh p)
def lnV(p:List Bs):Value:=I4 ((p.length:Nat):Int)
variable{e:TypeId}{s:List A9}
theorem Pj{sz:Nat}{b:Option Addr}{c:Nat}(h:Bc sz e (.slice b n c) n xs s)(k:Nat)(B:k<=n):Bc sz e (.slice b k c) k (xs.take (k*sz)) s:=by
 obtain ⟨G,h⟩:=h;refine ⟨by rw [C2,G,PB (T6 _ B)],?_⟩;rcases h with⟨m,rfl,rfl⟩|⟨g,cap',cur,z,m,rfl,h2,h3,h4,h5,h6⟩
 · injection m with e1 e2 e3
   subst e1 e3;obtain rfl:k=0:=by omega
   exact .inl ⟨V,V,V⟩
 · injection m with e1 e2 e3
   subst e1 e3;refine .inr ⟨g,c,cur,z,V,V,by omega,h3,h4,?_,h6⟩;rw [<-h5,TX,PB (T6 _ B)]
variable{v:Value}
theorem LQ(h:Bc 1 e v n xs s)(h0:0<n):∃g cap cur z,v=I6 g n cap/\s=[(g,.cells cur e z)]/\n<=cap/\∀(i:Nat) (x:Value),xs[i]?=some x->cur[i]?=some x:=by
 obtain ⟨I,⟨_,B,_⟩|⟨g,m,cur,z,B,rfl,h2,K,O,G,U⟩⟩:=h
 · omega
 · rw [<-I]at G
   exact ⟨g,m,cur,z,B,V,h2,fun i x J=>vM G J⟩
variable{M:List A9}
theorem EU.mono{m:List A9}(h:EU M v ls)(J:∀c∈M,c∈m):EU m v ls:=by
 obtain ⟨p,cap,e,I,G⟩:=h;refine ⟨p,cap,e,I,fun i s K=>?_⟩;obtain ⟨g,off,cur,T,zz,e1,B,h2⟩:=G i s K;exact ⟨g,off,cur,T,zz,e1,J _ B,h2⟩
theorem Ga(h:Bc 1 e v ls.length (ls.map G8) s)(G:ls.length<=maxLen):EU s v ls:=by
 rcases OS ls.length with h0|h0
 · obtain ⟨b,cap,rfl⟩:=h.form
   exact ⟨b,cap,rfl,⟨G,by omega⟩,fun i s m=>by rw [LN h0]at m;simp at m⟩
 · obtain ⟨g,cap,cur,z,rfl,rfl,B,I⟩:=LQ h h0
   refine ⟨_,cap,V,⟨G,B⟩,fun i s m=>⟨g,0,cur,e,z,V,by simp,?_⟩⟩;rw [D2];exact I i _ (by rw [DH,m];rfl)
theorem LX(l:List Bs):(Dh l).length=32:=by
 rw [Dh];split
 · exact WY _
 · split<;>exact WY _
theorem lJ(s:Bs)(I:s.length<=140737488354000)(g:TypeId)(G:Nat×Nat):BJ prog 276 #[.string (str s)] [[(4,.cells (En.map Co).toArray g G)]] (.string (str (Z5 s))):=by
 refine Se func276 ntmps276 [0] ?_;intro u R;refine A0<|A3 Y<|A0<|Zc [_] Y call303 Y V (Qh (str [0])) ?_;rintro _ _ ⟨_,⟨B,rfl,rfl⟩,rfl⟩;refine Zm Y<|Ze (Ah (vs:=[_]) (cs:=[_]) CN F0 HM Y V rfl V rfl V)<|AD fun m=>Xr [_] Y call330 Y V (Ls m 0 1 B #[G8 s] _ _ _ _ [s] [0] V B0 B0 HQ _ _) ?_;refine A3 Y<|AJ<|AO V results276 Y (by exact ⟨by simp [Z5],V⟩)
theorem VW(a b:Bs)(I:a.length<=1000000000)(J:b.length<=1000000000)(g:TypeId)(G:Nat×Nat):BJ prog 277 #[.string (str a),.string (str b)] [[(4,.cells (En.map Co).toArray g G)]] (.string (str (JC a b))):=by
 refine Se func277 ntmps277 [0,1] ?_;intro u R;refine A0<|A3 Y<|A0<|Zc [_] Y call303 Y V (Qh (str [1])) ?_;rintro _ _ ⟨_,⟨B,rfl,rfl⟩,rfl⟩;refine Zm Y<|Zm Y<|Ze (Ah (vs:=[_,_]) (cs:=[_,_]) CN F0 HM Y V rfl V rfl V)<|AD fun m=>Xr [_] Y call330 Y V (Ls m 0 2 B #[G8 a,G8 b] _ _ _ _ [a,b] [1] V B0 B0 HQ _ _) ?_;refine A3 Y<|AJ<|AO V results277 Y (by exact ⟨by simp [JC],V⟩)
def bwd{α:Type} [Inhabited α](ls:List α):List (Nat×α):=(List.range ls.length).reverse.map (fun i=>(i,ls.getD i default))
theorem XW [Inhabited α](ls:List α):(bwd ls).length=ls.length:=by simp [bwd]
theorem gK [Inhabited α]{ls:List α}{m:Nat}{s:α}(h:ls[m]?=some s):(bwd ls)[ls.length -(m+1)]?=some (m,s):=by
 have g:=(BE.1 h).1;unfold bwd;rw [DH,List.getElem?_reverse HQ,aq,Wr A1];rw [show ls.length -1 -(ls.length -(m+1))=m by omega];simp [List.getD,h]
theorem Mh [Inhabited α](ls:List α):(bwd ls).map Prod.snd=ls.reverse:=by
 apply Lz;intro i;by_cases hi:i<ls.length
 · have g:ls[ls.length -1 -i]?=some (ls[ls.length -1 -i]'A1):=B4 _
   have h2:=gK g;rw [show ls.length -(ls.length -1 -i+1)=i by omega]at h2;rw [DH,h2,List.getElem?_reverse hi,g];rfl
 · rw [Mp (by rw [B2,XW];omega),Mp HQ]
theorem xQ [Inhabited α]{ls:List α}{x:Nat×α}(h:x∈bwd ls):x.2∈ls:=by
 have g:x.2∈(bwd ls).map Prod.snd:=Bk.2 ⟨x,h,rfl⟩;rw [Mh,e5]at g;exact g
theorem OG{xs:List α}{j:Nat}{x:α}(h:xs[j]?=some x):xs=xs.take j++x::xs.drop (j+1):=by
 have g:=(BE.1 h).1;rw [B4 g]at h;injection h with h
 rw [<-h,<-R0 g,Hx]
theorem si(xs:List Bs)(q:Bs):(bwd xs).foldl (fun o (x:Nat×Bs)=>JC x.2 o) q=xs.reverse.foldl (fun o r=>JC r o) q:=by
 rw [<-Mh,List.foldl_map]
theorem WS(f:List α->Value)(ps:List (List α))(p q:List α):(((ps++[p])++[q]).map f)[(ps++[p]).length+1 -2]?=some (f p)/\(((ps++[p])++[q]).map f)[(ps++[p]).length+1 -1]?=some (f q):=by
 have e:(ps++[p]).length=ps.length+1:=by simp
 constructor
 · rw [show(ps++[p]).length+1 -2=ps.length by omega];simp
 · rw [show(ps++[p]).length+1 -1=ps.length+1 by omega];simp
theorem Xz(f:List α->Value)(ps:List (List α))(p q:List α):(((ps++[p])++[q]).map f).take (((ps++[p]).length+1 -2)*1)=ps.map f:=by
 rw [show((ps++[p]).length+1 -2)*1=(ps.map f).length by simp];simp
theorem wQ(f:List α->Value)(ps:List (List α))(q:List α):((ps++[q]).map f)[(ps++[q]).length -1]?=some (f q):=by
 rw [show(ps++[q]).length -1=ps.length by simp];simp
theorem lL(f:List α->Value)(ps:List (List α))(q:List α):((ps++[q]).map f).take (((ps++[q]).length -1)*1)=ps.map f:=by
 rw [show((ps++[q]).length -1)*1=(ps.map f).length by simp];simp
theorem ik{ps:List α}(h:0<ps.length):∃g p,ps=g++[p]:=by
 rcases fg ps with rfl|⟨a,b,e⟩
 · simp at h
 · exact ⟨a,b,by rw [e,mu]⟩
theorem sZ(xs:List (Nat×Bs))(q:Bs)(g:q.length=32):(xs.foldl (fun o (x:Nat×Bs)=>JC x.2 o) q).length=32:=by
 rcases fg xs with rfl|⟨ys,y,rfl⟩
 · exact g
 · rw [mu,X2];exact WY _
theorem Ud(p:Option Addr)(n c:Nat):Ba prog 279 #[.slice p n c] [] (fun r H'=>∃b,r= .func (.func 307) #[] #[I5 b]/\H'=[[(b,.cells #[.slice p n c] 45 (0,0))]]):=by
 refine Se func279 ntmps279 [0] ?_;intro u R;refine A0<|Ze (Bx #[_])<|AD fun b=>A3 Y<|A0<|Zv (Bg (vs:=[]) (us:=[_]) Y Y)<|A3 Y<|AJ<|AO V results279 Y (by exact ⟨_,V,V⟩)
theorem Ue(hv:EU M v ls)(b:Nat)(hn:ls.length<=1000000000000):
 F6 prog 307 #[I5 b] [[(b,.cells #[v] 45 (0,0))]] (fun s=>∀c∈M,c∈s) (fun x=>#[I4 ((x.1:Nat):Int),G8 x.2]) (bwd ls):=by
 have af:=mL;obtain ⟨p,cap,rfl,hl,hg⟩:=hv;intro l J hA hy s B;refine Se func307 ntmps307 [0,1] ?_;intro u R;refine A0<|Zl KB Y ?_;refine Zv (Ab CN Y) ?_
 (refine BX (GG Y Y (IntWalk.i64_in _ ?_)) ?_;(focus (omega)))
 refine A3 Y<|AP<|Zb [3,0,1] ?_;refine BB (e0:=[(3,_)]) (fun m e H=>∃(k:Nat) (s:List A9),m=0+k/\(k<=ls.length/\J ((bwd ls).take (ls.length -k)) s)/\e=[(3,I4 ((k:Int) -1))]/\H=[[(b,.cells #[.slice p ls.length cap] 45 (0,0))],s]) (by exact ⟨ls.length,s,rfl,⟨CT _,by rw [W1,HX];exact B⟩,rfl,rfl⟩) Wp ?_;rintro _ _ _ ⟨k,s,rfl,⟨hk,B⟩,rfl,rfl⟩;refine Zq<|A0<|Zm Y<|Zv (H5 Y Y)<|A4<|Av Y (fun X=>?_) (fun X=>?_)
 ·
  obtain ⟨m,rfl⟩:∃m,k=m+1:=⟨k -1,by omega⟩;rw [show(((m+1:Nat):Int) -1)=((m:Nat):Int) by omega];obtain ⟨z9,O⟩:∃z9,ls[m]?=some z9:=⟨_,B4 A1⟩;have G:=gK O
  obtain ⟨g,o,cur,T,zz,rfl,hm,I⟩:=hg m z9 O;have K:=I
  have Z:=hy _ _ _ s (OG G) B;refine AC<|Zx<|Zq<|AP<|A0<|Zm Y<|Zm Y<|Zl KB Y ?_;refine Zm Y<|BX (CW CN F0 Y Y A1)<|CO (cs:=[(g,.cells cur T zz)]) (by simp [hA _ s B _ hm]) (BO HC Y (by exact K)) V rfl ?_;refine Ze (GR (vs:=[_,_]) Y Y (Z) Wp) ?_;rintro _ _ ⟨_,⟨s',rfl,rfl,U⟩,rfl⟩;refine Zv (Br Y)<|A4<|AV Y (fun hb=>by cases hb)<|fun hb=>AC<|A8<|Zx<|Zg<|Zm Y ?_
  (refine BX (GG Y Y (IntWalk.i64_in _ ?_)) ?_;(focus (omega)))
  refine AG Y<|Zn [3,0,1] ?_;refine Aa (e':=[(3,_)]) (by exact ⟨m,s',rfl,⟨by omega,by rw [show ls.length -m=ls.length -(m+1)+1 by omega,Bh G];exact U⟩,rfl,rfl⟩)
 have W:k=0:=by omega
 subst W;rw [Sh,Hi (by rw [XW];exact CT _)]at B;refine Ay<|Zt<|Zt<|AR<|Cv V results307 (by exact ⟨s,V,B⟩)
theorem Pm(hv:EU M v ls)(hn:ls.length<=1000000)(hs:∀s∈ls,s.length<=140737488354000)(Tg:TypeId)(zg:Nat×Nat):BJ prog 232 #[v] [[(4,.cells (En.map Co).toArray Tg zg)],M] (.string (str (Dh ls))):=by
 have vo:=mL;obtain ⟨p,cap,rfl,hl,hg⟩:=hv;refine DK func232 V ntmps232 V ?_;intro u R;refine Zb [0] ?_;refine A0<|A3 Y<|A0<|A3 Y<|A0<|A3 Y<|Zq<|A0<|Zm Y<|Zv (Ab CN Y)<|Zm Y<|A4<|AP<|BV<|BV<|Zb [3,4,13,11,12] ?_;refine BB (e0:=[(3,_),(4,_),(13,_)]) (fun m e H=>∃(i:Nat) (ps:List (List Bs)) (vw:Value) (sw:List A9) (vz:Value) (sz:List A9),m=ls.length -i/\(i<=ls.length/\JM ps/\ps.flatten=ls.take i/\Bc 1 9 vw ps.length (ps.map rtV) sw/\Bc 1 3 vz ps.length (ps.map lnV) sz/\ps.length<=i)/\e=[(3,vw),(4,vz),(13,I4 (i:Int))]/\H=[sw,sz]) (by exact ⟨0,[],.slice none 0 0,[],.slice none 0 0,[],V,⟨C0 _,uK,V,Bf 1 _,Bf 1 _,CT _⟩,V,V⟩) Wp ?_;rintro _ _ _ ⟨i,ps,vw,sw,vz,sz,rfl,⟨hi,hB,hf,J,X,q9⟩,rfl,rfl⟩;refine A0<|Zv (Au Y Y)<|A4<|Zq<|Av Y (fun j5=>?_) (fun j5=>?_)
 ·
  obtain ⟨s9,d9⟩:∃s9,ls[i]?=some s9:=⟨_,B4 j5⟩;obtain ⟨g,o,cur,T,zz,rfl,pz,j3⟩:=hg i s9 d9;obtain ⟨qw,cw,rfl⟩:=J.form;obtain ⟨qz,cz,rfl⟩:=X.form;have l5:=hs s9 (DG d9)
  refine AC<|Zx<|Zq<|AP<|A0<|BX (CW CN F0 Y Y A1)<|CO (cs:=[(g,.cells cur T zz)]) (by simp [pz]) (BO HC Y (by exact j3)) V rfl ?_;refine A3 Y<|A0<|Zm Y<|Zm Y<|Xr [_] Y call276 Y V (lJ s9 l5 Tg zg) ?_;refine Ze (Ah (vs:=[_]) (cs:=[_]) CN F0 HM Y V rfl V rfl V)<|AD fun b1=>Ze (Du (by_:=16) (sz:=1) (news:=[_]) CN (V:Tryz.prog.info? 9=some Tryz.t9) V rfl V rfl Y J Y Wo Wh AM V Fm AN A1 A1) ?_;rintro _ _ ⟨sw,J,rfl⟩;obtain ⟨gw,cw,rfl⟩:=J.form;refine Zm Y<|Ze (Ah (vs:=[_]) (cs:=[_]) Cd A5 Gk Y V rfl V rfl V)<|AD fun b3=>Ze (Du (by_:=8) (sz:=1) (news:=[_]) Cd (V:Tryz.prog.info? 3=some Tryz.t3) V rfl V rfl Y X Y Wo Wh AM V Fm AN A1 A1) ?_;rintro _ _ ⟨sz,X,rfl⟩;obtain ⟨gz,cz,rfl⟩:=X.form;refine Za Y<|AG Y<|Zn [3,4,11,12,13] ?_;refine Zx<|A0<|Zm Y<|Zv (Ab Cd Y)<|A3 Y<|AP<|Zb [3,4,7,11,12,13] ?_;refine BB (e0:=[(3,_),(4,_),(7,_)]) (fun m e H=>∃(G:List (List Bs)) (q:List Bs) (gy:Value) (gm:List A9) (ic:Value) (gq:List A9),m=0+G.length/\(O0 ls G q (i+1)/\Bc 1 9 gy (G.length+1) ((G++[q]).map rtV) gm/\Bc 1 3 ic (G.length+1) ((G++[q]).map lnV) gq/\G.length<=i)/\e=[(3,gy),(4,ic),(7,I4 ((G.length+1:Nat):Int))]/\H=[gm,gq]) (by exact ⟨ps,[s9],_,_,_,_,rfl,⟨ky hB hf d9,BR J rfl (by rw [BW,LR];unfold rtV;rw [oq];rfl),BR X rfl (by rw [BW];rfl),q9⟩,rfl,rfl⟩) Wp ?_;rintro _ _ _ ⟨G,q,gy,gm,ic,gq,rfl,⟨hM,O,U,wo⟩,rfl,rfl⟩;refine Zq<|Zq<|Az (n:=15) (0::1::3::7::7::23::63::127::7::7::519::1799::3847::8191::16383::[]) 0 A6 A6 V<|A2 0 V (AQ Y)<|A2 1 V (DF (n:=1) Y Y)<|A2 2 V (AQ Y)<|Db (t:=29) Y (fun cO=>?_) (fun cO=>?_)
  ·
   rw [DA cO];obtain ⟨B,Z,rfl⟩:=ik (ps:=G) A1;have wz:(B++[Z]).length=B.length+1:=by simp
   obtain ⟨cu,p8,W,o8,rfl,rfl,kv,K⟩:=LQ (id O) A1;obtain ⟨sO,sj,o9,za,rfl,rfl,qo,af⟩:=LQ (id U) A1;have ql:=af _ _ (WS lnV B Z q).1
   have l9:=af _ _ (WS lnV B Z q).2;have ek:=K _ _ (WS rtV B Z q).1
   have qb:=K _ _ (WS rtV B Z q).2;have qa:q.length<=ls.length:=by have h9:=congrArg List.length hM.flat;rw [B7,C2]at h9;omega
   refine An 3 V (AQ Y)<|An 4 V (AQ Y) ?_
   (refine An 5 rfl (CL (n:=2) Y Y ?_ ?_) ?_;(focus (omega));(focus (omega)))
   refine An 6 V (BS Cd A5 Y Y A1)<|DQ 7 V Wh (BO AE Y (by exact ql)) ?_;refine An 8 V (AQ Y)<|An 9 V (AQ Y) ?_
   (refine An 10 rfl (CL (n:=1) Y Y ?_ ?_) ?_;(focus (omega));(focus (omega)))
   refine An 11 V (BS Cd A5 Y Y A1)<|DQ 12 V Wh (BO AE Y (by exact l9)) ?_;refine An 13 V (Cb Y Y)<|A2 14 V (AX Y Y)<|Ai<|Zn [3,4,7,11,12,13,41] ?_;refine Zx<|Av Y (fun he=>?_) (fun he=>?_)
   ·
    have l8:=hM.step he;refine AC<|Zx<|Zq<|AP<|Zq<|Az (n:=18) (0::0::2::7::0::0::32::112::240::0::0::1024::3584::7680::16368::32752::65535::131071::[]) 114688 A6 A6 V<|A2 0 V (AQ Y)<|A2 1 V (AQ Y) ?_
    (refine Dl (D':=7) 2 (CL (n:=2) Y Y ?_ ?_) ?_;(focus (omega));(focus (omega)))
    refine A2 3 V (Bq CN F0 Y Y A1)<|A2 4 V (AQ Y)<|A2 5 V (AQ Y) ?_
    (refine Dl (D':=127) 6 (CL (n:=2) Y Y ?_ ?_) ?_;(focus (omega));(focus (omega)))
    refine A2 7 rfl (BS CN F0 Y Y (by first|omega|(simp;omega)))<|B3 8 rfl HC Y (hv:=by exact ek) ?_;refine A2 9 V (AQ Y)<|A2 10 V (AQ Y) ?_
    (refine Dl (D':=4095) 11 (CL (n:=1) Y Y ?_ ?_) ?_;(focus (omega));(focus (omega)))
    refine A2 12 rfl (BS CN F0 Y Y (by first|omega|(simp;omega)))<|B3 13 rfl HC Y (hv:=by exact qb) ?_;refine Yw 14 32767 rfl (Zu [_,_] Y call277 Y rfl (VW (Dh Z) (Dh q) (by rw [LX];omega) (by rw [LX];omega) Tg zg))<|CM<|Yw 15 65535 V (Ah (vs:=[_]) (cs:=[_]) CN F0 HM Y V rfl V rfl V)<|AD fun b5=>Yw 16 131071 V (Du (by_:=16) (sz:=1) (news:=[_]) CN (V:Tryz.prog.info? 9=some Tryz.t9) V rfl V rfl Y (Pj O ((B++[Z]).length+1 -2) A1) Y Wo Wh AM V Fm AN A1 A1) ?_;rintro _ _ ⟨y5,ax,rfl⟩;obtain ⟨sM,r9,rfl⟩:=ax.form;refine A2 17 V (Aw Y)<|Ai<|Zn [3,4,7,11,12,13] ?_;refine Zx<|Az (n:=13) (0::0::2::7::0::0::32::112::240::496::1008::2047::4095::[]) 3072 A6 A6 V<|A2 0 V (AQ Y)<|A2 1 V (AQ Y) ?_
    (refine Dl (D':=7) 2 (CL (n:=2) Y Y ?_ ?_) ?_;(focus (first|omega|(simp;omega)));(focus (first|omega|(simp;omega))))
    refine A2 3 V (Bq Cd A5 Y Y A1)<|A2 4 V (AQ Y)<|A2 5 V (AQ Y) ?_
    (refine Dl (D':=127) 6 (CL (n:=1) Y Y ?_ ?_) ?_;(focus (first|omega|(simp;omega)));(focus (first|omega|(simp;omega))))
    refine A2 7 rfl (BS Cd A5 Y Y (by first|omega|(simp;omega)))<|B3 8 rfl AE Y (hv:=by exact l9) ?_;refine A2 9 rfl (Ey (m:=2) Y Y (by first|omega|(simp;omega)))<|Yw 10 2047 rfl (Ah (vs:=[_]) (cs:=[_]) Cd A5 Gk Y rfl rfl rfl rfl rfl)<|AD fun b7=>Yw 11 4095 V (Du (by_:=8) (sz:=1) (news:=[_]) Cd (V:Tryz.prog.info? 3=some Tryz.t3) V rfl V rfl Y (Pj U ((B++[Z]).length+1 -2) A1) Y Wo Wh AM V Fm AN A1 A1) ?_;rintro _ _ ⟨yt,bn,rfl⟩;obtain ⟨ve,sJ,rfl⟩:=bn.form;refine A2 12 V (Aw Y)<|Ai<|Zn [3,4,7,11,12,13] ?_;refine A8<|Zx<|Zg<|Zm Y<|Yb (n:=1) Y Y<|AG Y<|Zn [3,4,7,11,12,13] ?_;refine Aa (e':=[(3,_),(4,_),(7,_)]) (by exact ⟨B,Z++q,_,_,_,_,rfl,⟨l8.1,BR ax A1 (by rw [Xz,BW,LR];unfold rtV;rw [l8.2];rfl),BR bn A1 (by rw [Xz,BW,LR];unfold lnV;rw [B7,he,<-Nat.two_mul]),by omega⟩,(by rw [show(B++[Z]).length+1 -1=B.length+1 by omega]),rfl⟩)
   have hD:=hM.done (fun a b e9=>by have e8:=List.singleton_inj.1 (fp e9 rfl).2;rw [<-e8];exact he);refine Ay<|Zt<|Zt<|AR<|A8<|Zx<|Zg<|Ya (n:=1) Y Y<|Zm Y<|Z0<|Zn [3,4,13,11,12] ?_;refine Aa (e':=[(3,_),(4,_),(13,_)]) (by exact ⟨i+1,_,_,_,_,_,rfl,⟨by omega,hD.1,hD.2,BR O B0 rfl,BR U B0 rfl,by rw [B7];simp;omega⟩,rfl,rfl⟩)
  rw [CI cO];have hD:=hM.done (fun a b e9=>by have e8:=congrArg List.length e9;rw [B7]at e8;simp at e8;omega)
  refine AF 3 V<|AF 4 V<|AF 5 V<|AF 6 V<|AF 7 V<|AF 8 V<|AF 9 V<|AF 10 V<|AF 11 V<|AF 12 V<|AF 13 V<|A2 14 V (AL Y Y)<|Ai<|Zn [3,4,7,11,12,13,41] ?_;refine Zx<|D5 Y<|Ay<|Zt<|Zt<|AR<|A8<|Zx<|Zg<|Ya (n:=1) Y Y<|Zm Y<|Z0<|Zn [3,4,13,11,12] ?_;refine Aa (e':=[(3,_),(4,_),(13,_)]) (by exact ⟨i+1,_,_,_,_,_,rfl,⟨by omega,hD.1,hD.2,BR O B0 rfl,BR U B0 rfl,by rw [B7];simp;omega⟩,rfl,rfl⟩)
 have ei:i=ls.length:=by omega
 subst ei;rw [Hi (CT _)]at hf;obtain ⟨qw,cw,rfl⟩:=J.form;refine Ay<|Zt<|Zt<|AR<|Zx<|Zq<|A0<|Zm Y<|Zv (Ab CN Y)<|Zv (Cb (n:=0) Y Y)<|A4<|Av Y (fun h0=>?_) (fun h0=>?_)
 ·
  have e0:=LN h0;subst e0;have e1:ls=[]:=hf.symm
  refine A0<|Xr [_] Y call278 Y V (iF [] B0 Tg zg) ?_;refine A3 Y<|AJ<|Zt<|Ol rfl (dF results232 Y) (by exact ⟨by rw [e1,ou],rfl⟩)
 obtain ⟨B,q,rfl⟩:=ik (ps:=ps) A1;obtain ⟨cu,p8,W,o8,pq,rfl,kv,K⟩:=LQ (id J) A1;injection pq with hev1 hev2 hev3
 subst hev1 hev3;have ek:=K _ _ (wQ rtV B q)
 have qa:(B++[q]).length=B.length+1:=by simp
 refine AC<|Zx<|A0<|Zm Y<|Zm Y<|Zv (Ab CN Y)<|Yb (n:=1) Y Y ?_;refine BX (BS CN F0 Y Y A1)<|Zl HC Y (hv:=by exact ek) ?_;refine Ze (Al HM #[_])<|AD fun ob=>Xe (Zs F0 Y Y V (hc:=by exact (V:_=(#[G8 (Dh q)]:Array Value)))) ?_;refine A4<|Zq<|A0<|Zm Y<|Zm Y<|Zv (Ab CN Y)<|Yb (n:=1) Y Y ?_;refine BX (Bq CN F0 Y Y A1)<|Zc [_] Y call279 Y V (Ud _ _ _) ?_;rintro _ _ ⟨_,⟨bb,rfl,rfl⟩,rfl⟩;refine Z0<|Zn [8,89] ?_;refine Zx<|AP<|Zb [8,89] ?_;refine PN (H0:=_) (R:=_) (I:=(fun pre H=>H=[[(ob,.cells #[G8 (pre.foldl (fun o (x:Nat×Bs)=>JC x.2 o) (Dh q))] 9 (0,0))],[(cu,.cells W 9 o8)],[(4,.cells (En.map Co).toArray Tg zg)]])) (asg:=fun x=>[(10,G8 x.2),(91,G8 x.2),(90,I4 ((x.1:Nat):Int))]) rfl Y call307 (Ue (ls:=B.map Dh) (v:=I6 cu ((B++[q]).length -1) cw) (Ga (BR (Pj J ((B++[q]).length -1) A1) B0 (by rw [lL,J0];rfl)) (by rw [B2];omega)) bb (by rw [B2];omega)) (fun pre H1 c d h=>by subst h;intro x hx;simp at hx;simp [hx]) Y rfl Wp (rfl) ?ha_13 ?hbd_13 ?hk_13
 case ha_13=>
  intro _ x _ _;refine Zg<|Za Y<|Z0 ?_;exact qY
 case hbd_13=>
  intro l pre x qx u H1 R1 qj hI;subst hI;refine AP<|Zg<|Zm Y<|Zl HC Y ?_;refine Xr [_,_] Y call277 Y rfl (VW x.2 _ (by obtain ⟨y9,_,e9⟩:=Bk.1 (xQ (VZ qj));rw [<-e9,LX];omega) (by rw [sZ _ _ (LX q)];omega) Tg zg) ?_;refine Xe (Zs F0 Y Y V) ?_;refine Z0<|A8<|Ez rfl (by rw [X2])
 intro D1 H2 pg;subst pg;refine Zn [8] ?_;refine A8<|Zx<|A0<|Zl HC Y ?_;refine A3 Y<|AJ<|GI rfl (dF results232 Y) Wo (by exact ⟨by rw [si,sV,hB.root,<-hf];simp,rfl⟩)
theorem U2:∀(f x:Nat),0<x->x<2^f->Lib.bitLenAux f x=Nat.log2 x+1
 |0,x,h0,h1=>by simp at h1;omega
 |f+1,x,h0,h1=>by
  unfold Lib.bitLenAux;rw [AH A1];rw [eJ]at h1;rcases EV x 2 with h|h
  · have e:x=1:=by omega
    subst e;cases f<;>rfl
  · rw [U2 f (x/2) A1 A1]
    conv=>rhs;rw [Nat.log2_def,AK h]
    omega
theorem lI(n:Nat)(g:2<=n)(h2:n<=1000000000000):Lib.bitLen (n -1)=Nat.log2 (n -1)+1:=U2 64 (n -1) A1 A1
def FD(l:List Bs)(i:Nat):List Bs:=
 if h:2<=l.length then
  if i<DX l.length then FD (l.take (DX l.length)) i++[Dh (l.drop (DX l.length))]
  else FD (l.drop (DX l.length)) (i -DX l.length)++[Dh (l.take (DX l.length))]
 else []
termination_by l.length
decreasing_by
 · have:=Ov h;rw [C2];omega
 · have:=Ou l.length;rw [C3];omega
theorem VI(h:l.length<=1)(i:Nat):FD l i=[]:=by rw [FD,dif_neg A1]
theorem QY(h:2<=l.length)(hi:i<DX l.length):FD l i=FD (l.take (DX l.length)) i++[Dh (l.drop (DX l.length))]:=by rw [FD,dif_pos h,AK hi]
theorem Oc(h:2<=l.length)(hi:¬i<DX l.length):FD l i=FD (l.drop (DX l.length)) (i -DX l.length)++[Dh (l.take (DX l.length))]:=by rw [FD,dif_pos h,AH hi]
theorem EU.take{p:Option Addr}{cap:Nat}(h:EU M (.slice p ls.length cap) ls)(n:Nat)(I:n<=ls.length):EU M (.slice p n cap) (ls.take n):=by
 obtain ⟨J,m,e,G,B⟩:=h;injection e with e1 e2 e3
 subst e1 e3;have g:(ls.take n).length=n:=by rw [C2];omega
 refine ⟨p,cap,by rw [g],by rw [g];omega,fun i z hz=>B i z ?_⟩;rw [H3]at hz;split at hz
 · exact hz
 · cases hz
theorem EU.drop{B g cap:Nat}(h:EU M (.slice (some ⟨B,g,none⟩) ls.length cap) ls)(n:Nat)(hn:n<ls.length):EU M (.slice (some ⟨B,g+n,none⟩) (ls.length -n) (cap -n)) (ls.drop n):=by
 obtain ⟨p',K,e,Z,W⟩:=h;injection e with e1 e2 e3
 subst e1 e3;refine ⟨_,_,by rw [C3],by rw [C3];omega,fun i z hz=>?_⟩;rw [OR]at hz;obtain ⟨X,O,m,U,J,e2,I,G⟩:=W (n+i) z hz;injection e2 with e2;injection e2 with e3 e4
 subst e3 e4;exact ⟨B,g+n,m,U,J,rfl,I,by rw [gC];exact G⟩
theorem lu{w:World}{g:Nat}{z:Nat×Nat}(enc:Bs->Value){zs:List Bs}(I:w.heap[g]?=some (.cells cur e z))(K:zs.length<=cur.size)(B:IW z cur.size)(O:cur.toList.take zs.length=zs.map enc):Go.Sort.Holds enc w g 0 zs.toArray:=by
 intro j J;have m:j<zs.length:=by simpa using J
 have U:=B j A1;have G:(cur.toList.take zs.length)[j]?=(zs.map enc)[j]?:=by rw [O]
 rw [iv m]at G;refine ⟨?_,?_⟩
 · simp only [World.cell?,I,D2]
   simp only [na,My,HN];rw [<-HE,G];simp [m]
 · simp only [World.frozen?,I,D2]
   simp;omega
theorem Ww(enc:Bs->Value)(cur:Array Value)(g:List Bs)(h:g.length<=cur.size):(Go.Sort.putCells enc 0 g.toArray cur).toList.take g.length=g.map enc:=by
 apply Lz;intro j;rw [H3];by_cases m:j<g.length
 · rw [AK m,HE]
   unfold Go.Sort.putCells;rw [mm,HD A1];simp [m]
 · rw [AH m,Mp HQ]
theorem Sat.sorted_enc{u w:World}{g:Nat}{z:Nat×Nat}{R:Hp}(enc:Bs->Value)(d:Array Bs)(h:Sat u ([(g,.cells cur e z)]::R) w):Sat u ([(g,.cells (Go.Sort.putCells enc 0 d cur) e z)]::R) (Go.Sort.putRow enc (Go.Sort.ahead w n) g 0 d):=by
 have m:=h.get (g,.cells cur e z) B0;refine h.upd (.here _) V rfl V ?_ fun k B=>?_
 · simp [Go.Sort.putRow,Go.Sort.mapBlock,Go.Sort.ahead,SP,m,Go.Sort.onCells]
 · have:g≠k:=fun e=>B e.symm
   simp [Go.Sort.putRow,Go.Sort.mapBlock,Go.Sort.ahead,SP,this]
theorem Wm(h:Bc 1 9 v ls.length (ls.map G8) s)(hn:ls.length<=1000000000000):Ba prog 234 #[v] [s] (fun r H'=>r= .tuple #[]/\∃U,Bc 1 9 v ls.length (ls.reverse.map G8) U/\H'=[U]):=by
 obtain ⟨O,⟨rfl,h0,rfl⟩|⟨g,cap,cur,z,rfl,rfl,K,J,m,G,B⟩⟩:=h
 · intro u R w I
   have e:ls=[]:=LN h0;subst e;exact (Tryz.slices_Reverse_string_empty none 0 w).mono (by
    rintro e Z ⟨rfl,rfl⟩;exact .inl ⟨_,_,V,⟨V,[],Bf 1 _,V⟩,I⟩)
 · intro u R w I
   rw [LS]at m G;have X:=I.get (g,.cells cur 9 z) B0
   have W:=lu (w:=w) (g:=g) (e:=9) (z:=z) G8 (zs:=ls) X A1 B G;refine (Tryz.slices_Reverse_string g 0 cap ls w W A1).mono ?_;rintro e Z ⟨rfl,n,rfl⟩;refine .inl ⟨_,_,V,⟨V,_,⟨by simp,.inr ⟨g,cap,_,z,V,V,K,J,?_,?_,?_⟩⟩,V⟩,Sat.sorted_enc (n:=n) G8 ls.reverse.toArray I⟩
   · rw [LS];simp [Go.Sort.putCells,m]
   · rw [LS]
     have:=Ww G8 cur ls.reverse (by rw [ju];omega);rw [ju]at this;exact this
   · simpa [Go.Sort.putCells]using B
theorem lH(n:Nat)(g:2<=n)(h2:n<=1000000000000):BJ prog 233 #[I4 (n:Int)] [] (I4 ((DX n:Nat):Int)):=by
 have B:=lI n g h2;have G:=Ov g
 unfold DX at G;have I:(n -1).log2<64:=(Nat.log2_lt A1).2 A1
 refine Se func233 ntmps233 [0] ?_;intro u R;refine A0<|A3 Y<|A0<|Zm Y ?_
 (refine BX (CL (n:=1) Y Y ?_ ?_) ?_;(focus (first|omega|(rw [RE];omega)));(focus (first|omega|(rw [RE];omega))))
 refine BX (Lf Cl W3 Y (by first|omega|(rw [RE];omega)))<|Xr [_] Y call117 Y rfl (Rk (H:=[]) (Rl:=fun v=>v=I4 ((Lib.bitLen (n -1):Nat):Int)) (fun w _=>(Tryz.bits_Len ((n -1:Nat):Int) w A1 A1).mono (by rintro e J ⟨rfl,rfl⟩;exact ⟨_,rfl,by rw [V2],Below.refl _ _⟩)) (fun v h=>⟨h,rfl⟩)) ?_;rw [B]
 (refine BX (CL (n:=1) Y Y ?_ ?_) ?_;(focus (first|omega|(rw [RE];omega)));(focus (first|omega|(rw [RE];omega))))
 (refine BX (UN (m:=1) Y Y ?_ ?_) ?_;(focus (omega));(focus (first|omega|(rw [RE];omega))))
 refine A3 Y<|AJ<|AO rfl results233 Y (by exact ⟨by rw [RE,Nat.one_mul];rfl,rfl⟩)
theorem SV(hv:EU M v ls)(hn:ls.length<=1000000)(hs:∀s∈ls,s.length<=140737488354000)(i:Nat)(hi:i<ls.length)(Z:TypeId)(zg:Nat×Nat):
 Ba prog 177 #[v,I4 (i:Int)] [[(4,.cells (En.map Co).toArray Z zg)],M] (fun r H'=>∃vp sp,r= .tuple #[vp,I4 0]/\Bc 1 9 vp (FD ls i).length ((FD ls i).map G8) sp/\H'=[sp,[(4,.cells (En.map Co).toArray Z zg)],M]):=by
 have j3:=mL;obtain ⟨p,cap,rfl,hl,hg⟩:=id hv;refine Se func177 ntmps177 [0,1] ?_;intro u R;refine A0<|Za Y<|A3 Y<|U4 ?_;refine Zq<|A0<|Zm Y<|Zv (Au (n:=0) Y Y)<|Zm Y<|Ao (t:=12) Y V (fun h1=>by omega)<|fun h1=>Zf Y Y<|Zf Y Y<|Yg (Ab CN Y)<|Yg (Fw Y Y)<|Zv (AL Y Y)<|A4<|Av Y (fun h2=>by omega)<|fun h2=>AC<|Zx<|A0<|A3 Y<|Zq<|U6<|Zx<|Zq<|AP<|BV<|Zb [0,1,6] ?_;refine BB (e0:=[(0,_),(1,_),(6,_)]) (fun m e H=>∃(l2:List Bs) (i2:Nat) (p2:Option Addr) (cap2:Nat) (o:List Bs) (vo:Value) (so:List A9),m=0+l2.length/\(EU M (.slice p2 l2.length cap2) l2/\i2<l2.length/\(∀s∈l2,s.length<=140737488354000)/\FD ls i=FD l2 i2++o.reverse/\Bc 1 9 vo o.length (o.map G8) so/\o.length+l2.length<=ls.length)/\e=[(0,.slice p2 l2.length cap2),(1,I4 (i2:Int)),(6,vo)]/\H=[so]) (by exact ⟨ls,i,p,cap,[],.slice none 0 0,[],V,⟨hv,hi,hs,by simp,Bf 1 _,by simp⟩,V,V⟩) Wp ?_;rintro _ _ _ ⟨l2,i2,p2,cap2,o,vo,so,rfl,⟨O,gm,J,B,I,j5⟩,rfl,rfl⟩;obtain ⟨qo,co,rfl⟩:=I.form;refine AP<|Zq<|A0<|Zm Y<|Zv (Ab CN Y)<|Zv (Cb (n:=1) Y Y)<|A4<|Av Y (fun h1=>?_) (fun h1=>?_)
 ·
  rw [VI (l:=l2) A1,KK]at B;refine Ay<|Zt<|Ar V<|Zt<|AR<|Zx<|A0<|Zm Y<|Zc [_] Y call234 Y V (Wm I A1) ?_;rintro _ _ ⟨_,⟨rfl,bn,U,rfl⟩,rfl⟩;refine A4<|A0<|Zm Y<|Za Y<|A3 Y<|AJ<|Kb ?_;refine Cu rfl results177 Y Y (by exact ⟨_,bn,rfl,BR U (by rw [B,ju]) (by rw [B]),rfl⟩)
 have h9:2<=l2.length:=by omega
 have ax:=Ov h9;have gq:=Ou l2.length
 have g:(l2.take (DX l2.length)).length=DX l2.length:=by rw [C2];omega
 obtain ⟨p8,cu,e8,gy,af⟩:=id O;injection e8 with e81 e82 e83
 subst e81 e83;obtain ⟨g8,d9,cO,T8,kv,rfl,ic,ek⟩:=af 0 _ (B4 A1);have X:=O.take (DX l2.length) A1
 have W:=O.drop (DX l2.length) ax;refine AC<|Zx<|A0<|Zm Y<|Zv (Ab CN Y)<|Xr [_] Y call233 Y V (lH l2.length h9 A1) ?_;refine A3 Y<|Zq<|Az (n:=8) (0::0::3::0::0::24::7::127::[]) 0 A6 A6 V<|A2 0 V (AQ Y)<|A2 1 V (AQ Y)<|A2 2 V (Bq CN F0 Y Y A1)<|A2 3 V (AQ Y)<|A2 4 V (AQ Y) ?_
 (refine Dl (D':=63) 5 (Mm CN F0 Y Y ?_ ?_) ?_;(focus (omega));(focus (omega)))
 refine A2 6 V (Aw Y)<|A2 7 V (Aw Y)<|Ai<|Zn [1,6,7,8,9] ?_;refine Zx<|Zq<|A0<|Zm Y<|Zm Y<|Zv (Fw Y Y)<|A4<|Av Y (fun K=>?_) (fun K=>?_)
 ·
  have K:¬i2<DX l2.length:=by omega
  refine Zg<|Zm Y<|Zm Y<|Zm Y<|Zm Y<|Yb Y Y<|Za Y<|Za Y<|A3 Y<|A0<|Zm Y<|Zm Y<|Xr [_] Y call232 Y rfl (Pm X (by rw [g];omega) (fun s h=>J s (Nd h)) Z zg) ?_;refine Ze (Ah (vs:=[_]) (cs:=[_]) CN F0 HM Y V rfl V rfl V)<|AD fun b1=>Ze (Du (by_:=16) (sz:=1) (news:=[_]) CN (V:Tryz.prog.info? 9=some Tryz.t9) V rfl V rfl Y I Y Wo Wh AM V Fm AN A1 A1) ?_;rintro _ _ ⟨sw,G,rfl⟩;obtain ⟨gw,cw,rfl⟩:=G.form;refine AG Y<|Zn [1,6,8] ?_;refine Zx<|Zg<|Zm Y<|AG Y<|A8<|Zn [0,1,6] ?_;refine Aa (e':=[(0,_),(1,_),(6,_)]) (by exact ⟨l2.drop (DX l2.length),i2 -DX l2.length,_,_,o++[Dh (l2.take (DX l2.length))],_,_,(by rw [C3]),⟨(by rw [C3];exact W),by rw [C3];omega,fun s h=>J s (I0 h),by rw [B,Oc h9 K,nF,CA];rfl,BR G B0 (by simp;rfl),by rw [B7,C3];simp;omega⟩,(by rw [C3]),rfl⟩)
 refine AC<|Zx<|A0<|Zm Y<|Zm Y<|Xr [_] Y call232 Y rfl (Pm W (by rw [C3];omega) (fun s h=>J s (I0 h)) Z zg) ?_;refine Ze (Ah (vs:=[_]) (cs:=[_]) CN F0 HM Y V rfl V rfl V)<|AD fun b3=>Ze (Du (by_:=16) (sz:=1) (news:=[_]) CN (V:Tryz.prog.info? 9=some Tryz.t9) V rfl V rfl Y I Y Wo Wh AM V Fm AN A1 A1) ?_;rintro _ _ ⟨sw,G,rfl⟩;obtain ⟨gw,cw,rfl⟩:=G.form;refine A3 Y<|Zg<|Zm Y<|AG Y<|A8<|Zn [0,1,6] ?_;refine Aa (e':=[(0,_),(1,_),(6,_)]) (by exact ⟨l2.take (DX l2.length),i2,_,_,o++[Dh (l2.drop (DX l2.length))],_,_,(by rw [g]),⟨(by rw [g];exact X),by rw [g];omega,fun s h=>J s (Nd h),by rw [B,QY h9 A1,nF,CA];rfl,BR G B0 (by simp;rfl),by rw [B7,g];simp;omega⟩,(by rw [g]),rfl⟩)
def s8(s:Bs):Bool:=!decide (s.length=32)
def yL(s:Bs):Nat->Nat->List Bs->Option Bs
 |n,_,[]=>if n<=1 then some (Z5 s)else none
 |n,i,x::rp=>if n<=1 then none else if i<DX n then(yL s (DX n) i rp).map (fun v=>JC v x)else(yL s (n -DX n) (i -DX n) rp).map (fun v=>JC x v)
def rh(root:Bs)(n i:Nat)(s:Bs)(pf:List Bs):Bool:=!(pf.any s8)&&decide (yL s n i pf.reverse=some root)
def QE(r:AU):Bs:=Hl [r.t,r.k]++Hl [r.v.a,r.v.b,r.v.c]
theorem Wi(h:r.ok):(∀n∈[r.t,r.k],-4611686018427387903<=n/\n<=4611686018427387903)/\(∀n∈[r.v.a,r.v.b,r.v.c],-4611686018427387903<=n/\n<=4611686018427387903):=by
 obtain ⟨⟨m,h2,B⟩,G,I⟩:=h;unfold inV at m h2 B;constructor
 · intro n g
   simp only [D0,RM,SD]at g;rcases g with rfl|rfl<;>omega
 · intro n g
   simp only [D0,RM,SD]at g;rcases g with rfl|rfl|rfl<;>omega
theorem fQ(h:r.ok):(QE r).length<=45:=by
 have g:=Hg _ (Wi h).1;have h2:=Hg _ (Wi h).2
 unfold QE;rw [B7];simp only [DE,It]at g h2;omega
theorem rZ(a b:Int):Kt #[I4 a,I4 b] 0 [a,b]:=by
 intro i n h;rcases i with _|_|i
 · simp at h;subst h;rfl
 · simp at h;subst h;rfl
 · simp at h
theorem ww(r:AU):Kt r.A16 2 [r.v.a,r.v.b,r.v.c]:=by
 intro i n h;rcases i with _|_|_|i
 · simp at h;subst h;rfl
 · simp at h;subst h;rfl
 · simp at h;subst h;rfl
 · simp at h
theorem jh(r:AU)(G:r.ok):BJ prog 229 #[.agg r.A16] [] (.tuple #[.string (str (QE r)),I4 0]):=by
 have g:=Wi G;have m:=Hg _ g.1
 have B:=Hg _ g.2;simp only [DE,It]at m B;refine Se func229 ntmps229 [0] ?_;intro u R;refine A0<|Ze (Bx #[_,_,_,_,_])<|AD fun I=>Za Y<|A3 Y<|Zq<|A0<|Zo Wh (Pa #[_,_,_,_,_] CH AW Y) ?_;refine Xr [_] Y call203 Y V (Rv r) ?_;rw [DA G];refine Zv (Br Y)<|A4<|AV Y (fun hv=>by cases hv)<|fun hv=>AC<|Zx<|Zq<|Az (n:=12) (0::1::0::4::15::31::0::64::255::511::1023::2047::[]) 304 A6 A6 V<|A2 0 V (AB (off:=0) Fi V rfl A5 Y)<|B3 1 V AE Y ?_;refine A2 2 V (AB (off:=1) Fi V rfl A5 Y)<|B3 3 V AE Y ?_;refine A2 6 V (AB (off:=2) Fi V rfl DB Y)<|A2 7 V (Ia Hj A5 Y)<|Zz (l:=[4])<|B1 [false,false] [] V rfl (Ah (vs:=[_,_]) (cs:=[_,_]) Cd A5 Gk Y V rfl V rfl V) ?_ (fun _ _ h=>h.elim) Ag;rintro _ _ ⟨gb,rfl,rfl⟩;refine B5<|Yw 5 255 V (Zu [_] Y call273 Y V (oU gb 0 2 _ _ _ [r.t,r.k] (rZ r.t r.k) B0 g.1))<|CM<|Yw 8 511 V (Zu [_] Y call273 Y V (oU I 2 3 _ _ _ [r.v.a,r.v.b,r.v.c] (ww r) B0 g.2))<|CM<|A2 9 rfl (MZ Y Y (by rw [Gj,Gj];omega))<|A2 10 rfl (Aw Y)<|A2 11 rfl (Aw Y)<|Ai<|Zn [2,3] ?_;refine Zx<|AJ<|Cu rfl results229 Y Y (by exact ⟨by rw [RD];rfl,rfl⟩)
def BG(rs:List AU)(t:Int)(c:Nat):List AU:=Dm rs t c (-1000000000) 1000000000
theorem JB(g:BP rs)(t:Int)(c:Nat):(BG rs t c).length<=rs.length:=by
 unfold BG;rw [(EO rs t c _ _).length_eq];exact Mu _ _
theorem MN{t:Int}{c:Nat}{lo hi:Int}(h:r∈Dm rs t c lo hi):r∈rs:=(F1.1 ((EO rs t c lo hi).mem_iff.1 h)).1
def Nq(l:List AU):List Bs:=l.map QE
theorem GL(l:List AU):(Nq l).length=l.length:=B2 ..
theorem tZ{l:List AU}(h:l[i]?=some x):(Nq (l.take (i+1))).map G8=(Nq (l.take i)).map G8++[.string (str (QE x))]:=by
 rw [Bh h];unfold Nq;rw [BW,BW];rfl
def uf(l:List AU)(vr ve:Value)(sr se:List A9):Prop:=Bc 5 83 vr (l).length (Ae (l)) sr/\Bc 1 9 ve l.length ((Nq l).map G8) se
theorem Sw(v:Value)(p:Int)(rs:List AU)(s:List A9)(hv:RA v p rs s)(hs:BP rs)(hn:rs.length<=2000)(af:∀r∈rs,r.ok)(t:Int)(c:Nat)(hc:c<=3):
 Ba prog 170 #[v,I4 t,I4 (c:Int)] [s] (fun r H'=>∃vr K W J,r= .agg #[vr,K]/\uf (BG rs t c) vr K W J/\H'=[W,J,s]):=by
 have gm:=mL;have ek:=JB hs t c
 refine Se func170 ntmps170 [0,1,2] ?_;intro u R;refine A0<|Ze (Al i7 #[_,_])<|AD fun qb=>A4<|A0<|Zm Y<|Zm Y<|Zm Y<|Zc [_,_,_,_,_] Y call105 Y V (Y6 v p rs s hv t c (-1000000000) 1000000000 hc) ?_;rintro _ _ ⟨_,⟨W,G,rfl⟩,rfl⟩;change Bc 5 83 _ (BG rs t c).length (Ae (BG rs t c)) W at G;obtain ⟨qr,cr,rfl⟩:=G.form;have X:=DT G A1
 obtain ⟨p9,bn,e9,gq,hg⟩:=id X;injection e9 with e91 e92 e93
 subst e91 e93;refine Zv (BK (vs:=[(0,_)]) (cs:=#[_,_]) Y (AY (pl:=#[(0,1),(1,1)]) i7 MD (fun _=>by kernel_rfl) V))<|Ze (Al i7 #[_,_])<|AD fun ob=>Xe (BM fL Y Y (by(simp [Value.oneCell',Value.cells];done)) Wu (by exact (rfl:_=(#[.slice qr (BG rs t c).length cr,.slice none 0 0]:Array Value))) E7 AN (by exact BA _)) ?_;refine A4<|Zq<|A0<|Zh 0 MD V rfl C5 Y<|Zl Fl Y ?_;refine Zv (Ab B6 Y)<|Zm Y<|A4<|AP<|BV<|Zb [20,6,7,18,19] ?_;refine BB (e0:=[(20,_)]) (fun m e H=>∃(i:Nat) (K:Value) (J:List A9),m=(BG rs t c).length -i/\(i<=(BG rs t c).length/\Bc 1 9 K i ((Nq ((BG rs t c).take i)).map G8) J)/\e=[(20,I4 (i:Int))]/\H=[[(ob,.cells #[.slice qr (BG rs t c).length cr,K] 262 (0,0))],J]) (by exact ⟨0,.slice none 0 0,[],V,⟨C0 _,Bf 1 _⟩,V,V⟩) Wp ?_;rintro _ _ _ ⟨i,K,J,rfl,⟨hi,B⟩,rfl,rfl⟩;obtain ⟨qe,ce,rfl⟩:=B.form;refine A0<|Zv (Au Y Y)<|A4<|Zq<|Av Y (fun U=>?_) (fun U=>?_)
 ·
  obtain ⟨x,hx⟩:∃x,(BG rs t c)[i]?=some x:=⟨_,B4 U⟩;obtain ⟨g,off,cur,T,zz,rfl,Z,cu,O⟩:=hg i x hx;have ax:=af x (MN (DG hx))
  refine AC<|Zx<|Zq<|AP<|A0<|BX (Ad B6 AW Y Y A1)<|CO (cs:=[(g,.cells cur T zz)]) (by simp [Z]) (AA (cs:=x.A16) CH AW Y A1 O) V rfl ?_;refine Ze (Al DP #[_,_,_,_,_])<|AD fun xb=>Xe (Xw AW x.A16) ?_;refine A4<|A0<|Zo Wh (Pa #[_,_,_,_,_] CH AW Y) ?_;refine Xr [_] Y call229 Y V (jh x ax) ?_;refine Zm Y<|Zd Y V<|Zd Y V<|Za Y<|A3 Y<|Zg<|Zh 1 MD V rfl HF Y<|Zl KB Y ?_;refine Zm Y<|Ze (Ah (vs:=[_]) (cs:=[_]) CN F0 HM Y V rfl V rfl V)<|AD fun b4=>Ze (Du (by_:=16) (sz:=1) (news:=[_]) CN (V:Tryz.prog.info? 9=some Tryz.t9) V rfl V rfl Y B Y Wo Wh AM V Fm AN A1 A1) ?_;rintro _ _ ⟨gy,I,rfl⟩;obtain ⟨d9,cO,rfl⟩:=I.form;refine Zh 1 MD V rfl HF Y<|Xe (Zs HF Y Y V (hc:=by exact (V:_=(#[.slice _ (BG rs t c).length cr,_]:Array Value))) (hi:=by(simp;done))) ?_;refine Z0<|Zn [6,7,18,19,20] ?_;refine A8<|Zx<|Zg<|Ya (n:=1) Y Y<|Zm Y<|Z0<|Zn [20,6,7,18,19] ?_;refine Aa (e':=[(20,_)]) (by exact ⟨i+1,_,_,rfl,⟨by omega,BR I rfl (by rw [tZ hx])⟩,rfl,rfl⟩)
 have ei:i=(BG rs t c).length:=by omega
 subst ei;rw [FF]at B;refine Ay<|Zt<|Zt<|AR<|Zx<|A0<|Zo Wh (AA (cs:=#[_,_]) isAgg262 fL Y As AM) ?_;refine Xe (BM fL Y Y (by(simp [Value.oneCell',Value.cells];done)) Wu (by exact (rfl:_=(#[.slice qr (BG rs t c).length cr,.slice qe _ ce]:Array Value))) E7 AN (by exact BA _)) ?_;refine A4<|AJ<|Ct V results170 Y Wh (Ak isAgg262 fL Wn (V)) (by exact ⟨.slice qr _ cr,.slice qe _ ce,W,J,V,⟨G,B⟩,V⟩)
theorem Yo(v:Value)(p:Int)(rs:List AU)(s:List A9)(hv:RA v p rs s)(K:BP rs)(J:rs.length<=2000)(I:∀r∈rs,r.ok)(t:Int)(c:Nat)(hc:c<=3):
 Ba prog 170 #[v,I4 t,I4 (c:Int)] [s] (fun r H'=>∃G B m g,r= .agg #[G,B]/\uf (BG rs t c) G B m g/\H'=[m++g,s]):=by
 refine Gs (Sw v p rs s hv K J I t c hc) V ?_;rintro r H' ⟨G,B,m,g,rfl,h,rfl⟩;exact ⟨_,⟨G,B,m,g,V,h,V⟩,by simp⟩
def tcs:List (Nat×Nat):=(List.range 4).flatMap fun t=>(List.range 4).map fun c=>(t,c)
theorem zh:∀t,t<4->∀c,c<4->tcs[4*t+c]?=some (t,c):=by decide
def yO(rs:List AU)(x:Nat×Nat):Bs:=Tv ((BG rs (x.1:Int) x.2).length:Int)++Dh (Nq (BG rs (x.1:Int) x.2))
def bQ(rs:List AU):List Bs:=tcs.map (yO rs)
def tU(rs:List AU)(x:Nat×Nat)(vs:Array Value)(sx:List A9):Prop:=∃vr ve sr se,vs=#[.agg #[vr,ve]]/\uf (BG rs (x.1:Int) x.2) vr ve sr se/\sx=sr++se
theorem XN{l:List AU}(h:∀r∈l,r.ok):∀s∈Nq l,s.length<=45:=by
 intro s m;obtain ⟨r,g,rfl⟩:=Bk.1 m;exact fQ (h r g)
theorem Ym(q:Option Addr):Ba prog 230 #[.pointer q] [] (fun r H'=>∃b,r= .func (.func 274) #[] #[I5 b]/\H'=[[(b,.cells #[.pointer q] 131 (0,0))]]):=by
 refine Se func230 ntmps230 [0] ?_;intro u R;refine A0<|Ze (Bx #[_])<|AD fun b=>A3 Y<|A0<|Zv (Bg (vs:=[]) (us:=[_]) Y Y)<|A3 Y<|AJ<|AO V results230 Y (by exact ⟨_,V,V⟩)
theorem Yn(v:Value)(p:Int)(rs:List AU)(s:List A9)(hv:RA v p rs s)(hs:BP rs)(hn:rs.length<=2000)(W:∀r∈rs,r.ok)(b:Nat):
 WF prog 274 #[I5 b] [[(b,.cells #[v] 131 (0,0))]] [s] (tU rs) tcs:=by
 have af:=mL;intro l J hy s0 hJ;refine Se func274 ntmps274 [0,1] ?_;intro u R;refine A0<|Zm Y<|A4<|AP<|Zb [5,0,1] ?_;refine BB (e0:=[(5,_)]) (fun m e H=>∃(t:Nat) (s2:List A9),m=4 -t/\(t<=4/\J (tcs.take (4*t)) s2)/\e=[(5,I4 (t:Int))]/\H=[s2]) (by exact ⟨0,s0,V,⟨by omega,hJ⟩,V,V⟩) Wp ?_;rintro _ _ _ ⟨t,s2,rfl,⟨ht,g⟩,rfl,rfl⟩;refine A0<|Zv (Au (n:=4) Y Y)<|A4<|Zq<|Av Y (fun I=>?_) (fun I=>?_)
 ·
  refine AC<|Zx<|Zq<|AP<|A0<|Zm Y<|A3 Y<|A0<|Zm Y<|A4<|AP<|Zb [8,0,1,3,5] ?_;refine BB (e0:=[(8,_)]) (fun m e H=>∃(c:Nat) (K:List A9),m=4 -c/\(c<=4/\J (tcs.take (4*t+c)) K)/\e=[(8,I4 (c:Int))]/\H=[K]) (by exact ⟨0,s2,V,⟨by omega,g⟩,V,V⟩) Wp ?_;rintro _ _ _ ⟨c,K,rfl,⟨hc,B⟩,rfl,rfl⟩;refine A0<|Zv (Au (n:=4) Y Y)<|A4<|Zq<|Av Y (fun G=>?_) (fun G=>?_)
  ·
   have hx:=zh t I c G;refine AC<|Zx<|Zq<|AP<|A0<|Zm Y<|A3 Y<|A0<|Zm Y<|Zl isAgg131 Y ?_;refine Zm Y<|Zm Y<|Zc [_,_,_] Y call170 Y V (Yo v p rs s hv hs hn W (t:Int) c A1) ?_;rintro _ _ ⟨_,⟨vr,ve,sr,se,rfl,hO,rfl⟩,rfl⟩;have X:=hy _ _ _ K #[.agg #[vr,ve]] (sr++se) (OG hx) B ⟨vr,ve,sr,se,rfl,hO,rfl⟩
   refine Ze (GR (vs:=[_]) Y Y (X) Wp) ?_;rintro _ _ ⟨_,⟨s4,rfl,rfl,U⟩,rfl⟩;refine Zv (Br Y)<|A4<|AV Y (fun Z=>by cases Z)<|fun Z=>AC<|A8<|Zx<|Zg<|Ya (n:=1) Y Y<|Zm Y<|Z0<|Zn [8,0,1,3,5] ?_;refine Aa (e':=[(8,_)]) (by exact ⟨c+1,s4,rfl,⟨by omega,by rw [<-gC,Bh hx];exact U⟩,rfl,rfl⟩)
  refine Ay<|Zt<|Zt<|AR<|A8<|Zx<|Zg<|Ya (n:=1) Y Y<|Zm Y<|Z0<|Zn [5,0,1] ?_;refine Aa (e':=[(5,_)]) (by exact ⟨t+1,K,rfl,⟨by omega,by rw [Nat.mul_add,LS];have O:c=4:=A1;subst O;exact B⟩,rfl,rfl⟩)
 have O:t=4:=by omega
 subst O;refine Ay<|Zt<|Zt<|AR<|Cv V results274 (by exact ⟨s2,V,g⟩)
theorem Uq(v:Value)(p:Int)(rs:List AU)(s:List A9)(hv:RA v p rs s)(hs:BP rs)(hn:rs.length<=2000)(O:∀r∈rs,r.ok)(W:TypeId)(zg:Nat×Nat):
 Ba prog 176 #[v] [[(4,.cells (En.map Co).toArray W zg)],s] (fun r H'=>∃so,Bc 1 9 r 16 ((bQ rs).map G8) so/\H'=[so,[(4,.cells (En.map Co).toArray W zg)],s]):=by
 have j5:=mL;obtain ⟨l9,l8,ic,gq,l5,rfl,d9⟩:=id hv;refine DK func176 V ntmps176 V ?_;intro u R;refine Zb [0] ?_;refine A0<|A3 Y<|A0<|Ze (Al UP #[_])<|AD fun ob=>A4<|Zq<|A0<|Zm Y<|Zc [_] Y call230 Y V (Ym _) ?_;rintro _ _ ⟨_,⟨bb,rfl,rfl⟩,rfl⟩;refine A4<|AP<|Zb [3,8] ?_;refine BV<|Xf (H0:=_) (R:=_) (I:=(fun pre H=>∃Z s2,H=[[(ob,.cells #[Z] 45 (0,0))],s2,[(4,.cells (En.map Co).toArray W zg)]]/\Bc 1 9 Z pre.length ((pre.map (yO rs)).map G8) s2)) (E:=fun x vs sx e Hn=>∃X J G,vs=#[.agg #[J,G]]/\e=[(4,I5 X),(9,.agg #[J,G])]/\Hn=[[(X,.cells #[J,G] 262 (0,0))]]) rfl Y call274 (Yn _ p rs s hv hs hn O bb) (fun x vs sx h=>by obtain ⟨J,G,sr,se,rfl,_⟩:=h;rfl) rfl Wp (⟨_,[],rfl,Bf 1 _⟩) ?ha_2 ?hbd_2 ?hk_2
 case ha_2=>
  intro _ x vs sx _ _ g;obtain ⟨J,G,sr,se,rfl,K,rfl⟩:=g;refine Zg<|Ze (Al i7 #[_,_])<|AD fun X=>Xe (BM fL Y Y (by obtain ⟨q1,c1,rfl⟩:=K.1.form;obtain ⟨q2,c2,rfl⟩:=K.2.form;simp [Value.oneCell',Value.cells]) Wu (by exact (rfl:_=(#[J,G]:Array Value))) E7 AN (by exact BA _)) ?_;refine Z0<|Li (e:=[(4,_),(9,_)]) (Hn:=[[(_,_)]]) ?_;exact ⟨_,_,_,V,V,V⟩
 case hbd_2=>
  intro l pre x ek u vs sx e9 gm H1 R1 cO hI g af;obtain ⟨J,G,sr,se,rfl,K,rfl⟩:=g;obtain ⟨X,p8,o9,U,rfl,rfl⟩:=af;simp at U;obtain ⟨rfl,rfl⟩:=U;obtain ⟨Z,s2,rfl,m⟩:=hI;obtain ⟨qe,ce,rfl⟩:=K.2.form;obtain ⟨q2,c2,rfl⟩:=m.form;have cu:=congrArg List.length cO
  rw [B7,DE,show tcs.length=16 from rfl]at cu;have kv:=JB hs (x.1:Int) x.2
  have bn:EU (sr++se) (.slice qe (BG rs (x.1:Int) x.2).length ce) (Nq (BG rs (x.1:Int) x.2)):=(Ga (BR K.2 (GL _).symm rfl) (by rw [GL];omega)).mono (fun c h=>G1 _ h);refine AP<|A0<|Zh 1 MD V rfl HF Y<|Zl KB Y ?_;refine Zv (Ab CN Y)<|Xr [_] Y call231 Y V (QX _ A1 A1) ?_;refine Zm Y<|Zd Y V<|Zd Y V<|Za Y<|A3 Y<|Az (n:=9) (0::0::0::4::12::30::62::127::255::[]) 464 A6 A6 V<|B3 0 V KB Y ?_;refine A2 1 V (AQ Y)<|A2 2 V (AB (off:=1) MD V rfl HF Y)<|B3 3 V KB Y ?_;refine Yz 4 12 31 [3,0] [false,true] [(0,(_,_))] rfl Y rfl rfl rfl rfl (Zu [_] Y call232 Y rfl (Pm bn (by rw [GL];omega) (fun s h=>by have:=XN (fun r hr=>O r (MN hr)) s h;omega) W zg))<|CM<|B5<|A2 5 rfl (MZ Y Y (by rw [Gj,Gj,LX];have:=PH ((BG rs (x.1:Int) x.2).length:Int) A1 A1;omega))<|Yz 6 62 127 [0] [true] [(0,(_,_))] rfl Y rfl rfl rfl rfl (Ah (vs:=[_]) (cs:=[_]) CN F0 HM Y rfl rfl rfl rfl rfl)<|AD fun b3=>B5<|Yw 7 255 V (Du (by_:=16) (sz:=1) (news:=[_]) CN (V:Tryz.prog.info? 9=some Tryz.t9) V rfl V rfl Y m Y Wo Wh AM V Fm AN A1 A1) ?_;rintro _ _ ⟨o8,B,rfl⟩;obtain ⟨j3,gy,rfl⟩:=B.form;refine Yw 8 511 V (Zs HF Y Y V (hi:=by(simp;done)))<|CM<|Ai<|Zn [] ?_;refine A8<|Ez V (by exact ⟨_,_,V,BR B B0 (by simp [yO,G8,RD])⟩)
 intro D1 H2 ax;obtain ⟨Z,s2,rfl,m⟩:=ax;refine Zn [3] ?_;refine A8<|Zx<|A0<|Zl KB Y ?_;refine A3 Y<|AJ<|GI V (dF results176 Y) Wo (by exact ⟨s2,m,V⟩)
end Go.Proofs.YteaiajghbkenoaaGreatDoor
