/- A patch gives the result on the rows after the change: rows, numbers, sums, least and greatest values. -/
import Derived.Test.YtfhjaegddfehhaaGreatDoorPr5
set_option linter.unusedVariables false
set_option linter.unusedSimpArgs false
namespace Go.Proofs.YtfhjaegddfehhaaGreatDoor
open Go.Proofs.Tryz
open Go Go.RowKit Gw
set_option maxRecDepth 100000
attribute [local irreducible] Gw.At Gw.Nx Gw.Ops
variable{rs:List AV}
theorem OU(g:BQ rs):rs.Nodup:=g.imp (by
 intro a b h e;subst e;unfold AV.lt2 at h;omega)
variable{q:QM}
theorem OZ(g:BJ q)(rs:List AV)(x:AV):x∈CR rs q↔x∈rs/\inQ q x=true:=by rw [(Hq g rs).mem_iff,FA]
theorem Ry(g:BJ q)(m:BQ rs):(CR rs q).Nodup:=(Hq g rs).nodup_iff.2 ((OU m).filter _)
theorem Rx(G:BJ q){o:List AV}(g:BQ rs)(hn:o.Nodup)(B:∀x,x∈o↔x∈rs/\inQ q x=true)(h2:o.Pairwise (leV q.cl.toNat)):o=CR rs q:=by
 have h:=Hq G rs;refine Rv g (f:=inQ q) (t:=q.tb) (fun r m=>(Hb m).1) ?_ h h2 (Eo g _ _ _ _);exact (RE hn ((OU g).filter _)).2 fun x=>by rw [B,FA]
variable{y x:AV}
theorem Ov{b:Bool}(h:Hy q b x=some y):y=x/\b=true/\inQ q y=true:=by
 unfold Hy at h;split at h
 · rename_i h9
   rw [F2]at h9;injection h with h
   subst h;exact ⟨V,h9⟩
 · cases h
theorem rM{b:Bool}(h:Hy q b x=none)(g:b=true):inQ q x=false:=by
 unfold Hy at h;rw [g,Tr]at h;split at h;· cases h
 · simp_all
theorem RX(g:BJ q)(y x:AV):KR q y x=true↔Di y q.cl.toNat<Di x q.cl.toNat\/(Di x q.cl.toNat=Di y q.cl.toNat/\y.k<x.k):=by
 have hc:=g.2.1;have e:∀r,Bn r q.cl=Di r q.cl.toNat:=fun r=>by
  have:=LW r q.cl.toNat A1;rwa [show((q.cl.toNat:Nat):Int)=q.cl by omega]at this
 unfold KR;rw [e,e,S2,F2,Fl,Fl,Fl]
theorem ri(B:BJ q)(h:KR q y x=false):leV q.cl.toNat x y:=by
 have g:=RX B y x;rw [h]at g;unfold leV;have:¬(Di y q.cl.toNat<Di x q.cl.toNat\/(Di x q.cl.toNat=Di y q.cl.toNat/\y.k<x.k)):=fun m=>by cases g.2 m
 omega
theorem rj(g:BJ q)(h:KR q y x=true):leV q.cl.toNat y x:=by
 have:=(RX g y x).1 h;unfold leV;omega
theorem Vr(G:BJ q){L:List AV}(O:L.Pairwise (leV q.cl.toNat))(y:AV):∃A B,L=A++B/\R8 (KR q y) L y=A++[y]++B/\(∀x∈A,KR q y x=false)/\(∀x∈B,KR q y x=true):=by
 cases h:L.findIdx? (KR q y)with
 |none=>
  refine ⟨L,[],by simp,?_,cT.1 h,by simp⟩;unfold R8;rw [h];simp
 |some i=>
  obtain ⟨I,h2,J⟩:=XS.1 h;refine ⟨L.take i,L.drop i,(Iv i L).symm,?_,fun x hx=>?_,fun x hx=>?_⟩
  · unfold R8
    rw [h];rfl
  · obtain ⟨j,g⟩:=GW hx
    rw [HC]at g;split at g
    · rename_i hji
      obtain ⟨U,rfl⟩:=BE.1 g;simpa using J j hji
    · cases g
  · have m:=O.sublist (List.drop_sublist i L)
    rw [RK I]at hx m;rcases D4.1 hx with rfl|hx
    · exact h2
    · have K:=(PC.1 m).1 x hx
      have W:=(RX G y _).1 h2;rw [RX G];unfold leV at K;omega
theorem ZT(g:AV->Bool)(L:List AV)(y:AV):(R8 g L y).Perm (y::L):=by
 unfold R8;simp only [Cd,Mz];refine Rg.trans ?_;rw [Iv]
theorem fU(G:BJ q){L:List AV}(g:L.Pairwise (leV q.cl.toNat))(y:AV):(R8 (KR q y) L y).Pairwise (leV q.cl.toNat):=by
 obtain ⟨A,B,e,e2,O,U⟩:=Vr G g y;rw [e2];rw [e]at g;obtain ⟨J,h2,K⟩:=P2.1 g;rw [Cd];refine P2.2 ⟨J,PC.2 ⟨fun x hx=>rj G (U x hx),h2⟩,fun a I b m=>?_⟩;rcases D4.1 m with rfl|m
 · exact ri G (O a I)
 · exact K a I b m
theorem zh(c:Chg)(x:AV):Js c x=true↔x.is c.t c.k:=by
 unfold Js AV.is;rw [F2,Fl,Fl]
variable{c:Chg}
theorem Sr(m:BJ q)(g:BQ rs)(B:GR rs c):EA q c (CR rs q)=CR (EK rs c) q:=by
 have J:((CR rs q).filter fun x=>!Js c x).Pairwise (leV q.cl.toNat):=(Eo g _ _ _ _).sublist TX;have K:((CR rs q).filter fun x=>!Js c x).Nodup:=(Ry m g).filter _
 have G:∀x,x∈((CR rs q).filter fun x=>!Js c x)↔(x∈rs/\¬x.is c.t c.k)/\inQ q x=true:=fun x=>by
  rw [FA,OZ m,SZ,<-oc,zh];constructor;· rintro ⟨⟨a,b⟩,d⟩;exact ⟨⟨a,d⟩,b⟩
  · rintro ⟨⟨a,d⟩,b⟩;exact ⟨⟨a,b⟩,d⟩
 unfold EA;cases ha:afQ q c with
 |none=>
  refine Rx m (JD g B) K (fun x=>?_) J;rw [G,G7 g B];constructor;· rintro ⟨a,b⟩;exact ⟨.inl a,b⟩
  · rintro ⟨a|⟨a,rfl⟩,b⟩
    · exact ⟨a,b⟩
    · rw [rM ha a]at b;cases b
 |some y=>
  obtain ⟨hy,O,hi⟩:=Ov ha;have I:y∉((CR rs q).filter fun x=>!Js c x):=fun h=>((G y).1 h).1.2 (by rw [hy];exact ⟨rfl,rfl⟩)
  refine Rx m (JD g B) ((ZT _ _ y).nodup_iff.2 (Hj.2 ⟨I,K⟩)) (fun x=>?_) (fU m J y);rw [(ZT _ _ y).mem_iff,D4,G,G7 g B];constructor
  · rintro (rfl|⟨a,b⟩)
    · exact ⟨.inr ⟨O,hy⟩,hi⟩
    · exact ⟨.inl a,b⟩
  · rintro ⟨a|⟨a,e⟩,b⟩
    · exact .inr ⟨a,b⟩
    · exact .inl (e.trans hy.symm)
theorem aR(lt:Int->Int->Bool)(G:∀a b c,lt b a=false->lt c b=false->lt c a=false)(m:∀a,lt a a=false)(g:∀a b,lt a b=true->lt b a=false)(B:∀a b,lt a b=false->lt b a=false->a=b){l:List Int}{x:Int}(hx:x∈l)(h:∀y∈l,lt y x=false):EW lt l=⟨[],x,true⟩:=by
 match l,hx,h with
 |z::l,hx,h=>
  obtain ⟨I,J,K,O⟩:=KO lt G m g z l;rw [O,B x I (K x hx) (h I J)]
theorem uK(lt:Int->Int->Bool)(l:List Int)(n:Int):EW lt (l++[n])=⟨(EW lt l).rows,if !(EW lt l).fnd||lt n (EW lt l).val then n else(EW lt l).val,true⟩:=by
 unfold EW;rw [Z3];rfl
theorem nJ(lt:Int->Int->Bool)(G:∀a b c,lt b a=false->lt c b=false->lt c a=false)(g:∀a,lt a a=false)(m:∀a b,lt a b=true->lt b a=false)(B:∀a b,lt a b=false->lt b a=false->a=b)(X:List Int)(b a:Option Int)
 (h:(Gc lt b.isSome a.isSome (b.getD 0) (a.getD 0) (EW lt (X++b.toList))).2=true):(Gc lt b.isSome a.isSome (b.getD 0) (a.getD 0) (EW lt (X++b.toList))).1=EW lt (X++a.toList):=by
 have I:∀r:CE,r=EW lt X->(if a.isSome then((⟨r.rows,if !r.fnd||lt (a.getD 0) r.val then a.getD 0 else r.val,true⟩:CE),true)else(r,true)).1=EW lt (X++a.toList):=fun r hr=>by
  subst hr;cases a with
  |none=>simp
  |some n=>rw [oS,uK];rfl
 cases b with
 |none=>
  have e:EW lt (X++(none:Option Int).toList)=EW lt X:=by simp
  rw [e]at h⊢;exact I _ V
 |some o=>
  have K:∃x∈X++[o],(∀y∈X++[o],lt y x=false)/\EW lt (X++[o])=⟨[],x,true⟩:=by
   cases hx:X++[o]with
   |nil=>simp at hx
   |cons z l=>exact KO lt G g m z l
  obtain ⟨x,W,h2,Z⟩:=K;rw [oS]at h⊢;rw [Z]at h⊢;unfold Gc at h⊢;simp only [Option.isSome_some,ia,Tr,S3,lx]at h⊢;cases hxo:lt x o with
  |false=>
   rw [hxo]at h;simp only [cn,HR]at h⊢;have O:=h2 o B0
   have J:=B x o hxo O;subst J;cases a with
   |none=>simp at h
   |some n=>
    simp only [Option.isSome_some,ia,Tr,iz,SZ]at h;rw [oS,aR lt G g m B (x:=n) B0 fun y hy=>?_];· rfl
    · rcases B9.1 hy with hy|hy
      · exact G n x y h (h2 y (by simp [hy]))
      · rw [BT.1 hy];exact g n
  |true=>
   simp only [S3,MA,HF];have U:x∈X:=by
    rcases B9.1 W with h9|h9
    · exact h9
    · rw [BT.1 h9,g]at hxo;cases hxo
   have e:(⟨[],x,true⟩:CE)=EW lt X:=(aR lt G g m B U fun y hy=>h2 y (by simp [hy])).symm;have:=I _ e
   simpa using this
theorem Oz(q:QM)(a b:List AV):Ct q (a++b)=Ct q a++Ct q b:=BW
theorem Z7(q:QM)(o:Option AV):Ct q o.toList=(o.map fun r=>Bn r q.bq).toList:=by cases o<;>rfl
theorem fA(q:QM)(o:Option AV):mQ q o=(o.map fun r=>Bn r q.bq).getD 0:=by cases o<;>rfl
theorem jE(q:QM)(o:Option AV):o.isSome=(o.map fun r=>Bn r q.bq).isSome:=by cases o<;>rfl
theorem wH(o:Option Int):Jp o.toList=o.getD 0:=by
 cases o with
 |none=>rfl
 |some x=>show x+0=x;omega
theorem Yp(K:BJ q)(hs:BQ rs)(hf:GR rs c)(h7:q.kd≠7)(J:Cq q c=true)(h:(Bu q c (Cf rs q)).2=true):(Bu q c (Cf rs q)).1=Cf (EK rs c) q:=by
 obtain ⟨A,B,e1,e2⟩:=Q4 hf;have f1:rs.filter (inQ q)=A.filter (inQ q)++(bfQ q c).toList++B.filter (inQ q):=by
  conv=>lhs;rw [e1]
  rw [Hi,Hi,TJ]
 have f2:(EK rs c).filter (inQ q)=A.filter (inQ q)++(afQ q c).toList++B.filter (inQ q):=by
  rw [e2,Hi,Hi,TK]
 have p1:=Hq K rs;have p2:=Hq K (EK rs c)
 rw [f1]at p1;rw [f2]at p2;have hk:=K.2.2.2
 have l1:=p1.length_eq;have l2:=p2.length_eq
 simp only [B7]at l1 l2;have m1:(Ct q (CR rs q)).Perm ((Ct q (A.filter (inQ q))++Ct q (B.filter (inQ q)))++((bfQ q c).map fun r=>Bn r q.bq).toList):=by
  rw [<-Z7,<-Oz,<-Oz];refine (p1.map _).trans (List.Perm.map _ ?_);simp only [Cd];exact RM _ Ly
 have m2:(Ct q (CR (EK rs c) q)).Perm ((Ct q (A.filter (inQ q))++Ct q (B.filter (inQ q)))++((afQ q c).map fun r=>Bn r q.bq).toList):=by
  rw [<-Z7,<-Oz,<-Oz];refine (p2.map _).trans (List.Perm.map _ ?_);simp only [Cd];exact RM _ Ly
 have hx:∀lt:Int->Int->Bool,(∀a b c,lt b a=false->lt c b=false->lt c a=false)->(∀a,lt a a=false)->(∀a b,lt a b=true->lt b a=false)->(∀a b,lt a b=false->lt b a=false->a=b)->(Gc lt (bfQ q c).isSome (afQ q c).isSome (mQ q (bfQ q c)) (mQ q (afQ q c)) (EW lt (Ct q (CR rs q)))).2=true->(Gc lt (bfQ q c).isSome (afQ q c).isSome (mQ q (bfQ q c)) (mQ q (afQ q c)) (EW lt (Ct q (CR rs q)))).1=EW lt (Ct q (CR (EK rs c) q)):=fun lt O U W X h9=>by
  rw [PO lt O U W X (fun y=>m1.mem_iff),fA,fA,jE,jE]at h9⊢;rw [PO lt O U W X (fun y=>m2.mem_iff)];exact nJ lt O U W X _ _ _ h9
 unfold Bu Cf FQ at h⊢;unfold Cq at J;rcases (by omega:(q.kd=1\/q.kd=2)\/q.kd=3\/q.kd=4\/q.kd=5\/q.kd=6)with h8|h8|h8|h8|h8
 · have G:¬q.kd=3:=by omega
   have I:¬q.kd=4:=by omega
   have Z:¬q.kd=5:=by omega
   have g6:¬q.kd=6:=by omega
   simp only [AM h8,G,I,Z,g6,h7,HF,Sr K hs hf]
 · have m:¬(q.kd=1\/q.kd=2):=by omega
   simp only [AK m,AM h8]at J⊢;unfold Ub at J;cases hb:bfQ q c<;>cases ha:afQ q c<;>rw [hb,ha]at J<;>rw [hb]at l1<;>rw [ha]at l2<;>simp at J l1 l2⊢<;>omega
 · have m:¬(q.kd=1\/q.kd=2):=by omega
   have G:¬q.kd=3:=by omega
   simp only [AK m,G,AM h8,HF];have s1:=MX m1
   have s2:=MX m2;rw [YA,wH,<-fA]at s1 s2;have g:∀l,LZ l=Jp l:=fun l=>by unfold LZ;rw [Mr];omega
   simp only [g];congr 1;omega
 · have m:¬(q.kd=1\/q.kd=2):=by omega
   have G:¬q.kd=3:=by omega
   have I:¬q.kd=4:=by omega
   simp only [AK m,G,I,AM h8,HF]at h⊢;exact hx _ (fun a b c h1 h2=>by simp only [Mu]at*;omega) (fun a=>by simp) (fun a b h=>by simp only [Fl,Mu]at*;omega) (fun a b h1 h2=>by simp only [Mu]at*;omega) h
 · have m:¬(q.kd=1\/q.kd=2):=by omega
   have G:¬q.kd=3:=by omega
   have I:¬q.kd=4:=by omega
   have Z:¬q.kd=5:=by omega
   simp only [AK m,G,I,Z,AM h8,HF]at h⊢;exact hx _ (fun a b c h1 h2=>by simp only [Mu]at*;omega) (fun a=>by simp) (fun a b h=>by simp only [Fl,Mu]at*;omega) (fun a b h1 h2=>by simp only [Mu]at*;omega) h
theorem Fp(m:BQ rs)(k:Int)(x:AV):Dc q (IR rs q.ot) k=some x↔x∈rs/\x.is q.ot k:=by
 have J:∀a∈rs,∀b∈rs,a.is q.ot k->b.is q.ot k->a=b:=fun a G b I B h2=>by
  have e1:=KM m G B;have e2:=KM m I h2
  rw [e1]at e2;injection e2
 have g:∀y,y∈IR rs q.ot/\decide (y.t=q.ot/\y.k=k)=true↔y∈rs/\y.is q.ot k:=fun y=>by
  unfold IR inT AV.is;rw [FA,Fl,Fl];constructor;· rintro ⟨⟨a,_⟩,b⟩;exact ⟨a,b⟩
  · rintro ⟨a,b⟩;exact ⟨⟨a,b.1⟩,b⟩
 unfold Dc;constructor
 · intro h
   exact (g x).1 ⟨kc h,by simpa using lj (p:=fun x:AV=>decide (x.t=q.ot/\x.k=k)) h⟩
 · intro h
   cases hf:(IR rs q.ot).find? fun x=>decide (x.t=q.ot/\x.k=k)with
   |none=>
    have:=l4.1 hf x ((g x).2 h).1;exact absurd ((g x).2 h).2 this
   |some y=>
    have h2:=(g y).1 ⟨kc hf,by simpa using lj (p:=fun x:AV=>decide (x.t=q.ot/\x.k=k)) hf⟩;rw [J y h2.1 x h.1 h2.2 h.2]
def prQ(rs:List AV)(q:QM)(r:AV):Option Bd:=(Dc q (IR rs q.ot) (Bn r q.bq)).map fun x=>⟨r,x⟩
def pA(rs:List AV)(q:QM):List Bd:=(CR rs q).filterMap (prQ rs q)
theorem ZK(rs:List AV)(q:QM):∀l:List AV,Ip q l (IR rs q.ot)=DV (l.filterMap (prQ rs q))
 |[]=>rfl
 |r::l=>by
  have h:=ZK rs q l;unfold Ip at h⊢;rw [HL,h,kk];unfold Io prQ;cases Dc q (IR rs q.ot) (Bn r q.bq)<;>rfl
theorem eD(ps:List Bd):Ey (DV ps)=ps:=by
 have G:(DV ps).length=2*ps.length:=II ps;have g:∀(ps:List Bd) (k:Nat) (p:Bd),ps[k]?=some p->(DV ps)[2*k]?=some p.l/\(DV ps)[2*k+1]?=some p.r:=by
  intro ps;induction ps with
  |nil=>intro k p h;cases h
  |cons a ps ih=>
   intro k p h;have e:DV (a::ps)=a.l::a.r::DV ps:=rfl
   rw [e];cases k with
   |zero=>injection h with h;subst h;exact ⟨rfl,rfl⟩
   |succ k=>
    have:=ih k p h;rw [show 2*(k+1)=2*k+2 by omega];exact this
 apply MT;intro k;have m:(Ey (DV ps)).length=ps.length:=by rw [KE];omega
 rcases E0 k ps.length with h|h
 · obtain ⟨B,h2⟩:=g ps k _ (B3 h)
   unfold Ey;rw [DO,Z1 A1,N1,My,My,B,h2,B3 h];rfl
 · rw [Lz A1,Lz h]
variable{α:Type}
theorem wm{a b:Option α}(h:∀x,a=some x↔b=some x):a=b:=Option.ext h
variable{r:AV}
theorem VP{p:Bd}(h:prQ rs q r=some p):p.l=r/\Dc q (IR rs q.ot) (Bn r q.bq)=some p.r:=by
 unfold prQ at h;cases hp:Dc q (IR rs q.ot) (Bn r q.bq)with
 |none=>rw [hp]at h;cases h
 |some x=>rw [hp]at h;injection h with h;subst h;exact ⟨rfl,rfl⟩
theorem Tq{α β:Type}{f g:α->Option β}:∀{l:List α},(∀x∈l,f x=g x)->l.filterMap f=l.filterMap g
 |[],_=>rfl
 |x::l,h=>by rw [kk,kk,h x B0,Tq fun y hy=>h y (by simp [hy])]
theorem NP{β γ:Type}(f:α->Option β)(g:β->Option γ)(h:α->Option γ)(l:List α)(e:∀x∈l,(f x).bind g=h x):(l.filterMap f).filterMap g=l.filterMap h:=by
 rw [nb];exact Tq e
theorem uH(g:Bd->Bool)(A B:List Bd)(y:Bd)(m:∀x∈A,g x=false)(G:∀x∈B,g x=true):PE g (A++B) y=A++[y]++B:=by
 have e:((A++B).findIdx? g).getD (A++B).length=A.length:=by
  rw [List.findIdx?_append,cT.2 m];cases B with
  |nil=>simp
  |cons b B=>rw [List.findIdx?_cons,G b B0];simp
 unfold PE;rw [e];simp
theorem Yo(hq:BJ q)(K:BQ rs)(X:GR rs c)(h7:q.kd=7)(ht:Cq q c=true)(h:(Bu q c (Cf rs q)).2=true):(Bu q c (Cf rs q)).1=Cf (EK rs c) q:=by
 have gF:=JD K X;have gy:∀rs,Cf rs q=⟨DV (pA rs q),0,false⟩:=fun rs=>by
  unfold Cf FQ;simp only [show¬q.kd=3 by omega,show¬q.kd=4 by omega,show¬q.kd=5 by omega,show¬q.kd=6 by omega,h7,HR,HF];rw [ZK];rfl
 have l5:∀r,Bu q c r=D9 q c r:=fun r=>by
  unfold Bu;simp only [show¬(q.kd=1\/q.kd=2) by omega,show¬q.kd=3 by omega,show¬q.kd=4 by omega,show¬q.kd=5 by omega,show¬q.kd=6 by omega,HF]
 have l9:O9 q c=true\/c.t=q.ot:=by
  unfold Cq at ht;simp only [show¬(q.kd=1\/q.kd=2) by omega,show¬q.kd=3 by omega,show¬q.kd=4 by omega,show¬(q.kd=5\/q.kd=6) by omega,HF,S2,Fl]at ht;exact ht
 rw [l5,gy]at h⊢;rw [gy];unfold D9 at h⊢;split;· rename_i g;rw [AM g]at h;cases h
 rename_i hto;rw [AK hto]at h;simp only [eD]at h⊢;congr 2;have ek:c.t≠q.tb->CR (EK rs c) q=CR rs q:=fun gB=>by
  refine (Rx hq gF (Ry hq K) (fun x=>?_) (Eo K _ _ _ _)).symm;rw [OZ hq,G7 K X];constructor
  · rintro ⟨a,b⟩
    exact ⟨.inl ⟨a,fun g=>gB (g.1.symm.trans (Hb b).1)⟩,b⟩
  · rintro ⟨⟨a,_⟩|⟨a,rfl⟩,b⟩
    · exact ⟨a,b⟩
    · exact absurd (Hb b).1 gB
 unfold jnT pA at h⊢;by_cases G:c.t=q.ot
 · rw [AM G]at h⊢
   rw [ek A1];have U:∀k,Dc q (IR (EK rs c) q.ot) k=if k=c.k then(if c.has then some ⟨c.t,c.k,c.n⟩else none)else Dc q (IR rs q.ot) k:=fun k=>by
    apply wm;intro x;rw [Fp gF,G7 K X];unfold AV.is;split
    · rename_i m
      split
      · rename_i O
        rw [Option.some_inj];constructor
        · rintro ⟨⟨_,a⟩|⟨_,rfl⟩,b,d⟩
          · exact absurd ⟨b.trans G.symm,d.trans m⟩ a
          · rfl
        · rintro rfl;exact ⟨.inr ⟨O,rfl⟩,G,m.symm⟩
      · rename_i O
        constructor
        · rintro ⟨⟨_,a⟩|⟨a,_⟩,b,d⟩
          · exact absurd ⟨b.trans G.symm,d.trans m⟩ a
          · exact absurd a O
        · intro g;cases g
    · rename_i m
      rw [Fp K];unfold AV.is;constructor
      · rintro ⟨⟨a,_⟩|⟨_,rfl⟩,b⟩
        · exact ⟨a,b⟩
        · exact absurd b.2.symm m
      · rintro ⟨a,b,d⟩
        exact ⟨.inl ⟨a,fun g=>m (d.symm.trans g.2)⟩,b,d⟩
   have af:c.had=true->∃x,Dc q (IR rs q.ot) c.k=some x:=fun O=>by
    obtain ⟨r,hr,hi,_⟩:=JL (X.1.trans O);exact ⟨r,(Fp K c.k r).2 ⟨hr,by rw [<-G];exact hi⟩⟩
   have J:∀{k x},Dc q (IR rs q.ot) k=some x->x.k=k:=fun g=>((Fp K _ _).1 g).2.2;split
   · rename_i O
     rw [AM O]at h;obtain ⟨x0,W⟩:=af h;rw [<-List.filterMap_eq_map];refine NP _ _ _ _ fun r _=>?_;unfold prQ;rw [U,O];by_cases m:Bn r q.bq=c.k
     · rw [m,W,AM rfl]
       simp only [N1,I3,Function.comp_apply,HV,J W,decide_true,HR]
     · rw [AK m]
       cases I:Dc q (IR rs q.ot) (Bn r q.bq)with
       |none=>rfl
       |some x=>simp only [N1,I3,Function.comp_apply,HV,J I,m,X1,MA,HF]
   · rename_i O
     rw [AK O]at h;rw [<-nc];refine NP _ _ _ _ fun r _=>?_;unfold prQ;rw [U,AK O];by_cases m:Bn r q.bq=c.k
     · rw [m,AM rfl]
       obtain ⟨x0,W⟩:=af h;rw [W];simp [Option.guard,HV,J W]
     · rw [AK m]
       cases I:Dc q (IR rs q.ot) (Bn r q.bq)with
       |none=>rfl
       |some x=>simp [Option.guard,HV,J I,m]
 · rw [AK G]at h⊢
   have hg:∀r,prQ (EK rs c) q r=prQ rs q r:=fun r=>by unfold prQ;rw [iO X G]
   have kv:prQ (EK rs c) q=prQ rs q:=funext hg;rw [kv];have l8:c.t=q.tb:=by
    rcases l9 with g|g
    · unfold O9 at g
      rw [S2]at g;rcases g with g|g
      · obtain ⟨y,hy⟩:=gi.1 g
        obtain ⟨e,_,hi⟩:=Ov hy;rw [e]at hi;exact (Hb hi).1
      · obtain ⟨y,hy⟩:=gi.1 g
        obtain ⟨e,_,hi⟩:=Ov hy;rw [e]at hi;exact (Hb hi).1
    · exact absurd g G
   have d9:((CR rs q).filterMap (prQ rs q)).filter (fun p=>!QH c.k p)=((CR rs q).filter fun x=>!Js c x).filterMap (prQ rs q):=by
    rw [<-nc,<-nc,nb,nb];refine Tq fun r hr=>?_;have Z:r.t=c.t:=((Hb ((OZ hq rs r).1 hr).2).1).trans l8.symm
    by_cases m:r.k=c.k
    · cases I:prQ rs q r with
      |none=>simp [Option.guard,Js,Z,m]
      |some p=>simp [Option.guard,Js,Z,m,QH,(VP I).1]
    · cases I:prQ rs q r with
      |none=>simp [Option.guard,Js,Z,m,I]
      |some p=>simp [Option.guard,Js,Z,m,QH,(VP I).1,I]
   rw [d9]at h⊢;have gm:=Sr hq K X
   rw [<-gm];unfold EA;cases ha:afQ q c with
   |none=>rfl
   |some y=>
    rw [ha]at h;simp only [ha]at h⊢;have hm:mQ q (some y)=Bn y q.bq:=rfl
    rw [hm]at h⊢;have hL:((CR rs q).filter fun x=>!Js c x).Pairwise (leV q.cl.toNat):=(Eo K _ _ _ _).sublist TX
    obtain ⟨A,B,e1,e2,hA,hB⟩:=Vr hq hL y;rw [e2];cases hfi:((CR rs q).filterMap (prQ rs q)).findIdx? (HV (Bn y q.bq))with
    |none=>
     have hi:Gv (HV (Bn y q.bq)) ((CR rs q).filterMap (prQ rs q))=-1:=by unfold Gv;rw [hfi];rfl
     rw [hi,AM AH]at h⊢;rw [F2,Fl]at h;obtain ⟨b,hb⟩:=gi.1 h.1;obtain ⟨eb,gq,j3⟩:=Ov hb;have g:=h.2
     rw [hb]at g;have j5:b∈CR rs q:=by
      refine (OZ hq rs b).2 ⟨?_,j3⟩;obtain ⟨r,hr,hi,_,he⟩:=JL (X.1.trans gq);have hv:=X.2 (X.1.trans gq)
      rw [he]at hv;have:b=r:=by
       rw [eb];obtain ⟨t,k,v⟩:=r;obtain ⟨h5,h6⟩:=hi;simp only at h5 h6 hv;subst h5 h6 hv;rfl
      rw [this];exact hr
     have bg:prQ rs q b=none:=by
      cases I:prQ rs q b with
      |none=>rfl
      |some p=>
       have ax:=cT.1 hfi p (Z2.2 ⟨b,j5,I⟩);have ic:=(Fp K _ _).1 (VP I).2
       unfold HV at ax;rw [Mu]at ax;exact absurd (ic.2.2.trans g) ax
     have bn:prQ rs q y=none:=by
      unfold prQ at bg⊢;rw [show Bn y q.bq=Bn b q.bq from g.symm];cases I:Dc q (IR rs q.ot) (Bn b q.bq)with
      |none=>rfl
      |some x=>rw [I]at bg;cases bg
     rw [e1,eN,eN,eN];simp [bn]
    |some i=>
     obtain ⟨h1,h2,h3⟩:=XS.1 hfi;have hi:Gv (HV (Bn y q.bq)) ((CR rs q).filterMap (prQ rs q))=(i:Int):=by unfold Gv;rw [hfi];rfl
     rw [hi,AK A1]at h⊢;rw [W0,My,B3 h1,ia];obtain ⟨r,hr,I⟩:=Z2.1 (oe h1);generalize ((CR rs q).filterMap (prQ rs q))[i]=p at h2 I;have h4:=(Fp K _ _).1 (VP I).2
     unfold HV at h2;rw [Fl]at h2;have bn:prQ rs q y=some ⟨y,p.r⟩:=by
      unfold prQ;rw [(Fp K (Bn y q.bq) p.r).2 ⟨h4.1,h4.2.1,h2⟩];rfl
     rw [e1,eN,uH];· simp [bn]
     · intro x hx
       obtain ⟨r9,cO,cu⟩:=Z2.1 hx;rw [(VP cu).1];exact hA r9 cO
     · intro x hx
       obtain ⟨r9,cO,cu⟩:=Z2.1 hx;rw [(VP cu).1];exact hB r9 cO
theorem di(B:BJ q)(G:BQ rs)(m:GR rs c)(I:Cq q c=true)(h:(Bu q c (Cf rs q)).2=true):(Bu q c (Cf rs q)).1=Cf (EK rs c) q:=by
 by_cases g:q.kd=7
 · exact Yo B G m g I h
 · exact Yp B G m g I h
def FY(q:QM)(base:Int):Nat->CE×Int->List BN->Option (CE×Int)
 |_,st,[]=>some st
 |i,st,x::l=>if(BX q st.1 x.cs).2.2=true/\base<=9223372036854775806 -(i:Int)/\x.p=base+1+(i:Int)then FY q base (i+1) ((BX q st.1 x.cs).1,if(BX q st.1 x.cs).2.1 then x.p else st.2) l else none
theorem Ld(q:QM)(base:Int):∀(a:List BN) (i:Nat) (st:CE×Int) (b:List BN),FY q base i st (a++b)=(FY q base i st a).bind fun g=>FY q base (i+a.length) g b
 |[],i,st,b=>rfl
 |x::a,i,st,b=>by
  show(if(BX q st.1 x.cs).2.2=true/\base<=9223372036854775806 -(i:Int)/\x.p=base+1+(i:Int)then FY q base (i+1) _ (a++b)else none)=(if(BX q st.1 x.cs).2.2=true/\base<=9223372036854775806 -(i:Int)/\x.p=base+1+(i:Int)then FY q base (i+1) _ a else none).bind _;split;· rw [Ld q base a (i+1) _ b,DG,show i+(a.length+1)=i+1+a.length by omega]
  · rfl
theorem J9{base:Int}{st g:CE×Int}{l:List BN}{k:Nat}{x:BN}(h:FY q base 0 st (l.take k)=some g)(hx:l[k]?=some x):FY q base 0 st (l.take (k+1))=if(BX q g.1 x.cs).2.2=true/\base<=9223372036854775806 -(k:Int)/\x.p=base+1+(k:Int)then some ((BX q g.1 x.cs).1,if(BX q g.1 x.cs).2.1 then x.p else g.2)else none:=by
 have m:=(BE.1 hx).1;rw [Bi hx,Ld,h,C3,Pc A1,D0];rfl
theorem MZ{base:Int}{st:CE×Int}{l:List BN}{k:Nat}(h:FY q base 0 st (l.take k)=none):FY q base 0 st l=none:=by
 rw [<-Iv k l,Ld,h];rfl
def BC(q:QM)(r:CE)(base:Int)(l:List BN):CE×Int×Bool:=match FY q base 0 (r,base) l with
 |some st=>(st.1,st.2,true)
 |none=>(CE.none,0,false)
theorem MO{r:CE}{cs:List Chg}(h:(BX q r cs).2.2=true):Hr q r cs=some (BX q r cs).1/\(BX q r cs).2.1=cs.any (Dh q):=by
 unfold BX at*;split at h;· rename_i h9;rw [h9];exact ⟨rfl,rfl⟩
 · cases h
theorem Od{q:QM}{base:Int}:∀(l:List BN) (i:Nat) (st st':CE×Int) (B:Int) (n:Nat),FY q base i st l=some st'->(∀x∈l,x.cs.length<=1000)->(-B<=st.1.val/\st.1.val<=B)->0<=B->st.1.rows.length<=n->(-(B+2000000000000*(l.length:Int))<=st'.1.val/\st'.1.val<=B+2000000000000*(l.length:Int))/\st'.1.rows.length<=n+2000*l.length
 |[],i,st,st',B,n,h,hl,h1,h2,h3=>by
  unfold FY at h;injection h with h
  subst h;simp only [KK];exact ⟨⟨by omega,by omega⟩,h3⟩
 |x::l,i,st,st',B,n,h,hl,h1,h2,h3=>by
  unfold FY at h;split at h
  · rename_i h9
    have G:=Wv _ _ _ B n (MO h9.1).1 h1 h2 h3;have I:=hl x B0
    have m:=Od l (i+1) _ st' (B+2000000000000) (n+2000) h (fun y hy=>hl y (by simp [hy])) ⟨by simp only;omega,by simp only;omega⟩ A1 (by simp only;omega);rw [DG];obtain ⟨⟨J,K⟩,g⟩:=m;refine ⟨⟨?_,?_⟩,by omega⟩<;>(push_cast;omega)
  · cases h
set_option maxHeartbeats 1000000 in
theorem Qa(q:QM)(hq:BJ q)(base:Int)(hb:-9223372036854775808<=base/\base<=9223372036854775807){l:List BN}{lv:Value}{ML:List AA}(hL:EZ ML lv l)(l5:l.length<=1000)(O:∀x∈l,x.cs.length<=1000){r:CE}{rv:Value}{A:List AA}(hr:Db A rv r.rows)(hn:r.rows.length<=1000000)(hv:-1000000000000000000<=r.val/\r.val<=1000000000000000000):Ba prog 70 #[.agg q.A59,.agg #[rv,I4 r.val,.bool r.fnd],I4 base,lv] [A,ML] (fun w H'=>∃Z s',w= .tuple #[.agg #[Z,I4 (BC q r base l).1.val,.bool (BC q r base l).1.fnd],I4 (BC q r base l).2.1,.bool (BC q r base l).2.2]/\Bc 5 71 Z (BC q r base l).1.rows.length (Ae (BC q r base l).1.rows) s'/\H'=[s',A,ML]):=by
 have l9:=mL;obtain ⟨pv,cv,rfl,_⟩:=id hr;obtain ⟨pl,ic,rfl,⟨l8,kv⟩,cO⟩:=id hL;refine Se func70 ntmps70 [0,1,2,3] ?_;intro u R;refine A0<|Ze (Bx q.A59)<|AE fun bq=>Ze (Bx #[.slice pv r.rows.length cv,I4 r.val,.bool r.fnd])<|AE fun br=>Ze (Al GC #[_,_,_])<|AE fun bo=>Za Y<|A3 Y<|A0<|Zm Y<|A3 Y<|A0<|Zh 0 CD V rfl C6 Y<|Zl F1 Y<|Zc [_] Y call90 Y V (Gj hr A1) ?_;rintro _ _ ⟨_,⟨s1,h1,rfl⟩,rfl⟩;obtain ⟨g1,c1,rfl⟩:=h1.form;refine Zh 0 CD V rfl C6 Y<|Xe (Zs C6 Y Y V (hi:=by(simp;done)))<|A5<|Zq<|A0<|Zm Y<|Zv (AY Fo Y)<|Zm Y<|Z0<|Zn [2,4,5,8,11,22,23,24] ?_;refine Zx<|AR<|Zb [11,24,2,4,5,8,22,23] ?_;refine BA (e0:=[(11,_),(24,_)]) (fun m e H=>∃(k:Nat) (g:CE×Int) (gk:Option Addr) (ck:Nat) (sk:List AA),m=l.length -k/\(k<=l.length/\FY q base 0 (r,base) (l.take k)=some g/\Bc 5 71 (.slice gk g.1.rows.length ck) g.1.rows.length (Ae g.1.rows) sk)/\e=[(11,I4 g.2),(24,I4 (k:Int))]/\H=[[(br,.cells #[.slice gk g.1.rows.length ck,I4 g.1.val,.bool g.1.fnd] 53 (0,0))],sk]) (by exact ⟨0,(r,base),g1,c1,s1,rfl,⟨C0 _,by rw [ID];rfl,h1⟩,rfl,rfl⟩) Wp ?_;rintro _ _ _ ⟨k,g,gk,ck,sk,rfl,⟨hk,B,X⟩,rfl,rfl⟩;obtain ⟨gq,gm⟩:=Od (l.take k) 0 (r,base) g 1000000000000000000 1000000 B (fun x hx=>O x (P0 hx)) hv A1 hn;have d9:(l.take k).length=k:=by rw [C3];omega
 rw [d9]at gq gm;have cu:=DU X A1
 refine A0<|Zv (Au Y Y)<|A5<|Zq<|Aq Y (fun W=>?_) (fun W=>?_);·
  obtain ⟨x,hx⟩:∃x,l[k]?=some x:=⟨_,B3 W⟩;have gB:=O x (DE hx)
  obtain ⟨bg,g2,j5,K,T2,gF,rfl,gy,j3,U⟩:=cO k x hx;refine AC<|Zx<|Zq<|AR<|A0<|Zm Y<|Bb (Ac Fo F0 Y Y A1)<|CS (cs:=[(g2,.cells K T2 gF)]) (by simp [gy]) (A9 (cs:=#[_,_]) HX F0 Y A1 U) V rfl<|Ze (Al Sx #[_,_])<|AE fun bx=>Za Y<|Xe (Xw F0 #[I4 x.p,.slice x.q x.cs.length x.cap])<|A5<|A0<|Zo Wh (A9 (cs:=#[_,_,_,_,_,_,_]) Dd C7 Y As AN)<|Zo Wh (A9 (cs:=#[_,_,_]) Bk Ax Y As AN)<|Zo Wh (A9 (cs:=#[_,_]) HX F0 Y As AN)<|Zc [_,_,_] Y call43 Y V (JO q hq x.p x.q x.cap x.cs bg gB cu A1 A1) ?_;rintro _ _ ⟨_,⟨lw,s3,rfl,h3,rfl⟩,rfl⟩;obtain ⟨g3,c3,rfl⟩:=h3.form;refine Zm Y<|Zd Y V<|Zd Y V<|Zd Y V<|Ze (Al GC #[_,_,_])<|AE fun bn=>Xe (Xw Ax #[.slice g3 (BX q g.1 x.cs).1.rows.length c3,I4 (BX q g.1 x.cs).1.val,.bool (BX q g.1 x.cs).1.fnd])<|Za Y<|AG Y<|Zn [2,4,5,8,11,12,13,14,15,16,22,23,24] ?_;refine Zx<|Zq<|A0<|Zm Y<|Zv (Br Y)<|Zm Y<|Af (t:=39) Y V (fun J=>?_) (fun J=>?_);·
   have I:(BX q g.1 x.cs).2.2=false:=by simpa using J
   refine A7 Y V<|A7 Y V<|A7 Y V<|A7 Y V<|Zv (AQ Y Y)<|Zm Y<|A7 Y V<|A7 Y V<|A7 Y V<|A7 Y V<|A7 Y V<|A7 Y V<|A7 Y V<|Zv (AQ Y Y)<|Z0<|Zn [2,4,5,8,11,13,14,15,22,23,24,53] ?_;refine Zx<|CW Y<|Zq<|BU ?_;have G:BC q r base l=(CE.none,0,false):=by unfold BC;rw [MZ (k:=k+1) (by rw [J9 B hx,AK (by(rw [I];rintro ⟨h,_⟩;cases h;done))])]
   refine Zg<|Zv (BM (vs:=[]) (cs:=#[_,_,_]) Y (AZ (pl:=#[(0,1),(1,1),(2,1)]) GC CD (fun _=>by kernel_rfl) rfl))<|Xe (Xw Ax _)<|Za Y<|A3 Y<|AJ<|Zt<|Ad<|Zt<|Zt<|Ad<|Zt<|Hz rfl results70 Y Wh (Am Bk Ax Wn (rfl)) Y Y (by exact ⟨.slice none 0 0,[],by rw [G];rfl,by rw [G];exact Bf 5 _,rfl⟩)
  have I:(BX q g.1 x.cs).2.2=true:=by simpa using J
  refine Zf Y Y<|Zf Y Y<|Gu Y (CO (m:=9223372036854775806) Y Y A1 A1) V rfl ?_;refine Yg (Ev Y Y)<|Zv (AL Y Y)<|Zm Y<|Aj (t:=45) Y V (fun af=>?_) (fun af=>?_);·
   refine A7 Y V<|A7 Y V<|A7 Y V<|A7 Y V<|A7 Y V<|A7 Y V<|A7 Y V<|Zv (AQ Y Y)<|Z0<|Zn [2,4,5,8,11,13,14,15,22,23,24,53] ?_;refine Zx<|CW Y<|Zq<|BU ?_;have G:BC q r base l=(CE.none,0,false):=by unfold BC;rw [MZ (k:=k+1) (by rw [J9 B hx,AK (by(rintro ⟨_,h8,h9⟩;omega))])]
   refine Zg<|Zv (BM (vs:=[]) (cs:=#[_,_,_]) Y (AZ (pl:=#[(0,1),(1,1),(2,1)]) GC CD (fun _=>by kernel_rfl) rfl))<|Xe (Xw Ax _)<|Za Y<|A3 Y<|AJ<|Zt<|Ad<|Zt<|Zt<|Ad<|Zt<|Hz rfl results70 Y Wh (Am Bk Ax Wn (rfl)) Y Y (by exact ⟨.slice none 0 0,[],by rw [G];rfl,by rw [G];exact Bf 5 _,rfl⟩)
  refine Yf 0 G3 V rfl A4 Y<|Yl AD Y<|Zf Y Y<|Gu Y (He Y Y (IntWalk.i64_in _ A1)) V rfl ?_;refine Zf Y Y<|Gu Y (He Y Y (IntWalk.i64_in _ A1)) V rfl ?_;refine Yg (GG Y Y)<|Zv (AL Y Y)<|Z0<|Zn [2,4,5,8,11,13,14,15,22,23,24,53] ?_;refine Zx<|Aq Y (fun ax=>?_) (fun ax=>?_);·
   refine Zq<|BU ?_;have G:BC q r base l=(CE.none,0,false):=by unfold BC;rw [MZ (k:=k+1) (by rw [J9 B hx,AK (by(rintro ⟨_,h8,h9⟩;omega))])]
   refine Zg<|Zv (BM (vs:=[]) (cs:=#[_,_,_]) Y (AZ (pl:=#[(0,1),(1,1),(2,1)]) GC CD (fun _=>by kernel_rfl) rfl))<|Xe (Xw Ax _)<|Za Y<|A3 Y<|AJ<|Zt<|Ad<|Zt<|Zt<|Ad<|Zt<|Hz rfl results70 Y Wh (Am Bk Ax Wn (rfl)) Y Y (by exact ⟨.slice none 0 0,[],by rw [G];rfl,by rw [G];exact Bf 5 _,rfl⟩)
  refine AC<|Zx<|A0<|Zo Wh (A9 (cs:=#[_,_,_]) Bk Ax Y As AN)<|Xe (BL Ax Y Y HK Wu AN E6 As (by exact BB _))<|A5<|A0<|Zm Y<|A5<|AX Y (fun ht=>?_) (fun ht=>?_);·
   refine Zg<|Zh 0 G3 V rfl A4 Y<|Zl AD Y<|AG Y<|A8<|Zx<|Zg<|Ya (n:=1) Y Y<|Zm Y<|Z0<|Zn [11,24,2,4,5,8,22,23] ?_;refine Ab (e':=[(11,_),(24,_)]) (by exact ⟨k+1,((BX q g.1 x.cs).1,x.p),g3,c3,s3,rfl,⟨by omega,by rw [J9 B hx,AM ⟨I,by omega,by omega⟩,ht];rfl,h3⟩,rfl,rfl⟩)
  refine AC<|A8<|Zx<|Zg<|Ya (n:=1) Y Y<|Zm Y<|Z0<|Zn [11,24,2,4,5,8,22,23] ?_;refine Ab (e':=[(11,_),(24,_)]) (by exact ⟨k+1,((BX q g.1 x.cs).1,g.2),g3,c3,s3,rfl,⟨by omega,by rw [J9 B hx,AM ⟨I,by omega,by omega⟩,ht];rfl,h3⟩,rfl,rfl⟩)
 have ek:k=l.length:=by omega
 subst ek;rw [GB]at B;have G:BC q r base l=(g.1,g.2,true):=by unfold BC;rw [B]
 refine Ay<|Zt<|Zt<|AU<|Zx<|A0<|Zo Wh (A9 (cs:=#[_,_,_]) Bk Ax Y As AN)<|Zm Y<|Xe (Xw Ax _)<|Za Y<|A3 Y<|AJ<|Hz rfl results70 Y Wh (Am Bk Ax Wn (rfl)) Y Y (by exact ⟨.slice gk _ ck,sk,by rw [G];rfl,by rw [G];exact X,rfl⟩)
theorem jr(B:BJ q)(G:BQ rs)(m:GR rs c)(g:c.ok)(h:(D6 q c (Cf rs q)).2=true):(D6 q c (Cf rs q)).1=Cf (EK rs c) q:=by
 unfold D6 at h⊢;cases ht:Dh q c with
 |false=>
  rw [AK AH];unfold Dh at ht;rw [Cp g,Tr]at ht;exact (uO B m ht).symm
 |true=>
  rw [ht,AM rfl]at h;rw [AM rfl];unfold Dh at ht;rw [F2]at ht;split at h
  · rename_i h9
    rw [AM h9];exact di B G m ht.2 h9
  · cases h
theorem VC{q:QM}(G:BJ q){rs:List AV}{cs:List Chg}(I:BQ rs)(m:yQ cs)(B:∀c∈cs,GR rs c)(g:∀c∈cs,c.ok):∀i,i<=cs.length->∀r,Hr q (Cf rs q) (cs.take i)=some r->r=Cf (DN rs (cs.take i)) q
 |0,_,r,h=>by
  rw [ID]at h⊢;injection h with h
  exact h.symm
 |i+1,hi,r,h=>by
  obtain ⟨c,hc⟩:∃c,cs[i]?=some c:=⟨_,B3 A1⟩;obtain ⟨J,h2⟩:=KN I m B i A1;cases hr:Hr q (Cf rs q) (cs.take i)with
  |none=>
   have:=Pt (cs:=cs.take (i+1)) (k:=i) (q:=q) (r:=Cf rs q) (by rw [To,Pc A1];exact hr);rw [this]at h;cases h
  |some rk=>
   have e:=VC G I m B g i A1 rk hr;rw [K5 hr hc,e]at h;split at h
   · rename_i h9
     injection h with h
     rw [<-h,EO rs cs i c hc];exact jr G J (h2 i c (CM _) hc) (g c (DE hc)) h9
   · cases h
theorem pI(g:BJ q){p rp:Int}{cs:List Chg}(B:BQ rs)(h:KU rs p rp cs){r:CE}(m:Hr q (Cf rs q) cs=some r):r=Cf (DN rs cs) q:=by
 have:=VC g B (UC h.ok.ord) h.fit (fun c hc=>by obtain ⟨i,hi⟩:=GW hc;exact h.ok.all i c hi) cs.length (CM _) r (by rw [GB];exact m);rwa [GB]at this
def Rk(q:QM)(x:BN):Bool:=x.cs.any (Dh q)
structure vI(q:QM)(l:List BN)(base k:Nat)(s:Int):Prop where
 le:(base:Int)<=s/\s<=((base+k:Nat):Int)
 at_:s≠(base:Int)->∃(j:Nat) (x:BN),(j:Int)+1=s/\l[j]?=some x/\Rk q x=true
 no:∀(j:Nat) (x:BN),s<=(j:Int)->j<base+k->l[j]?=some x->Rk q x=false
theorem Pq{q:QM}(O:BJ q){l:List BN}(G:FB l){base:Nat}(hb:base<=l.length):∀k,base+k<=l.length->∀st,FY q (base:Int) 0 (Cf (BZ (l.take base)) q,(base:Int)) ((l.drop base).take k)=some st->st.1=Cf (BZ (l.take (base+k))) q/\vI q l base k st.2
 |0,_,st,h=>by
  rw [ID]at h;injection h with h
  subst h;exact ⟨V,⟨by simp only;omega,fun h=>absurd V h,fun j x m h2=>by simp only at m;omega⟩⟩
 |k+1,hk,st,h=>by
  obtain ⟨x,hx⟩:∃x,l[base+k]?=some x:=⟨_,B3 A1⟩;have I:(l.drop base)[k]?=some x:=by rw [NO];exact hx
  obtain ⟨K,_⟩:=G _ x hx;have hp:x.p=((base+k:Nat):Int)+1:=K.pos
  cases hr:FY q (base:Int) 0 (Cf (BZ (l.take base)) q,(base:Int)) ((l.drop base).take k)with
  |none=>
   have:=MZ (l:=(l.drop base).take (k+1)) (k:=k) (q:=q) (base:=(base:Int)) (st:=(Cf (BZ (l.take base)) q,(base:Int))) (by rw [To,Pc A1];exact hr);rw [this]at h;cases h
  |some sk=>
   obtain ⟨e1,e2⟩:=Pq O G hb k A1 sk hr;rw [J9 hr I]at h;split at h
   · rename_i h9
     injection h with h
     subst h;have B:=MO h9.1
     have m:=(G.rows (base+k) A1).1;rw [e1]at B;refine ⟨?_,?_⟩
     · have:=pI O m K B.1
       rw [show base+(k+1)=base+k+1 by omega,Bi hx,Gi,<-this,e1]
     · have hT:(BX q sk.1 x.cs).2.1=Rk q x:=by rw [e1];exact B.2
       simp only [hT];obtain ⟨⟨a1,U⟩,W,X⟩:=e2;cases ht:Rk q x with
       |true=>
        simp only [HR];refine ⟨by omega,fun _=>⟨base+k,x,hp.symm,hx,ht⟩,fun j y J Z=>by omega⟩
       |false=>
        simp only [MA,HF];refine ⟨by push_cast at U⊢;omega,W,fun j y J Z g=>?_⟩;rcases E0 j (base+k)with h8|h8
        · exact X j y J h8 g
        · obtain rfl:j=base+k:=by omega
          rw [hx]at g;injection g with g
          rw [<-g];exact ht
   · cases h
theorem Yn(g:1<=q.kd/\q.kd<=4)(c:Chg)(r:CE):(D6 q c r).2=true:=by
 have:(Bu q c r).2=true:=by
  unfold Bu;split;· rfl
  · split
    · rfl
    · rw [AM A1]
 unfold D6;rw [AM this];split<;>rfl
theorem SF{q:QM}(g:1<=q.kd/\q.kd<=4):∀(cs:List Chg) (r:CE),∃m,Hr q r cs=some m
 |[],r=>⟨r,rfl⟩
 |c::cs,r=>by
  unfold Hr;rw [AM (Yn g c r)];exact SF g cs _
abbrev Bs:=List UInt8
def ZC(s:Bs):Bs:=sha (0::s)
def JI(a b:Bs):Bs:=sha (1::(a++b))
def DZ(n:Nat):Nat:=2^Nat.log2 (n -1)
theorem P9(n:Nat):0<DZ n:=cY _
variable{n:Nat}
theorem PD(h:2<=n):DZ n<n:=by
 have:=Nat.log2_self_le (n:=n -1) A1;unfold DZ;omega
theorem xI{e:Nat}(g:2^e<n)(h2:n<=2^(e+1)):DZ n=2^e:=by
 unfold DZ;congr 1;refine (Nat.log2_eq_iff (by have:=cY e;omega)).2 ⟨by omega,by omega⟩
def Dl(l:List Bs):Bs:=
 if h:2<=l.length then JI (Dl (l.take (DZ l.length))) (Dl (l.drop (DZ l.length)))
 else match l with
  |[]=>sha []
  |x::_=>ZC x
termination_by l.length
decreasing_by
 · have:=PD h;rw [C3];omega
 · have:=P9 l.length;rw [C2];omega
theorem pu:Dl []=sha []:=by rw [Dl];rfl
theorem pY(x:Bs):Dl [x]=ZC x:=by rw [Dl];rfl
variable{l:List Bs}
theorem kN(h:2<=l.length):Dl l=JI (Dl (l.take (DZ l.length))) (Dl (l.drop (DZ l.length))):=by
 rw [Dl,dif_pos h]
theorem VH{a b:List Bs}{e:Nat}(g:a.length=2^e)(h0:0<b.length)(B:b.length<=2^e):Dl (a++b)=JI (Dl a) (Dl b):=by
 have G:=cY e;have m:DZ (a++b).length=a.length:=by
  rw [g];exact xI (by rw [B7];omega) (by rw [B7,eo];omega)
 rw [kN (by rw [B7];omega),m,HM,W3];· rfl
 · rfl
structure JU(ps:List (List Bs)):Prop where
 pow:∀p∈ps,∃e,p.length=2^e
 lt:ps.Pairwise (fun a b=>b.length<a.length)
theorem um:JU []:=⟨by simp,.nil⟩
theorem qU{a b:Nat}(h:2^a<2^b):2*2^a<=2^b:=by
 have:=(Nat.pow_lt_pow_iff_right (a:=2) A1).1 h
 calc 2*2^a=2^(a+1):=by rw [eo];omega
  _<=2^b:=Nat.pow_le_pow_right A1 this
variable{p:List Bs}{ps:List (List Bs)}
theorem JU.tail(h:JU (p::ps)):JU ps:=⟨fun q g=>h.pow q (by simp [g]),(PC.1 h.lt).2⟩
theorem JU.init(h:JU (ps++[p])):JU ps:=⟨fun q g=>h.pow q (by simp [g]),(P2.1 h.lt).1⟩
theorem JU.sum:∀{ps:List (List Bs)} {e:Nat},JU ps->(∀p∈ps,p.length<2^e)->ps.flatten.length<2^e
 |[],e,_,_=>by simpa using cY e
 |p::ps,e,h,hl=>by
  obtain ⟨e1,g⟩:=h.pow p B0;have h2:=hl p B0
  rw [g]at h2;have B:=qU h2
  have G:=JU.sum (e:=e1) h.tail (fun q m=>by rw [<-g];exact (PC.1 h.lt).1 q m);rw [CA,B7,g];omega
theorem JU.nonempty(h:JU ps)(hn:ps≠[]):0<ps.flatten.length:=by
 cases ps with
 |nil=>exact absurd rfl hn
 |cons p ps=>
  obtain ⟨e,g⟩:=h.pow p B0;have:=cY e
  rw [CA,B7];omega
theorem JU.root:∀{ps:List (List Bs)} {q:List Bs},JU (ps++[q])->ps.foldr (fun p o=>JI (Dl p) o) (Dl q)=Dl (ps.flatten++q)
 |[],q,_=>by simp
 |p::ps,q,h=>by
  rw [List.foldr_cons,JU.root (ps:=ps) (q:=q) h.tail,CA,Cd];obtain ⟨e,m⟩:=h.pow p B0;have G:(ps++[q]).flatten=ps.flatten++q:=by simp
  have B:JU (ps++[q]):=h.tail;have g:0<(ps++[q]).flatten.length:=JU.nonempty B B0
  have h2:=JU.sum (e:=e) B (fun r I=>by rw [<-m];exact (PC.1 h.lt).1 r I);rw [G]at g h2;exact (VH m g A1).symm
structure OB(ls:List Bs)(ps:List (List Bs))(q:List Bs)(i:Nat):Prop where
 bin:JU ps
 pow:∃e,q.length=2^e
 le:∀p∈ps,q.length<=p.length
 flat:ps.flatten++q=ls.take i
variable{ls:List Bs}{i:Nat}
theorem lU{s:Bs}(h:JU ps)(m:ps.flatten=ls.take i)(G:ls[i]?=some s):OB ls ps [s] (i+1):=
 ⟨h,⟨0,rfl⟩,fun p B=>by
   obtain ⟨e,g⟩:=h.pow p B;have:=cY e
   rw [g];simp;omega,by rw [PF,G,m];rfl⟩
theorem OB.step{q:List Bs}(h:OB ls (ps++[p]) q i)(e:p.length=q.length):OB ls ps (p++q) i/\Dl (p++q)=JI (Dl p) (Dl q):=by
 obtain ⟨e1,g⟩:=h.pow;have I:=cY e1
 refine ⟨⟨h.bin.init,⟨e1+1,by rw [B7,e,g,eo];omega⟩,?_,?_⟩,VH (e.trans g) A1 A1⟩
 · intro r B
   obtain ⟨e2,h2⟩:=h.bin.pow r (by simp [B]);have m:=(P2.1 h.bin.lt).2.2 r B p B0
   rw [e,g,h2]at m;have G:=qU m
   rw [B7,e,g,h2];omega
 · rw [<-h.flat];simp
theorem OB.done{q:List Bs}(h:OB ls ps q i)(I:∀m p,ps=m++[p]->p.length≠q.length):JU (ps++[q])/\(ps++[q]).flatten=ls.take i:=by
 refine ⟨⟨?_,?_⟩,by rw [<-h.flat];simp⟩
 · intro r B
   rcases B9.1 B with B|B
   · exact h.bin.pow r B
   · rw [BT]at B
     subst B;exact h.pow
 · rw [P2]
   refine ⟨h.bin.lt,List.pairwise_singleton _ _,?_⟩;intro a g b J;rw [BT]at J;subst J;rcases gn ps with rfl|⟨m,p,rfl⟩
   · simp at g
   · have K:=I m p B0
     have h2:=h.le p B0;have G:=h.bin.lt
     simp only [nq]at g G;rw [P2]at G;rcases B9.1 g with g|g
     · have:=G.2.2 a g p B0
       omega
     · rw [BT]at g
       subst g;omega
variable{cur:Array Value}{xs:List Value}
theorem wF(h:cur.toList.take xs.length=xs){x:Value}(hx:xs[i]?=some x):cur[i]?=some x:=by
 have g:=(BE.1 hx).1;rw [<-h,HC,AM g,HH]at hx;exact hx
theorem uC(ps:List (List Bs))(o:Bs):(ps.map Dl).reverse.foldl (fun o r=>JI r o) o=ps.foldr (fun p o=>JI (Dl p) o) o:=by
 rw [List.foldl_reverse,List.foldr_map]
def EN(M:List AA)(v:Value)(ls:List Bs):Prop:=∃p cap,v= .slice p ls.length cap/\(ls.length<=maxLen/\ls.length<=cap)/\∀(i:Nat) (s:Bs),ls[i]?=some s->∃g off cur T zz,p=some ⟨g,off,none⟩/\(g,Obj.cells cur T zz)∈M/\cur[off+i]?=some (GH s)
def rtV(p:List Bs):Value:=GH (Dl p)
def lnV(p:List Bs):Value:=I4 ((p.length:Nat):Int)
variable{e:TypeId}{s:List AA}
theorem Pw{sz:Nat}{b:Option Addr}{c:Nat}(h:Bc sz e (.slice b n c) n xs s)(k:Nat)(B:k<=n):Bc sz e (.slice b k c) k (xs.take (k*sz)) s:=by
 obtain ⟨G,h⟩:=h;refine ⟨by rw [C3,G,Pc (TO _ B)],?_⟩;rcases h with⟨m,rfl,rfl⟩|⟨g,cap',cur,z,m,rfl,h2,h3,h4,h5,h6⟩
 · injection m with e1 e2 e3
   subst e1 e3;obtain rfl:k=0:=by omega
   exact .inl ⟨V,V,V⟩
 · injection m with e1 e2 e3
   subst e1 e3;refine .inr ⟨g,c,cur,z,V,V,by omega,h3,h4,?_,h6⟩;rw [<-h5,To,Pc (TO _ B)]
variable{v:Value}
theorem Le(h:Bc 1 e v n xs s)(h0:0<n):∃g cap cur z,v=I6 g n cap/\s=[(g,.cells cur e z)]/\n<=cap/\∀(i:Nat) (x:Value),xs[i]?=some x->cur[i]?=some x:=by
 obtain ⟨I,⟨_,B,_⟩|⟨g,m,cur,z,B,rfl,h2,J,K,G,O⟩⟩:=h;· omega
 · rw [<-I]at G
   exact ⟨g,m,cur,z,B,V,h2,fun i x hx=>wF G hx⟩
variable{M:List AA}
theorem EN.mono{m:List AA}(h:EN M v ls)(J:∀c∈M,c∈m):EN m v ls:=by
 obtain ⟨p,cap,e,I,G⟩:=h;refine ⟨p,cap,e,I,fun i s K=>?_⟩;obtain ⟨g,off,cur,T,zz,e1,B,h2⟩:=G i s K;exact ⟨g,off,cur,T,zz,e1,J _ B,h2⟩
theorem Gg(h:Bc 1 e v ls.length (ls.map GH) s)(hn:ls.length<=maxLen):EN s v ls:=by
 rcases PB ls.length with h0|h0
 · obtain ⟨b,cap,rfl⟩:=h.form
   exact ⟨b,cap,rfl,⟨hn,by omega⟩,fun i s m=>by rw [Lw h0]at m;simp at m⟩
 · obtain ⟨g,cap,cur,z,rfl,rfl,B,G⟩:=Le h h0
   refine ⟨_,cap,V,⟨hn,B⟩,fun i s m=>⟨g,0,cur,e,z,V,by simp,?_⟩⟩;rw [D0];exact G i _ (by rw [DO,m];rfl)
theorem Li(l:List Bs):(Dl l).length=32:=by
 rw [Dl];split;· exact Ws _
 · split<;>exact Ws _
theorem lq(s:Bs)(I:s.length<=140737488354000)(g:TypeId)(G:Nat×Nat):BH prog 237 #[.string (str s)] [[(4,.cells (Et.map Cs).toArray g G)]] (.string (str (ZC s))):=by
 refine Se func237 ntmps237 [0] ?_;intro u R;refine A0<|A3 Y<|A0<|Zc [_] Y call265 Y V (Qm (str [0])) ?_;rintro _ _ ⟨_,⟨B,rfl,rfl⟩,rfl⟩;refine Zm Y<|Ze (Ah (vs:=[_]) (cs:=[_]) D2 Fi HT Y V rfl V rfl V)<|AE fun m=>Xr [_] Y call299 Y V (M5 m 0 1 B #[GH s] _ _ _ _ [s] [0] V B0 B0 Hh _ _)<|A3 Y<|AJ<|AO V results237 Y (by exact ⟨by simp [ZC],V⟩)
theorem Vh(a b:Bs)(I:a.length<=1000000000)(J:b.length<=1000000000)(g:TypeId)(G:Nat×Nat):BH prog 238 #[.string (str a),.string (str b)] [[(4,.cells (Et.map Cs).toArray g G)]] (.string (str (JI a b))):=by
 refine Se func238 ntmps238 [0,1] ?_;intro u R;refine A0<|A3 Y<|A0<|Zc [_] Y call265 Y V (Qm (str [1])) ?_;rintro _ _ ⟨_,⟨B,rfl,rfl⟩,rfl⟩;refine Zm Y<|Zm Y<|Ze (Ah (vs:=[_,_]) (cs:=[_,_]) D2 Fi HT Y V rfl V rfl V)<|AE fun m=>Xr [_] Y call299 Y V (M5 m 0 2 B #[GH a,GH b] _ _ _ _ [a,b] [1] V B0 B0 Hh _ _)<|A3 Y<|AJ<|AO V results238 Y (by exact ⟨by simp [JI],V⟩)
def bwd{α:Type} [Inhabited α](ls:List α):List (Nat×α):=(List.range ls.length).reverse.map (fun i=>(i,ls.getD i default))
theorem Xj [Inhabited α](ls:List α):(bwd ls).length=ls.length:=by simp [bwd]
theorem iA [Inhabited α]{ls:List α}{m:Nat}{s:α}(h:ls[m]?=some s):(bwd ls)[ls.length -(m+1)]?=some (m,s):=by
 have g:=(BE.1 h).1;unfold bwd;rw [DO,List.getElem?_reverse Hh,cG,Z1 A1];rw [show ls.length -1 -(ls.length -(m+1))=m by omega];simp [List.getD,h]
theorem Mt [Inhabited α](ls:List α):(bwd ls).map Prod.snd=ls.reverse:=by
 apply MT;intro i;by_cases hi:i<ls.length
 · have g:ls[ls.length -1 -i]?=some (ls[ls.length -1 -i]'A1):=B3 _
   have h2:=iA g;rw [show ls.length -(ls.length -1 -i+1)=i by omega]at h2;rw [DO,h2,List.getElem?_reverse hi,g];rfl
 · rw [Lz (by rw [B4,Xj];omega),Lz Hh]
theorem yB [Inhabited α]{ls:List α}{x:Nat×α}(h:x∈bwd ls):x.2∈ls:=by
 have g:x.2∈(bwd ls).map Prod.snd:=Bm.2 ⟨x,h,rfl⟩;rw [Mt,ee]at g;exact g
theorem OT{xs:List α}{j:Nat}{x:α}(h:xs[j]?=some x):xs=xs.take j++x::xs.drop (j+1):=by
 have g:=(BE.1 h).1;rw [B3 g]at h;injection h with h
 rw [<-h,<-RK g,Iv]
theorem uE(xs:List Bs)(q:Bs):(bwd xs).foldl (fun o (x:Nat×Bs)=>JI x.2 o) q=xs.reverse.foldl (fun o r=>JI r o) q:=by
 rw [<-Mt,List.foldl_map]
theorem Wi(f:List α->Value)(ps:List (List α))(p q:List α):(((ps++[p])++[q]).map f)[(ps++[p]).length+1 -2]?=some (f p)/\(((ps++[p])++[q]).map f)[(ps++[p]).length+1 -1]?=some (f q):=by
 have e:(ps++[p]).length=ps.length+1:=by simp
 constructor;· rw [show(ps++[p]).length+1 -2=ps.length by omega];simp
 · rw [show(ps++[p]).length+1 -1=ps.length+1 by omega];simp
theorem Y7(f:List α->Value)(ps:List (List α))(p q:List α):(((ps++[p])++[q]).map f).take (((ps++[p]).length+1 -2)*1)=ps.map f:=by
 rw [show((ps++[p]).length+1 -2)*1=(ps.map f).length by simp];simp
theorem xL(f:List α->Value)(ps:List (List α))(q:List α):((ps++[q]).map f)[(ps++[q]).length -1]?=some (f q):=by
 rw [show(ps++[q]).length -1=ps.length by simp];simp
theorem mD(f:List α->Value)(ps:List (List α))(q:List α):((ps++[q]).map f).take (((ps++[q]).length -1)*1)=ps.map f:=by
 rw [show((ps++[q]).length -1)*1=(ps.map f).length by simp];simp
theorem jI{ps:List α}(h:0<ps.length):∃g p,ps=g++[p]:=by
 rcases gn ps with rfl|⟨a,b,e⟩
 · simp at h
 · exact ⟨a,b,by rw [e,nq]⟩
theorem uD(xs:List (Nat×Bs))(q:Bs)(g:q.length=32):(xs.foldl (fun o (x:Nat×Bs)=>JI x.2 o) q).length=32:=by
 rcases gn xs with rfl|⟨ys,y,rfl⟩
 · exact g
 · rw [nq,Z3];exact Ws _
theorem Ul(p:Option Addr)(n c:Nat):Ba prog 240 #[.slice p n c] [] (fun r H'=>∃b,r= .func (.func 269) #[] #[I5 b]/\H'=[[(b,.cells #[.slice p n c] 45 (0,0))]]):=by
 refine Se func240 ntmps240 [0] ?_;intro u R;refine A0<|Ze (Bx #[_])<|AE fun b=>A3 Y<|A0<|Zv (Bg (vs:=[]) (us:=[_]) Y Y)<|A3 Y<|AJ<|AO V results240 Y (by exact ⟨_,V,V⟩)
theorem Um(hv:EN M v ls)(b:Nat)(hn:ls.length<=1000000000000):
 FC prog 269 #[I5 b] [[(b,.cells #[v] 45 (0,0))]] (fun s=>∀c∈M,c∈s) (fun x=>#[I4 ((x.1:Nat):Int),GH x.2]) (bwd ls):=by
 have af:=mL;obtain ⟨p,cap,rfl,hl,hg⟩:=hv;intro l J hA hy s B;refine Se func269 ntmps269 [0,1] ?_;intro u R;refine A0<|Zl Hc Y ?_;refine Zv (AY D2 Y) ?_
 (refine Bb (GL Y Y (IntWalk.i64_in _ ?_)) ?_;(focus (omega)))
 refine A3 Y<|AR<|Zb [3,0,1] ?_;refine BA (e0:=[(3,_)]) (fun m e H=>∃(k:Nat) (s:List AA),m=0+k/\(k<=ls.length/\J ((bwd ls).take (ls.length -k)) s)/\e=[(3,I4 ((k:Int) -1))]/\H=[[(b,.cells #[.slice p ls.length cap] 45 (0,0))],s]) (by exact ⟨ls.length,s,rfl,⟨CM _,by rw [W4,ID];exact B⟩,rfl,rfl⟩) Wp ?_;rintro _ _ _ ⟨k,s,rfl,⟨hk,B⟩,rfl,rfl⟩;refine Zq<|A0<|Zm Y<|Zv (Ha Y Y)<|A5<|Aq Y (fun X=>?_) (fun X=>?_);·
  obtain ⟨m,rfl⟩:∃m,k=m+1:=⟨k -1,by omega⟩;rw [show(((m+1:Nat):Int) -1)=((m:Nat):Int) by omega];obtain ⟨z9,O⟩:∃z9,ls[m]?=some z9:=⟨_,B3 A1⟩;have G:=iA O
  obtain ⟨g,o,cur,T,zz,rfl,hm,I⟩:=hg m z9 O;have K:=I
  have Z:=hy _ _ _ s (OT G) B;refine AC<|Zx<|Zq<|AR<|A0<|Zm Y<|Zm Y<|Zl Hc Y ?_;refine Zm Y<|Bb (CB D2 Fi Y Y A1)<|CS (cs:=[(g,.cells cur T zz)]) (by simp [hA _ s B _ hm]) (BP HQ Y K) V rfl ?_;refine Ze (GZ (vs:=[_,_]) Y Y (Z) Wp) ?_;rintro _ _ ⟨_,⟨s',rfl,rfl,U⟩,rfl⟩;refine Zv (Br Y)<|A5<|AX Y (fun hb=>by cases hb)<|fun hb=>AC<|A8<|Zx<|Zg<|Zm Y ?_
  (refine Bb (GL Y Y (IntWalk.i64_in _ ?_)) ?_;(focus (omega)))
  refine AG Y<|Zn [3,0,1] ?_;refine Ab (e':=[(3,_)]) (by exact ⟨m,s',rfl,⟨by omega,by rw [show ls.length -m=ls.length -(m+1)+1 by omega,Bi G];exact U⟩,rfl,rfl⟩)
 have W:k=0:=by omega
 subst W;rw [Sh,I2 (by rw [Xj];exact CM _)]at B;refine Ay<|Zt<|Zt<|AU<|Cw V results269 (by exact ⟨s,V,B⟩)
theorem Py(hv:EN M v ls)(hn:ls.length<=1000000)(hs:∀s∈ls,s.length<=140737488354000)(Tg:TypeId)(zg:Nat×Nat):BH prog 187 #[v] [[(4,.cells (Et.map Cs).toArray Tg zg)],M] (.string (str (Dl ls))):=by
 have sj:=mL;obtain ⟨p,cap,rfl,hl,hg⟩:=hv;refine DL func187 V ntmps187 V ?_;intro u R;refine Zb [0] ?_;refine A0<|A3 Y<|A0<|A3 Y<|A0<|A3 Y<|Zq<|A0<|Zm Y<|Zv (AY D2 Y)<|Zm Y<|A5<|AR<|BU<|BU<|Zb [3,4,13,11,12] ?_;refine BA (e0:=[(3,_),(4,_),(13,_)]) (fun m e H=>∃(i:Nat) (ps:List (List Bs)) (vw:Value) (sw:List AA) (vz:Value) (sz:List AA),m=ls.length -i/\(i<=ls.length/\JU ps/\ps.flatten=ls.take i/\Bc 1 9 vw ps.length (ps.map rtV) sw/\Bc 1 3 vz ps.length (ps.map lnV) sz/\ps.length<=i)/\e=[(3,vw),(4,vz),(13,I4 (i:Int))]/\H=[sw,sz]) (by exact ⟨0,[],.slice none 0 0,[],.slice none 0 0,[],V,⟨C0 _,um,V,Bf 1 _,Bf 1 _,CM _⟩,V,V⟩) Wp ?_;rintro _ _ _ ⟨i,ps,vw,sw,vz,sz,rfl,⟨hi,hB,hf,J,X,p8⟩,rfl,rfl⟩;refine A0<|Zv (Au Y Y)<|A5<|Zq<|Aq Y (fun gF=>?_) (fun gF=>?_);·
  obtain ⟨s9,cO⟩:∃s9,ls[i]?=some s9:=⟨_,B3 gF⟩;obtain ⟨g,o,cur,T,zz,rfl,o9,gB⟩:=hg i s9 cO;obtain ⟨qw,cw,rfl⟩:=J.form;obtain ⟨qz,cz,rfl⟩:=X.form;have j3:=hs s9 (DE cO)
  refine AC<|Zx<|Zq<|AR<|A0<|Bb (CB D2 Fi Y Y A1)<|CS (cs:=[(g,.cells cur T zz)]) (by simp [o9]) (BP HQ Y gB) V rfl ?_;refine A3 Y<|A0<|Zm Y<|Zm Y<|Xr [_] Y call237 Y V (lq s9 j3 Tg zg) ?_;refine Ze (Ah (vs:=[_]) (cs:=[_]) D2 Fi HT Y V rfl V rfl V)<|AE fun b1=>Ze (E5 (by_:=16) (sz:=1) (news:=[_]) D2 (V:Tryz.prog.info? 9=some Tryz.t9) V rfl V rfl Y J Y Wo Wh AN V Fm AH A1 A1) ?_;rintro _ _ ⟨sw,J,rfl⟩;obtain ⟨gw,cw,rfl⟩:=J.form;refine Zm Y<|Ze (Ah (vs:=[_]) (cs:=[_]) Cl A4 H4 Y V rfl V rfl V)<|AE fun b3=>Ze (E5 (by_:=8) (sz:=1) (news:=[_]) Cl (V:Tryz.prog.info? 3=some Tryz.t3) V rfl V rfl Y X Y Wo Wh AN V Fm AH A1 A1) ?_;rintro _ _ ⟨sz,X,rfl⟩;obtain ⟨gz,cz,rfl⟩:=X.form;refine Za Y<|AG Y<|Zn [3,4,11,12,13] ?_;refine Zx<|A0<|Zm Y<|Zv (AY Cl Y)<|A3 Y<|AR<|Zb [3,4,7,11,12,13] ?_;refine BA (e0:=[(3,_),(4,_),(7,_)]) (fun m e H=>∃(G:List (List Bs)) (q:List Bs) (gq:Value) (ek:List AA) (gy:Value) (gm:List AA),m=0+G.length/\(OB ls G q (i+1)/\Bc 1 9 gq (G.length+1) ((G++[q]).map rtV) ek/\Bc 1 3 gy (G.length+1) ((G++[q]).map lnV) gm/\G.length<=i)/\e=[(3,gq),(4,gy),(7,I4 ((G.length+1:Nat):Int))]/\H=[ek,gm]) (by exact ⟨ps,[s9],_,_,_,_,rfl,⟨lU hB hf cO,BS J rfl (by rw [BW,MD];unfold rtV;rw [pY];rfl),BS X rfl (by rw [BW];rfl),p8⟩,rfl,rfl⟩) Wp ?_;rintro _ _ _ ⟨G,q,gq,ek,gy,gm,rfl,⟨hM,O,U,sF⟩,rfl,rfl⟩;refine Zq<|Zq<|Az (n:=15) (0::1::3::7::7::23::63::127::7::7::519::1799::3847::8191::16383::[]) 0 A6 A6 V<|A2 0 V (AP Y)<|A2 1 V (DF (n:=1) Y Y)<|A2 2 V (AP Y)<|DX (t:=29) Y (fun cu=>?_) (fun cu=>?_);·
   rw [Cp cu];obtain ⟨B,Z,rfl⟩:=jI (ps:=G) A1;have sJ:(B++[Z]).length=B.length+1:=by simp
   obtain ⟨bn,l9,W,l5,rfl,rfl,ic,K⟩:=Le (id O) A1;obtain ⟨qy,ql,l8,ve,rfl,rfl,qa,af⟩:=Le (id U) A1;have q9:=af _ _ (Wi lnV B Z q).1
   have kv:=af _ _ (Wi lnV B Z q).2;have d9:=K _ _ (Wi rtV B Z q).1
   have pq:=K _ _ (Wi rtV B Z q).2;have pg:q.length<=ls.length:=by have h9:=congrArg List.length hM.flat;rw [B7,C3]at h9;omega
   refine An 3 V (AP Y)<|An 4 V (AP Y) ?_
   (refine An 5 rfl (CO (n:=2) Y Y ?_ ?_) ?_;(focus (omega));(focus (omega)))
   refine An 6 V (BV Cl A4 Y Y A1)<|DH 7 V Wh (BP AD Y q9) ?_;refine An 8 V (AP Y)<|An 9 V (AP Y) ?_
   (refine An 10 rfl (CO (n:=1) Y Y ?_ ?_) ?_;(focus (omega));(focus (omega)))
   refine An 11 V (BV Cl A4 Y Y A1)<|DH 12 V Wh (BP AD Y kv) ?_;refine An 13 V (Cb Y Y)<|A2 14 V (AQ Y Y)<|Ag<|Zn [3,4,7,11,12,13,41] ?_;refine Zx<|Aq Y (fun he=>?_) (fun he=>?_);·
    have j5:=hM.step he;refine AC<|Zx<|Zq<|AR<|Zq<|Az (n:=18) (0::0::2::7::0::0::32::112::240::0::0::1024::3584::7680::16368::32752::65535::131071::[]) 114688 A6 A6 V<|A2 0 V (AP Y)<|A2 1 V (AP Y) ?_
    (refine Dr (D':=7) 2 (CO (n:=2) Y Y ?_ ?_) ?_;(focus (omega));(focus (omega)))
    refine A2 3 V (Bq D2 Fi Y Y A1)<|A2 4 V (AP Y)<|A2 5 V (AP Y) ?_
    (refine Dr (D':=127) 6 (CO (n:=2) Y Y ?_ ?_) ?_;(focus (omega));(focus (omega)))
    refine A2 7 rfl (BV D2 Fi Y Y (by first|omega|(simp;omega)))<|B2 8 rfl HQ Y (hv:=by exact d9) ?_;refine A2 9 V (AP Y)<|A2 10 V (AP Y) ?_
    (refine Dr (D':=4095) 11 (CO (n:=1) Y Y ?_ ?_) ?_;(focus (omega));(focus (omega)))
    refine A2 12 rfl (BV D2 Fi Y Y (by first|omega|(simp;omega)))<|B2 13 rfl HQ Y (hv:=by exact pq) ?_;refine Yw 14 32767 rfl (Zu [_,_] Y call238 Y rfl (Vh (Dl Z) (Dl q) (by rw [Li];omega) (by rw [Li];omega) Tg zg))<|CT<|Yw 15 65535 V (Ah (vs:=[_]) (cs:=[_]) D2 Fi HT Y V rfl V rfl V)<|AE fun b5=>Yw 16 131071 V (E5 (by_:=16) (sz:=1) (news:=[_]) D2 (V:Tryz.prog.info? 9=some Tryz.t9) V rfl V rfl Y (Pw O ((B++[Z]).length+1 -2) A1) Y Wo Wh AN V Fm AH A1 A1) ?_;rintro _ _ ⟨sM,ax,rfl⟩;obtain ⟨qx,qj,rfl⟩:=ax.form;refine A2 17 V (Av Y)<|Ag<|Zn [3,4,7,11,12,13] ?_;refine Zx<|Az (n:=13) (0::0::2::7::0::0::32::112::240::496::1008::2047::4095::[]) 3072 A6 A6 V<|A2 0 V (AP Y)<|A2 1 V (AP Y) ?_
    (refine Dr (D':=7) 2 (CO (n:=2) Y Y ?_ ?_) ?_;(focus (first|omega|(simp;omega)));(focus (first|omega|(simp;omega))))
    refine A2 3 V (Bq Cl A4 Y Y A1)<|A2 4 V (AP Y)<|A2 5 V (AP Y) ?_
    (refine Dr (D':=127) 6 (CO (n:=1) Y Y ?_ ?_) ?_;(focus (first|omega|(simp;omega)));(focus (first|omega|(simp;omega))))
    refine A2 7 rfl (BV Cl A4 Y Y (by first|omega|(simp;omega)))<|B2 8 rfl AD Y (hv:=by exact kv) ?_;refine A2 9 rfl (F6 (m:=2) Y Y (by first|omega|(simp;omega)))<|Yw 10 2047 rfl (Ah (vs:=[_]) (cs:=[_]) Cl A4 H4 Y rfl rfl rfl rfl rfl)<|AE fun b7=>Yw 11 4095 V (E5 (by_:=8) (sz:=1) (news:=[_]) Cl (V:Tryz.prog.info? 3=some Tryz.t3) V rfl V rfl Y (Pw U ((B++[Z]).length+1 -2) A1) Y Wo Wh AN V Fm AH A1 A1) ?_;rintro _ _ ⟨sO,bg,rfl⟩;obtain ⟨r9,qo,rfl⟩:=bg.form;refine A2 12 V (Av Y)<|Ag<|Zn [3,4,7,11,12,13] ?_;refine A8<|Zx<|Zg<|Zm Y<|Yb (n:=1) Y Y<|AG Y<|Zn [3,4,7,11,12,13] ?_;refine Ab (e':=[(3,_),(4,_),(7,_)]) (by exact ⟨B,Z++q,_,_,_,_,rfl,⟨j5.1,BS ax A1 (by rw [Y7,BW,MD];unfold rtV;rw [j5.2];rfl),BS bg A1 (by rw [Y7,BW,MD];unfold lnV;rw [B7,he,<-Nat.two_mul]),by omega⟩,(by rw [show(B++[Z]).length+1 -1=B.length+1 by omega]),rfl⟩)
   have hD:=hM.done (fun a b e9=>by have e8:=List.singleton_inj.1 (i7 e9 rfl).2;rw [<-e8];exact he);refine Ay<|Zt<|Zt<|AU<|A8<|Zx<|Zg<|Ya (n:=1) Y Y<|Zm Y<|Z0<|Zn [3,4,13,11,12] ?_;refine Ab (e':=[(3,_),(4,_),(13,_)]) (by exact ⟨i+1,_,_,_,_,_,rfl,⟨by omega,hD.1,hD.2,BS O B0 rfl,BS U B0 rfl,by rw [B7];simp;omega⟩,rfl,rfl⟩)
  rw [CN cu];have hD:=hM.done (fun a b e9=>by have e8:=congrArg List.length e9;rw [B7]at e8;simp at e8;omega)
  refine AF 3 V<|AF 4 V<|AF 5 V<|AF 6 V<|AF 7 V<|AF 8 V<|AF 9 V<|AF 10 V<|AF 11 V<|AF 12 V<|AF 13 V<|A2 14 V (AL Y Y)<|Ag<|Zn [3,4,7,11,12,13,41] ?_;refine Zx<|DI Y<|Ay<|Zt<|Zt<|AU<|A8<|Zx<|Zg<|Ya (n:=1) Y Y<|Zm Y<|Z0<|Zn [3,4,13,11,12] ?_;refine Ab (e':=[(3,_),(4,_),(13,_)]) (by exact ⟨i+1,_,_,_,_,_,rfl,⟨by omega,hD.1,hD.2,BS O B0 rfl,BS U B0 rfl,by rw [B7];simp;omega⟩,rfl,rfl⟩)
 have ei:i=ls.length:=by omega
 subst ei;rw [I2 (CM _)]at hf;obtain ⟨qw,cw,rfl⟩:=J.form;refine Ay<|Zt<|Zt<|AU<|Zx<|Zq<|A0<|Zm Y<|Zv (AY D2 Y)<|Zv (Cb (n:=0) Y Y)<|A5<|Aq Y (fun h0=>?_) (fun h0=>?_);·
  have e0:=Lw h0;subst e0;have e1:ls=[]:=hf.symm
  refine A0<|Xr [_] Y call239 Y V (iU [] B0 Tg zg) ?_;refine A3 Y<|AJ<|Zt<|Ow rfl (dM results187 Y) (by exact ⟨by rw [e1,pu],rfl⟩)
 obtain ⟨B,q,rfl⟩:=jI (ps:=ps) A1;obtain ⟨bn,l9,W,l5,o8,rfl,ic,K⟩:=Le (id J) A1;injection o8 with hev1 hev2 hev3
 subst hev1 hev3;have d9:=K _ _ (xL rtV B q)
 have pg:(B++[q]).length=B.length+1:=by simp
 refine AC<|Zx<|A0<|Zm Y<|Zm Y<|Zv (AY D2 Y)<|Yb (n:=1) Y Y ?_;refine Bb (BV D2 Fi Y Y A1)<|Zl HQ Y (hv:=by exact d9) ?_;refine Ze (Al HT #[_])<|AE fun ob=>Xe (Zs Fi Y Y V (hc:=by exact (V:_=(#[GH (Dl q)]:Array Value)))) ?_;refine A5<|Zq<|A0<|Zm Y<|Zm Y<|Zv (AY D2 Y)<|Yb (n:=1) Y Y ?_;refine Bb (Bq D2 Fi Y Y A1)<|Zc [_] Y call240 Y V (Ul _ _ _) ?_;rintro _ _ ⟨_,⟨bb,rfl,rfl⟩,rfl⟩;refine Z0<|Zn [8,89] ?_;refine Zx<|AR<|Zb [8,89] ?_;refine PW (H0:=_) (R:=_) (I:=(fun pre H=>H=[[(ob,.cells #[GH (pre.foldl (fun o (x:Nat×Bs)=>JI x.2 o) (Dl q))] 9 (0,0))],[(bn,.cells W 9 l5)],[(4,.cells (Et.map Cs).toArray Tg zg)]])) (asg:=fun x=>[(10,GH x.2),(91,GH x.2),(90,I4 ((x.1:Nat):Int))]) rfl Y call269 (Um (ls:=B.map Dl) (v:=I6 bn ((B++[q]).length -1) cw) (Gg (BS (Pw J ((B++[q]).length -1) A1) B0 (by rw [mD,Kf];rfl)) (by rw [B4];omega)) bb (by rw [B4];omega)) (fun pre H1 c d h=>by subst h;intro x hx;simp at hx;simp [hx]) Y rfl Wp (rfl) ?ha_13 ?hbd_13 ?hk_13
 case ha_13=>
  intro _ x _ _;refine Zg<|Za Y<|Z0 ?_;exact rQ
 case hbd_13=>
  intro l pre x qb u H1 R1 pz hI;subst hI;refine AR<|Zg<|Zm Y<|Zl HQ Y ?_;refine Xr [_,_] Y call238 Y rfl (Vh x.2 _ (by obtain ⟨y9,_,e9⟩:=Bm.1 (yB (Vk pz));rw [<-e9,Li];omega) (by rw [uD _ _ (Li q)];omega) Tg zg) ?_;refine Xe (Zs Fi Y Y V) ?_;refine Z0<|A8<|F7 rfl (by rw [Z3])
 intro D1 H2 lw;subst lw;refine Zn [8] ?_;refine A8<|Zx<|A0<|Zl HQ Y ?_;refine A3 Y<|AJ<|GN rfl (dM results187 Y) Wo (by exact ⟨by rw [uE,uC,hB.root,<-hf];simp,rfl⟩)
theorem U7:∀(f x:Nat),0<x->x<2^f->Lib.bitLenAux f x=Nat.log2 x+1
 |0,x,h0,h1=>by simp at h1;omega
 |f+1,x,h0,h1=>by
  unfold Lib.bitLenAux;rw [AK A1];rw [eo]at h1;rcases E0 x 2 with h|h
  · have e:x=1:=by omega
    subst e;cases f<;>rfl
  · rw [U7 f (x/2) A1 A1]
    conv=>rhs;rw [Nat.log2_def,AM h]
    omega
theorem ll(n:Nat)(g:2<=n)(h2:n<=1000000000000):Lib.bitLen (n -1)=Nat.log2 (n -1)+1:=U7 64 (n -1) A1 A1
def FI(l:List Bs)(i:Nat):List Bs:=
 if h:2<=l.length then
  if i<DZ l.length then FI (l.take (DZ l.length)) i++[Dl (l.drop (DZ l.length))]
  else FI (l.drop (DZ l.length)) (i -DZ l.length)++[Dl (l.take (DZ l.length))]
 else []
termination_by l.length
decreasing_by
 · have:=PD h;rw [C3];omega
 · have:=P9 l.length;rw [C2];omega
theorem VQ(h:l.length<=1)(i:Nat):FI l i=[]:=by rw [FI,dif_neg A1]
theorem Qf(h:2<=l.length)(hi:i<DZ l.length):FI l i=FI (l.take (DZ l.length)) i++[Dl (l.drop (DZ l.length))]:=by rw [FI,dif_pos h,AM hi]
theorem Ol(h:2<=l.length)(hi:¬i<DZ l.length):FI l i=FI (l.drop (DZ l.length)) (i -DZ l.length)++[Dl (l.take (DZ l.length))]:=by rw [FI,dif_pos h,AK hi]
theorem EN.take{p:Option Addr}{cap:Nat}(h:EN M (.slice p ls.length cap) ls)(n:Nat)(hn:n<=ls.length):EN M (.slice p n cap) (ls.take n):=by
 obtain ⟨I,m,e,G,B⟩:=h;injection e with e1 e2 e3
 subst e1 e3;have g:(ls.take n).length=n:=by rw [C3];omega
 refine ⟨p,cap,by rw [g],by rw [g];omega,fun i z hz=>B i z ?_⟩;rw [HC]at hz;split at hz;· exact hz
 · cases hz
theorem EN.drop{B g cap:Nat}(h:EN M (.slice (some ⟨B,g,none⟩) ls.length cap) ls)(n:Nat)(hn:n<ls.length):EN M (.slice (some ⟨B,g+n,none⟩) (ls.length -n) (cap -n)) (ls.drop n):=by
 obtain ⟨p',K,e,Z,W⟩:=h;injection e with e1 e2 e3
 subst e1 e3;refine ⟨_,_,by rw [C2],by rw [C2];omega,fun i z hz=>?_⟩;rw [NO]at hz;obtain ⟨X,O,m,U,J,e2,I,G⟩:=W (n+i) z hz;injection e2 with e2;injection e2 with e3 e4
 subst e3 e4;exact ⟨B,g+n,m,U,J,rfl,I,by rw [iu];exact G⟩
theorem mX{w:World}{g:Nat}{z:Nat×Nat}(enc:Bs->Value){zs:List Bs}(I:w.heap[g]?=some (.cells cur e z))(K:zs.length<=cur.size)(B:Ih z cur.size)(O:cur.toList.take zs.length=zs.map enc):Go.Sort.Holds enc w g 0 zs.toArray:=by
 intro j J;have m:j<zs.length:=by simpa using J
 have U:=B j A1;have G:(cur.toList.take zs.length)[j]?=(zs.map enc)[j]?:=by rw [O]
 rw [ke m]at G;refine ⟨?_,?_⟩
 · simp only [World.cell?,I,D0]
   simp only [oE,MA,HF];rw [<-HH,G];simp [m]
 · simp only [World.frozen?,I,D0]
   simp;omega
theorem XA(enc:Bs->Value)(cur:Array Value)(g:List Bs)(h:g.length<=cur.size):(Go.Sort.putCells enc 0 g.toArray cur).toList.take g.length=g.map enc:=by
 apply MT;intro j;rw [HC];by_cases m:j<g.length
 · rw [AM m,HH]
   unfold Go.Sort.putCells;rw [nj,HG A1];simp [m]
 · rw [AK m,Lz Hh]
theorem Sat.sorted_enc{u w:World}{g:Nat}{z:Nat×Nat}{R:Hp}(enc:Bs->Value)(d:Array Bs)(h:Sat u ([(g,.cells cur e z)]::R) w):Sat u ([(g,.cells (Go.Sort.putCells enc 0 d cur) e z)]::R) (Go.Sort.putRow enc (Go.Sort.ahead w n) g 0 d):=by
 have m:=h.get (g,.cells cur e z) B0;refine h.upd (.here _) V rfl V ?_ fun k B=>?_;· simp [Go.Sort.putRow,Go.Sort.mapBlock,Go.Sort.ahead,SR,m,Go.Sort.onCells]
 · have:g≠k:=fun e=>B e.symm
   simp [Go.Sort.putRow,Go.Sort.mapBlock,Go.Sort.ahead,SR,this]
theorem X3(h:Bc 1 9 v ls.length (ls.map GH) s)(hn:ls.length<=1000000000000):Ba prog 189 #[v] [s] (fun r H'=>r= .tuple #[]/\∃U,Bc 1 9 v ls.length (ls.reverse.map GH) U/\H'=[U]):=by
 obtain ⟨O,⟨rfl,h0,rfl⟩|⟨g,cap,cur,z,rfl,rfl,K,J,m,G,B⟩⟩:=h
 · intro u R w I
   have e:ls=[]:=Lw h0;subst e;exact (Tryz.slices_Reverse_string_empty none 0 w).mono (by
    rintro e Z ⟨rfl,rfl⟩;exact .inl ⟨_,_,V,⟨V,[],Bf 1 _,V⟩,I⟩)
 · intro u R w I
   rw [N2]at m G;have X:=I.get (g,.cells cur 9 z) B0
   have W:=mX (w:=w) (g:=g) (e:=9) (z:=z) GH (zs:=ls) X A1 B G;refine (Tryz.slices_Reverse_string g 0 cap ls w W A1).mono ?_;rintro e Z ⟨rfl,n,rfl⟩;refine .inl ⟨_,_,V,⟨V,_,⟨by simp,.inr ⟨g,cap,_,z,V,V,K,J,?_,?_,?_⟩⟩,V⟩,Sat.sorted_enc (n:=n) GH ls.reverse.toArray I⟩;· rw [N2];simp [Go.Sort.putCells,m]
   · rw [N2]
     have:=XA GH cur ls.reverse (by rw [kq];omega);rw [kq]at this;exact this
   · simpa [Go.Sort.putCells]using B
theorem lg(n:Nat)(g:2<=n)(h2:n<=1000000000000):BH prog 188 #[I4 (n:Int)] [] (I4 ((DZ n:Nat):Int)):=by
 have B:=ll n g h2;have G:=PD g
 unfold DZ at G;have I:(n -1).log2<64:=(Nat.log2_lt A1).2 A1
 refine Se func188 ntmps188 [0] ?_;intro u R;refine A0<|A3 Y<|A0<|Zm Y<|Bb (CO (n:=1) Y Y (by first|omega|(rw [RR];omega)) (by first|omega|(rw [RR];omega)))<|Bb (Ls C5 W5 Y (by first|omega|(rw [RR];omega)))<|Xr [_] Y call100 Y rfl (Rt (H:=[]) (Rl:=fun v=>v=I4 ((Lib.bitLen (n -1):Nat):Int)) (fun w _=>(Tryz.bits_Len ((n -1:Nat):Int) w A1 A1).mono (by rintro e J ⟨rfl,rfl⟩;exact ⟨_,rfl,by rw [W0],Below.refl _ _⟩)) (fun v h=>⟨h,rfl⟩)) ?_;rw [B];refine Bb (CO (n:=1) Y Y (by first|omega|(rw [RR];omega)) (by first|omega|(rw [RR];omega)))<|Bb (UX (m:=1) Y Y A1 (by first|omega|(rw [RR];omega)))<|A3 Y<|AJ<|AO rfl results188 Y (by exact ⟨by rw [RR,Nat.one_mul];rfl,rfl⟩)
theorem Si(hv:EN M v ls)(hn:ls.length<=1000000)(hs:∀s∈ls,s.length<=140737488354000)(i:Nat)(hi:i<ls.length)(Z:TypeId)(zg:Nat×Nat):
 Ba prog 136 #[v,I4 (i:Int)] [[(4,.cells (Et.map Cs).toArray Z zg)],M] (fun r H'=>∃vp sp,r= .tuple #[vp,I4 0]/\Bc 1 9 vp (FI ls i).length ((FI ls i).map GH) sp/\H'=[sp,[(4,.cells (Et.map Cs).toArray Z zg)],M]):=by
 have gB:=mL;obtain ⟨p,cap,rfl,hl,hg⟩:=id hv;refine Se func136 ntmps136 [0,1] ?_;intro u R;refine A0<|Za Y<|A3 Y<|U9 ?_;refine Zq<|A0<|Zm Y<|Zv (Au (n:=0) Y Y)<|Zm Y<|Aj (t:=12) Y V (fun h1=>by omega)<|fun h1=>Zf Y Y<|Zf Y Y<|Yg (AY D2 Y)<|Yg (G6 Y Y)<|Zv (AL Y Y)<|A5<|Aq Y (fun h2=>by omega)<|fun h2=>AC<|Zx<|A0<|A3 Y<|Zq<|UB<|Zx<|Zq<|AR<|BU<|Zb [0,1,6] ?_;refine BA (e0:=[(0,_),(1,_),(6,_)]) (fun m e H=>∃(l2:List Bs) (i2:Nat) (p2:Option Addr) (cap2:Nat) (o:List Bs) (vo:Value) (so:List AA),m=0+l2.length/\(EN M (.slice p2 l2.length cap2) l2/\i2<l2.length/\(∀s∈l2,s.length<=140737488354000)/\FI ls i=FI l2 i2++o.reverse/\Bc 1 9 vo o.length (o.map GH) so/\o.length+l2.length<=ls.length)/\e=[(0,.slice p2 l2.length cap2),(1,I4 (i2:Int)),(6,vo)]/\H=[so]) (by exact ⟨ls,i,p,cap,[],.slice none 0 0,[],V,⟨hv,hi,hs,by simp,Bf 1 _,by simp⟩,V,V⟩) Wp ?_;rintro _ _ _ ⟨l2,i2,p2,cap2,o,vo,so,rfl,⟨O,ek,J,B,I,gF⟩,rfl,rfl⟩;obtain ⟨qo,co,rfl⟩:=I.form;refine AR<|Zq<|A0<|Zm Y<|Zv (AY D2 Y)<|Zv (Cb (n:=1) Y Y)<|A5<|Aq Y (fun h1=>?_) (fun h1=>?_);·
  rw [VQ (l:=l2) A1,LN]at B;refine Ay<|Zt<|Aw V<|Zt<|AU<|Zx<|A0<|Zm Y<|Zc [_] Y call189 Y V (X3 I A1) ?_;rintro _ _ ⟨_,⟨rfl,bg,U,rfl⟩,rfl⟩;refine A5<|A0<|Zm Y<|Za Y<|A3 Y<|AJ<|Km ?_;refine Cv rfl results136 Y Y (by exact ⟨_,bg,rfl,BS U (by rw [B,kq]) (by rw [B]),rfl⟩)
 have h9:2<=l2.length:=by omega
 have ax:=PD h9;have gm:=P9 l2.length
 have g:(l2.take (DZ l2.length)).length=DZ l2.length:=by rw [C3];omega
 obtain ⟨p8,bn,e8,gq,af⟩:=id O;injection e8 with e81 e82 e83
 subst e81 e83;obtain ⟨g8,cO,cu,T8,ic,rfl,gy,d9⟩:=af 0 _ (B3 A1);have X:=O.take (DZ l2.length) A1
 have W:=O.drop (DZ l2.length) ax;refine AC<|Zx<|A0<|Zm Y<|Zv (AY D2 Y)<|Xr [_] Y call188 Y V (lg l2.length h9 A1) ?_;refine A3 Y<|Zq<|Az (n:=8) (0::0::3::0::0::24::7::127::[]) 0 A6 A6 V<|A2 0 V (AP Y)<|A2 1 V (AP Y)<|A2 2 V (Bq D2 Fi Y Y A1)<|A2 3 V (AP Y)<|A2 4 V (AP Y) ?_
 (refine Dr (D':=63) 5 (N9 D2 Fi Y Y ?_ ?_) ?_;(focus (omega));(focus (omega)))
 refine A2 6 V (Av Y)<|A2 7 V (Av Y)<|Ag<|Zn [1,6,7,8,9] ?_;refine Zx<|Zq<|A0<|Zm Y<|Zm Y<|Zv (G6 Y Y)<|A5<|Aq Y (fun K=>?_) (fun K=>?_);·
  have K:¬i2<DZ l2.length:=by omega
  refine Zg<|Zm Y<|Zm Y<|Zm Y<|Zm Y<|Yb Y Y<|Za Y<|Za Y<|A3 Y<|A0<|Zm Y<|Zm Y<|Xr [_] Y call187 Y rfl (Py X (by rw [g];omega) (fun s h=>J s (P0 h)) Z zg) ?_;refine Ze (Ah (vs:=[_]) (cs:=[_]) D2 Fi HT Y V rfl V rfl V)<|AE fun b1=>Ze (E5 (by_:=16) (sz:=1) (news:=[_]) D2 (V:Tryz.prog.info? 9=some Tryz.t9) V rfl V rfl Y I Y Wo Wh AN V Fm AH A1 A1) ?_;rintro _ _ ⟨sw,G,rfl⟩;obtain ⟨gw,cw,rfl⟩:=G.form;refine AG Y<|Zn [1,6,8] ?_;refine Zx<|Zg<|Zm Y<|AG Y<|A8<|Zn [0,1,6] ?_;refine Ab (e':=[(0,_),(1,_),(6,_)]) (by exact ⟨l2.drop (DZ l2.length),i2 -DZ l2.length,_,_,o++[Dl (l2.take (DZ l2.length))],_,_,(by rw [C2]),⟨(by rw [C2];exact W),by rw [C2];omega,fun s h=>J s (J0 h),by rw [B,Ol h9 K,oA,Cd];rfl,BS G B0 (by simp;rfl),by rw [B7,C2];simp;omega⟩,(by rw [C2]),rfl⟩)
 refine AC<|Zx<|A0<|Zm Y<|Zm Y<|Xr [_] Y call187 Y rfl (Py W (by rw [C2];omega) (fun s h=>J s (J0 h)) Z zg) ?_;refine Ze (Ah (vs:=[_]) (cs:=[_]) D2 Fi HT Y V rfl V rfl V)<|AE fun b3=>Ze (E5 (by_:=16) (sz:=1) (news:=[_]) D2 (V:Tryz.prog.info? 9=some Tryz.t9) V rfl V rfl Y I Y Wo Wh AN V Fm AH A1 A1) ?_;rintro _ _ ⟨sw,G,rfl⟩;obtain ⟨gw,cw,rfl⟩:=G.form;refine A3 Y<|Zg<|Zm Y<|AG Y<|A8<|Zn [0,1,6] ?_;refine Ab (e':=[(0,_),(1,_),(6,_)]) (by exact ⟨l2.take (DZ l2.length),i2,_,_,o++[Dl (l2.drop (DZ l2.length))],_,_,(by rw [g]),⟨(by rw [g];exact X),by rw [g];omega,fun s h=>J s (P0 h),by rw [B,Qf h9 A1,oA,Cd];rfl,BS G B0 (by simp;rfl),by rw [B7,g];simp;omega⟩,(by rw [g]),rfl⟩)
def vl(s:Bs):Bool:=!decide (s.length=32)
def z8(s:Bs):Nat->Nat->List Bs->Option Bs
 |n,_,[]=>if n<=1 then some (ZC s)else none
 |n,i,x::rp=>if n<=1 then none else if i<DZ n then(z8 s (DZ n) i rp).map (fun v=>JI v x)else(z8 s (n -DZ n) (i -DZ n) rp).map (fun v=>JI x v)
def v7(root:Bs)(n i:Nat)(s:Bs)(pf:List Bs):Bool:=!(pf.any vl)&&decide (z8 s n i pf.reverse=some root)
def QN(r:AV):Bs:=Hw [r.t,r.k]++Hw [r.v.a,r.v.b,r.v.c]
theorem Wx(h:r.ok):(∀n∈[r.t,r.k],-4611686018427387903<=n/\n<=4611686018427387903)/\(∀n∈[r.v.a,r.v.b,r.v.c],-4611686018427387903<=n/\n<=4611686018427387903):=by
 obtain ⟨⟨g,h2,m⟩,B,G⟩:=h;unfold inV at g h2 m;constructor
 · intro n hn
   simp only [D4,RW,RC]at hn;rcases hn with rfl|rfl<;>omega
 · intro n hn
   simp only [D4,RW,RC]at hn;rcases hn with rfl|rfl|rfl<;>omega
theorem gH(h:r.ok):(QN r).length<=45:=by
 have g:=Hu _ (Wx h).1;have h2:=Hu _ (Wx h).2
 unfold QN;rw [B7];simp only [DG,KK]at g h2;omega
theorem tK(a b:Int):LB #[I4 a,I4 b] 0 [a,b]:=by
 intro i n h;rcases i with _|_|i
 · simp at h;subst h;rfl
 · simp at h;subst h;rfl
 · simp at h
theorem xc(r:AV):LB r.A58 2 [r.v.a,r.v.b,r.v.c]:=by
 intro i n h;rcases i with _|_|_|i
 · simp at h;subst h;rfl
 · simp at h;subst h;rfl
 · simp at h;subst h;rfl
 · simp at h
theorem kG(r:AV)(B:r.ok):BH prog 184 #[.agg r.A58] [] (.tuple #[.string (str (QN r)),I4 0]):=by
 have hn:=Wx B;have g:=Hu _ hn.1
 have m:=Hu _ hn.2;simp only [DG,KK]at g m;refine Se func184 ntmps184 [0] ?_;intro u R;refine A0<|Ze (Bx #[_,_,_,_,_])<|AE fun G=>Za Y<|A3 Y<|Zq<|A0<|Zo Wh (Pa #[_,_,_,_,_] CI AW Y)<|Xr [_] Y call195 Y V (SB r) ?_;rw [Cp B];refine Zv (Br Y)<|A5<|AX Y (fun hv=>by cases hv)<|fun hv=>AC<|Zx<|Zq<|Az (n:=12) (0::1::0::4::15::31::0::64::255::511::1023::2047::[]) 304 A6 A6 V<|A2 0 V (AB (off:=0) FF V rfl A4 Y)<|B2 1 V AD Y<|A2 2 V (AB (off:=1) FF V rfl A4 Y)<|B2 3 V AD Y<|A2 6 V (AB (off:=2) FF V rfl D3 Y)<|A2 7 V (Ik HP A4 Y)<|Zz (l:=[4])<|B1 [false,false] [] V rfl (Ah (vs:=[_,_]) (cs:=[_,_]) Cl A4 H4 Y V rfl V rfl V) ?_ (fun _ _ h=>h.elim) Ai;rintro _ _ ⟨gb,rfl,rfl⟩;refine B6<|Yw 5 255 V (Zu [_] Y call234 Y V (pG gb 0 2 _ _ _ [r.t,r.k] (tK r.t r.k) B0 hn.1))<|CT<|Yw 8 511 V (Zu [_] Y call234 Y V (pG G 2 3 _ _ _ [r.v.a,r.v.b,r.v.c] (xc r) B0 hn.2))<|CT<|A2 9 rfl (Mk Y Y (by rw [Gq,Gq];omega))<|A2 10 rfl (Av Y)<|A2 11 rfl (Av Y)<|Ag<|Zn [2,3] ?_;refine Zx<|AJ<|Cv rfl results184 Y Y (by exact ⟨by rw [RJ];rfl,rfl⟩)
def BG(rs:List AV)(t:Int)(c:Nat):List AV:=Dt rs t c (-1000000000) 1000000000
theorem JH(g:BQ rs)(t:Int)(c:Nat):(BG rs t c).length<=rs.length:=by
 unfold BG;rw [(ER rs t c _ _).length_eq];exact On _ _
theorem Md{t:Int}{c:Nat}{lo hi:Int}(h:r∈Dt rs t c lo hi):r∈rs:=(FA.1 ((ER rs t c lo hi).mem_iff.1 h)).1
def O1(l:List AV):List Bs:=l.map QN
theorem GU(l:List AV):(O1 l).length=l.length:=B4 ..
theorem uS{l:List AV}(h:l[i]?=some x):(O1 (l.take (i+1))).map GH=(O1 (l.take i)).map GH++[.string (str (QN x))]:=by
 rw [Bi h];unfold O1;rw [BW,BW];rfl
def vJ(l:List AV)(vr ve:Value)(sr se:List AA):Prop:=Bc 5 71 vr (l).length (Ae (l)) sr/\Bc 1 9 ve l.length ((O1 l).map GH) se
theorem TG(v:Value)(p:Int)(rs:List AV)(s:List AA)(hv:RH v p rs s)(hs:BQ rs)(hn:rs.length<=2000)(af:∀r∈rs,r.ok)(t:Int)(c:Nat)(hc:c<=3):
 Ba prog 128 #[v,I4 t,I4 (c:Int)] [s] (fun r H'=>∃vr K W J,r= .agg #[vr,K]/\vJ (BG rs t c) vr K W J/\H'=[W,J,s]):=by
 have ek:=mL;have d9:=JH hs t c
 refine Se func128 ntmps128 [0,1,2] ?_;intro u R;refine A0<|Ze (Al ju #[_,_])<|AE fun qb=>A5<|A0<|Zm Y<|Zm Y<|Zm Y<|Zc [_,_,_,_,_] Y call85 Y V (YD v p rs s hv t c (-1000000000) 1000000000 hc) ?_;rintro _ _ ⟨_,⟨W,G,rfl⟩,rfl⟩;change Bc 5 71 _ (BG rs t c).length (Ae (BG rs t c)) W at G;obtain ⟨qr,cr,rfl⟩:=G.form;have X:=DU G A1
 obtain ⟨p9,bg,e9,gm,hg⟩:=id X;injection e9 with e91 e92 e93
 subst e91 e93;refine Zv (BM (vs:=[(0,_)]) (cs:=#[_,_]) Y (AZ (pl:=#[(0,1),(1,1)]) ju N3 (fun _=>by kernel_rfl) V))<|Ze (Al ju #[_,_])<|AE fun ob=>Xe (BL eA Y Y (by(simp [Value.oneCell',Value.cells];done)) Wu (by exact (rfl:_=(#[.slice qr (BG rs t c).length cr,.slice none 0 0]:Array Value))) E6 AH (by exact BB _))<|A5<|Zq<|A0<|Zh 0 N3 rfl rfl C6 Y<|Zl F1 Y<|Zv (AY B5 Y)<|Zm Y<|A5<|AR<|BU<|Zb [20,6,7,18,19] ?_;refine BA (e0:=[(20,_)]) (fun m e H=>∃(i:Nat) (K:Value) (J:List AA),m=(BG rs t c).length -i/\(i<=(BG rs t c).length/\Bc 1 9 K i ((O1 ((BG rs t c).take i)).map GH) J)/\e=[(20,I4 (i:Int))]/\H=[[(ob,.cells #[.slice qr (BG rs t c).length cr,K] 236 (0,0))],J]) (by exact ⟨0,.slice none 0 0,[],V,⟨C0 _,Bf 1 _⟩,V,V⟩) Wp ?_;rintro _ _ _ ⟨i,K,J,rfl,⟨hi,B⟩,rfl,rfl⟩;obtain ⟨qe,ce,rfl⟩:=B.form;refine A0<|Zv (Au Y Y)<|A5<|Zq<|Aq Y (fun U=>?_) (fun U=>?_);·
  obtain ⟨x,hx⟩:∃x,(BG rs t c)[i]?=some x:=⟨_,B3 U⟩;obtain ⟨g,off,cur,T,zz,rfl,Z,bn,O⟩:=hg i x hx;have ax:=af x (Md (DE hx))
  refine AC<|Zx<|Zq<|AR<|A0<|Bb (Ac B5 AW Y Y A1)<|CS (cs:=[(g,.cells cur T zz)]) (by simp [Z]) (A9 (cs:=x.A58) CI AW Y A1 O) V rfl<|Ze (Al DS #[_,_,_,_,_])<|AE fun xb=>Xe (Xw AW x.A58)<|A5<|A0<|Zo Wh (Pa #[_,_,_,_,_] CI AW Y)<|Xr [_] Y call184 Y V (kG x ax)<|Zm Y<|Zd Y V<|Zd Y V<|Za Y<|A3 Y<|Zg<|Zh 1 N3 V rfl HB Y<|Zl Hc Y<|Zm Y<|Ze (Ah (vs:=[_]) (cs:=[_]) D2 Fi HT Y V rfl V rfl V)<|AE fun b4=>Ze (E5 (by_:=16) (sz:=1) (news:=[_]) D2 (V:Tryz.prog.info? 9=some Tryz.t9) V rfl V rfl Y B Y Wo Wh AN V Fm AH A1 A1) ?_;rintro _ _ ⟨gq,I,rfl⟩;obtain ⟨cO,cu,rfl⟩:=I.form;refine Zh 1 N3 V rfl HB Y<|Xe (Zs HB Y Y V (hc:=by exact (V:_=(#[.slice _ (BG rs t c).length cr,_]:Array Value))) (hi:=by(simp;done)))<|Z0<|Zn [6,7,18,19,20] ?_;refine A8<|Zx<|Zg<|Ya (n:=1) Y Y<|Zm Y<|Z0<|Zn [20,6,7,18,19] ?_;refine Ab (e':=[(20,_)]) (by exact ⟨i+1,_,_,rfl,⟨by omega,BS I rfl (by rw [uS hx])⟩,rfl,rfl⟩)
 have ei:i=(BG rs t c).length:=by omega
 subst ei;rw [GB]at B;refine Ay<|Zt<|Zt<|AU<|Zx<|A0<|Zo Wh (A9 (cs:=#[_,_]) isAgg236 eA Y As AN)<|Xe (BL eA Y Y (by(simp [Value.oneCell',Value.cells];done)) Wu (by exact (rfl:_=(#[.slice qr (BG rs t c).length cr,.slice qe _ ce]:Array Value))) E6 AH (by exact BB _))<|A5<|AJ<|Cu rfl results128 Y Wh (Am isAgg236 eA Wn (rfl)) (by exact ⟨.slice qr _ cr,.slice qe _ ce,W,J,rfl,⟨G,B⟩,rfl⟩)
theorem Yy(v:Value)(p:Int)(rs:List AV)(s:List AA)(hv:RH v p rs s)(J:BQ rs)(hn:rs.length<=2000)(I:∀r∈rs,r.ok)(t:Int)(c:Nat)(hc:c<=3):
 Ba prog 128 #[v,I4 t,I4 (c:Int)] [s] (fun r H'=>∃G B m g,r= .agg #[G,B]/\vJ (BG rs t c) G B m g/\H'=[m++g,s]):=by
 refine Gy (TG v p rs s hv J hn I t c hc) V ?_;rintro r H' ⟨G,B,m,g,rfl,h,rfl⟩;exact ⟨_,⟨G,B,m,g,V,h,V⟩,by simp⟩
def tcs:List (Nat×Nat):=(List.range 4).flatMap fun t=>(List.range 4).map fun c=>(t,c)
theorem tD:∀t,t<4->∀c,c<4->tcs[4*t+c]?=some (t,c):=by decide
def zC(rs:List AV)(x:Nat×Nat):Bs:=U2 ((BG rs (x.1:Int) x.2).length:Int)++Dl (O1 (BG rs (x.1:Int) x.2))
def bW(rs:List AV):List Bs:=tcs.map (zC rs)
def wx(rs:List AV)(x:Nat×Nat)(vs:Array Value)(sx:List AA):Prop:=∃vr ve sr se,vs=#[.agg #[vr,ve]]/\vJ (BG rs (x.1:Int) x.2) vr ve sr se/\sx=sr++se
theorem Xa{l:List AV}(h:∀r∈l,r.ok):∀s∈O1 l,s.length<=45:=by
 intro s m;obtain ⟨r,g,rfl⟩:=Bm.1 m;exact gH (h r g)
theorem Yv(q:Option Addr):Ba prog 185 #[.pointer q] [] (fun r H'=>∃b,r= .func (.func 235) #[] #[I5 b]/\H'=[[(b,.cells #[.pointer q] 120 (0,0))]]):=by
 refine Se func185 ntmps185 [0] ?_;intro u R;refine A0<|Ze (Bx #[_])<|AE fun b=>A3 Y<|A0<|Zv (Bg (vs:=[]) (us:=[_]) Y Y)<|A3 Y<|AJ<|AO V results185 Y (by exact ⟨_,V,V⟩)
theorem Yx(v:Value)(p:Int)(rs:List AV)(s:List AA)(hv:RH v p rs s)(hs:BQ rs)(hn:rs.length<=2000)(W:∀r∈rs,r.ok)(b:Nat):
 WP prog 235 #[I5 b] [[(b,.cells #[v] 120 (0,0))]] [s] (wx rs) tcs:=by
 have af:=mL;intro l J hy s0 hJ;refine Se func235 ntmps235 [0,1] ?_;intro u R;refine A0<|Zm Y<|A5<|AR<|Zb [5,0,1] ?_;refine BA (e0:=[(5,_)]) (fun m e H=>∃(t:Nat) (s2:List AA),m=4 -t/\(t<=4/\J (tcs.take (4*t)) s2)/\e=[(5,I4 (t:Int))]/\H=[s2]) (by exact ⟨0,s0,V,⟨by omega,hJ⟩,V,V⟩) Wp ?_;rintro _ _ _ ⟨t,s2,rfl,⟨ht,g⟩,rfl,rfl⟩;refine A0<|Zv (Au (n:=4) Y Y)<|A5<|Zq<|Aq Y (fun I=>?_) (fun I=>?_);·
  refine AC<|Zx<|Zq<|AR<|A0<|Zm Y<|A3 Y<|A0<|Zm Y<|A5<|AR<|Zb [8,0,1,3,5] ?_;refine BA (e0:=[(8,_)]) (fun m e H=>∃(c:Nat) (K:List AA),m=4 -c/\(c<=4/\J (tcs.take (4*t+c)) K)/\e=[(8,I4 (c:Int))]/\H=[K]) (by exact ⟨0,s2,V,⟨by omega,g⟩,V,V⟩) Wp ?_;rintro _ _ _ ⟨c,K,rfl,⟨hc,B⟩,rfl,rfl⟩;refine A0<|Zv (Au (n:=4) Y Y)<|A5<|Zq<|Aq Y (fun G=>?_) (fun G=>?_);·
   have hx:=tD t I c G;refine AC<|Zx<|Zq<|AR<|A0<|Zm Y<|A3 Y<|A0<|Zm Y<|Zl isAgg120 Y<|Zm Y<|Zm Y<|Zc [_,_,_] Y call128 Y V (Yy v p rs s hv hs hn W (t:Int) c A1) ?_;rintro _ _ ⟨_,⟨vr,ve,sr,se,rfl,hO,rfl⟩,rfl⟩;have X:=hy _ _ _ K #[.agg #[vr,ve]] (sr++se) (OT hx) B ⟨vr,ve,sr,se,rfl,hO,rfl⟩
   refine Ze (GZ (vs:=[_]) Y Y (X) Wp) ?_;rintro _ _ ⟨_,⟨s4,rfl,rfl,U⟩,rfl⟩;refine Zv (Br Y)<|A5<|AX Y (fun Z=>by cases Z)<|fun Z=>AC<|A8<|Zx<|Zg<|Ya (n:=1) Y Y<|Zm Y<|Z0<|Zn [8,0,1,3,5] ?_;refine Ab (e':=[(8,_)]) (by exact ⟨c+1,s4,rfl,⟨by omega,by rw [<-iu,Bi hx];exact U⟩,rfl,rfl⟩)
  refine Ay<|Zt<|Zt<|AU<|A8<|Zx<|Zg<|Ya (n:=1) Y Y<|Zm Y<|Z0<|Zn [5,0,1] ?_;refine Ab (e':=[(5,_)]) (by exact ⟨t+1,K,rfl,⟨by omega,by rw [Nat.mul_add,N2];have O:c=4:=A1;subst O;exact B⟩,rfl,rfl⟩)
 have O:t=4:=by omega
 subst O;refine Ay<|Zt<|Zt<|AU<|Cw V results235 (by exact ⟨s2,V,g⟩)
theorem Uy(v:Value)(p:Int)(rs:List AV)(s:List AA)(hv:RH v p rs s)(hs:BQ rs)(hn:rs.length<=2000)(O:∀r∈rs,r.ok)(W:TypeId)(zg:Nat×Nat):
 Ba prog 135 #[v] [[(4,.cells (Et.map Cs).toArray W zg)],s] (fun r H'=>∃so,Bc 1 9 r 16 ((bW rs).map GH) so/\H'=[so,[(4,.cells (Et.map Cs).toArray W zg)],s]):=by
 have gF:=mL;obtain ⟨kv,j5,gy,gm,j3,rfl,cO⟩:=id hv;refine DL func135 V ntmps135 V ?_;intro u R;refine Zb [0] ?_;refine A0<|A3 Y<|A0<|Ze (Al Up #[_])<|AE fun ob=>A5<|Zq<|A0<|Zm Y<|Zc [_] Y call185 Y V (Yv _) ?_;rintro _ _ ⟨_,⟨bb,rfl,rfl⟩,rfl⟩;refine A5<|AR<|Zb [3,8] ?_;refine BU<|Xp (H0:=_) (R:=_) (I:=(fun pre H=>∃Z s2,H=[[(ob,.cells #[Z] 45 (0,0))],s2,[(4,.cells (Et.map Cs).toArray W zg)]]/\Bc 1 9 Z pre.length ((pre.map (zC rs)).map GH) s2)) (E:=fun x vs sx e Hn=>∃X J G,vs=#[.agg #[J,G]]/\e=[(4,I5 X),(9,.agg #[J,G])]/\Hn=[[(X,.cells #[J,G] 236 (0,0))]]) rfl Y call235 (Yx _ p rs s hv hs hn O bb) (fun x vs sx h=>by obtain ⟨J,G,sr,se,rfl,_⟩:=h;rfl) rfl Wp (⟨_,[],rfl,Bf 1 _⟩) ?ha_2 ?hbd_2 ?hk_2
 case ha_2=>
  intro _ x vs sx _ _ g;obtain ⟨J,G,sr,se,rfl,K,rfl⟩:=g;refine Zg<|Ze (Al ju #[_,_])<|AE fun X=>Xe (BL eA Y Y (by obtain ⟨q1,c1,rfl⟩:=K.1.form;obtain ⟨q2,c2,rfl⟩:=K.2.form;simp [Value.oneCell',Value.cells]) Wu (by exact (rfl:_=(#[J,G]:Array Value))) E6 AH (by exact BB _)) ?_;refine Z0<|Lv (e:=[(4,_),(9,_)]) (Hn:=[[(_,_)]]) ?_;exact ⟨_,_,_,V,V,V⟩
 case hbd_2=>
  intro l pre x d9 u vs sx e9 ek H1 R1 cu hI g af;obtain ⟨J,G,sr,se,rfl,K,rfl⟩:=g;obtain ⟨X,l9,l8,U,rfl,rfl⟩:=af;simp at U;obtain ⟨rfl,rfl⟩:=U;obtain ⟨Z,s2,rfl,m⟩:=hI;obtain ⟨qe,ce,rfl⟩:=K.2.form;obtain ⟨q2,c2,rfl⟩:=m.form;have bn:=congrArg List.length cu
  rw [B7,DG,show tcs.length=16 from rfl]at bn;have ic:=JH hs (x.1:Int) x.2
  have bg:EN (sr++se) (.slice qe (BG rs (x.1:Int) x.2).length ce) (O1 (BG rs (x.1:Int) x.2)):=(Gg (BS K.2 (GU _).symm rfl) (by rw [GU];omega)).mono (fun c h=>G2 _ h);refine AR<|A0<|Zh 1 N3 V rfl HB Y<|Zl Hc Y ?_;refine Zv (AY D2 Y)<|Xr [_] Y call186 Y V (Qc _ A1 A1) ?_;refine Zm Y<|Zd Y V<|Zd Y V<|Za Y<|A3 Y<|Az (n:=9) (0::0::0::4::12::30::62::127::255::[]) 464 A6 A6 V<|B2 0 V Hc Y ?_;refine A2 1 V (AP Y)<|A2 2 V (AB (off:=1) N3 V rfl HB Y)<|B2 3 V Hc Y ?_;refine Yz 4 12 31 [3,0] [false,true] [(0,(_,_))] rfl Y rfl rfl rfl rfl (Zu [_] Y call187 Y rfl (Py bg (by rw [GU];omega) (fun s h=>by have:=Xa (fun r hr=>O r (Md hr)) s h;omega) W zg))<|CT<|B6<|A2 5 rfl (Mk Y Y (by rw [Gq,Gq,Li];have:=PP ((BG rs (x.1:Int) x.2).length:Int) A1 A1;omega))<|Yz 6 62 127 [0] [true] [(0,(_,_))] rfl Y rfl rfl rfl rfl (Ah (vs:=[_]) (cs:=[_]) D2 Fi HT Y rfl rfl rfl rfl rfl)<|AE fun b3=>B6<|Yw 7 255 V (E5 (by_:=16) (sz:=1) (news:=[_]) D2 (V:Tryz.prog.info? 9=some Tryz.t9) V rfl V rfl Y m Y Wo Wh AN V Fm AH A1 A1) ?_;rintro _ _ ⟨l5,B,rfl⟩;obtain ⟨gB,gq,rfl⟩:=B.form;refine Yw 8 511 V (Zs HB Y Y V (hi:=by(simp;done)))<|CT<|Ag<|Zn [] ?_;refine A8<|F7 V (by exact ⟨_,_,V,BS B B0 (by simp [zC,GH,RJ])⟩)
 intro D1 H2 ax;obtain ⟨Z,s2,rfl,m⟩:=ax;refine Zn [3] ?_;refine A8<|Zx<|A0<|Zl Hc Y ?_;refine A3 Y<|AJ<|GN V (dM results135 Y) Wo (by exact ⟨s2,m,V⟩)
end Go.Proofs.YtfhjaegddfehhaaGreatDoor
