/- A patch gives the result on the rows after the change: rows, numbers, sums, least and greatest values. -/
import Derived.Test.YtlkdhannldcfbabGreatDoorPr5
set_option linter.unusedVariables false
set_option linter.unusedSimpArgs false
namespace Go.Proofs.YtlkdhannldcfbabGreatDoor
open Go.Proofs.Tryz
open Go Go.RowKit Gw
set_option maxRecDepth 100000
attribute [local irreducible] Gw.At Gw.Nx Gw.Ops
variable{rs:List AV}
theorem PS(g:BM rs):rs.Nodup:=g.imp (by
 intro a b h e;subst e;unfold AV.lt2 at h;omega)
variable{q:QM}
theorem PW(g:BH q)(rs:List AV)(x:AV):x∈CU rs q↔x∈rs/\inQ q x=true:=by rw [(IE g rs).mem_iff,GF]
theorem TK(g:BH q)(m:BM rs):(CU rs q).Nodup:=(IE g rs).nodup_iff.2 ((PS m).filter _)
theorem TJ(G:BH q){o:List AV}(g:BM rs)(hn:o.Nodup)(B:∀x,x∈o↔x∈rs/\inQ q x=true)(h2:o.Pairwise (leV q.cl.toNat)):o=CU rs q:=by
 have h:=IE G rs;refine TG g (f:=inQ q) (t:=q.tb) (fun r m=>(IH m).1) ?_ h h2 (Ey g _ _ _ _);exact (T7 hn ((PS g).filter _)).2 fun x=>by rw [B,GF]
variable{y x:AV}
theorem Po{b:Bool}(h:Iz q b x=some y):y=x/\b=true/\inQ q y=true:=by
 unfold Iz at h;split at h
 · rename_i h9
   rw [Ge]at h9;injection h with h
   subst h;exact ⟨V,h9⟩
 · cases h
theorem A55{b:Bool}(h:Iz q b x=none)(g:b=true):inQ q x=false:=by
 unfold Iz at h;rw [g,Ys]at h;split at h;· cases h
 · simp_all
theorem Sa(g:BH q)(y x:AV):Lv q y x=true↔Dq y q.cl.toNat<Dq x q.cl.toNat\/(Dq x q.cl.toNat=Dq y q.cl.toNat/\y.k<x.k):=by
 have hc:=g.2.1;have e:∀r,Bj r q.cl=Dq r q.cl.toNat:=fun r=>by
  have:=M5 r q.cl.toNat A0;rwa [show((q.cl.toNat:Nat):Int)=q.cl by omega]at this
 unfold Lv;rw [e,e,UP,Ge,HA,HA,HA]
theorem y8(B:BH q)(h:Lv q y x=false):leV q.cl.toNat x y:=by
 have g:=Sa B y x;rw [h]at g;unfold leV;have:¬(Dq y q.cl.toNat<Dq x q.cl.toNat\/(Dq x q.cl.toNat=Dq y q.cl.toNat/\y.k<x.k)):=fun m=>by cases g.2 m
 omega
theorem yA(g:BH q)(h:Lv q y x=true):leV q.cl.toNat y x:=by
 have:=(Sa g y x).1 h;unfold leV;omega
theorem XD(G:BH q){L:List AV}(O:L.Pairwise (leV q.cl.toNat))(y:AV):∃A B,L=A++B/\Ry (Lv q y) L y=A++[y]++B/\(∀x∈A,Lv q y x=false)/\(∀x∈B,Lv q y x=true):=by
 cases h:L.findIdx? (Lv q y)with
 |none=>
  refine ⟨L,[],by simp,?_,eR.1 h,by simp⟩;unfold Ry;rw [h];simp
 |some i=>
  obtain ⟨I,h2,J⟩:=cS.1 h;refine ⟨L.take i,L.drop i,(LO i L).symm,?_,fun x hx=>?_,fun x hx=>?_⟩
  · unfold Ry
    rw [h];rfl
  · obtain ⟨j,g⟩:=HU hx
    rw [HR]at g;split at g
    · rename_i hji
      obtain ⟨U,rfl⟩:=C7.1 g;simpa using J j hji
    · cases g
  · have m:=O.sublist (List.drop_sublist i L)
    rw [TX I]at hx m;rcases DS.1 hx with rfl|hx
    · exact h2
    · have K:=(SD.1 m).1 x hx
      have W:=(Sa G y _).1 h2;rw [Sa G];unfold leV at K;omega
theorem cK(g:AV->Bool)(L:List AV)(y:AV):(Ry g L y).Perm (y::L):=by
 unfold Ry;simp only [DH,PJ];refine To.trans ?_;rw [LO]
theorem jU(G:BH q){L:List AV}(g:L.Pairwise (leV q.cl.toNat))(y:AV):(Ry (Lv q y) L y).Pairwise (leV q.cl.toNat):=by
 obtain ⟨A,B,e,e2,O,U⟩:=XD G g y;rw [e2];rw [e]at g;obtain ⟨J,h2,K⟩:=S6.1 g;rw [DH];refine S6.2 ⟨J,SD.2 ⟨fun x hx=>yA G (U x hx),h2⟩,fun a I b m=>?_⟩;rcases DS.1 m with rfl|m
 · exact y8 G (O a I)
 · exact K a I b m
theorem xj(c:Chg)(x:AV):Ki c x=true↔x.is c.t c.k:=by
 unfold Ki AV.is;rw [Ge,HA,HA]
variable{c:Chg}
theorem U2(m:BH q)(g:BM rs)(B:Gd rs c):EB q c (CU rs q)=CU (ER rs c) q:=by
 have J:((CU rs q).filter fun x=>!Ki c x).Pairwise (leV q.cl.toNat):=(Ey g _ _ _ _).sublist cC;have K:((CU rs q).filter fun x=>!Ki c x).Nodup:=(TK m g).filter _
 have G:∀x,x∈((CU rs q).filter fun x=>!Ki c x)↔(x∈rs/\¬x.is c.t c.k)/\inQ q x=true:=fun x=>by
  rw [GF,PW m,W3,<-tD,xj];constructor;· rintro ⟨⟨a,b⟩,d⟩;exact ⟨⟨a,d⟩,b⟩
  · rintro ⟨⟨a,d⟩,b⟩;exact ⟨⟨a,b⟩,d⟩
 unfold EB;cases ha:afQ q c with
 |none=>
  refine TJ m (JS g B) K (fun x=>?_) J;rw [G,GM g B];constructor;· rintro ⟨a,b⟩;exact ⟨.inl a,b⟩
  · rintro ⟨a|⟨a,rfl⟩,b⟩
    · exact ⟨a,b⟩
    · rw [A55 ha a]at b;cases b
 |some y=>
  obtain ⟨hy,O,hi⟩:=Po ha;have I:y∉((CU rs q).filter fun x=>!Ki c x):=fun h=>((G y).1 h).1.2 (by rw [hy];exact ⟨rfl,rfl⟩)
  refine TJ m (JS g B) ((cK _ _ y).nodup_iff.2 (LI.2 ⟨I,K⟩)) (fun x=>?_) (jU m J y);rw [(cK _ _ y).mem_iff,DS,G,GM g B];constructor
  · rintro (rfl|⟨a,b⟩)
    · exact ⟨.inr ⟨O,hy⟩,hi⟩
    · exact ⟨.inl a,b⟩
  · rintro ⟨a|⟨a,e⟩,b⟩
    · exact .inr ⟨a,b⟩
    · exact .inl (e.trans hy.symm)
theorem dW(lt:Int->Int->Bool)(G:∀a b c,lt b a=false->lt c b=false->lt c a=false)(m:∀a,lt a a=false)(g:∀a b,lt a b=true->lt b a=false)(B:∀a b,lt a b=false->lt b a=false->a=b){l:List Int}{x:Int}(hx:x∈l)(h:∀y∈l,lt y x=false):Ei lt l=⟨[],x,true⟩:=by
 match l,hx,h with
 |z::l,hx,h=>
  obtain ⟨I,J,K,O⟩:=Kn lt G m g z l;rw [O,B x I (K x hx) (h I J)]
theorem A99(lt:Int->Int->Bool)(l:List Int)(n:Int):Ei lt (l++[n])=⟨(Ei lt l).rows,if !(Ei lt l).fnd||lt n (Ei lt l).val then n else(Ei lt l).val,true⟩:=by
 unfold Ei;rw [X2];rfl
theorem rC(lt:Int->Int->Bool)(G:∀a b c,lt b a=false->lt c b=false->lt c a=false)(g:∀a,lt a a=false)(m:∀a b,lt a b=true->lt b a=false)(B:∀a b,lt a b=false->lt b a=false->a=b)(X:List Int)(b a:Option Int)
 (h:(LW lt b.isSome a.isSome (b.getD 0) (a.getD 0) (Ei lt (X++b.toList))).2=true):(LW lt b.isSome a.isSome (b.getD 0) (a.getD 0) (Ei lt (X++b.toList))).1=Ei lt (X++a.toList):=by
 have I:∀r:C8,r=Ei lt X->(if a.isSome then((⟨r.rows,if !r.fnd||lt (a.getD 0) r.val then a.getD 0 else r.val,true⟩:C8),true)else(r,true)).1=Ei lt (X++a.toList):=fun r hr=>by
  subst hr;cases a with
  |none=>simp
  |some n=>rw [tA,A99];rfl
 cases b with
 |none=>
  have e:Ei lt (X++(none:Option Int).toList)=Ei lt X:=by simp
  rw [e]at h⊢;exact I _ V
 |some o=>
  have K:∃x∈X++[o],(∀y∈X++[o],lt y x=false)/\Ei lt (X++[o])=⟨[],x,true⟩:=by
   cases hx:X++[o]with
   |nil=>simp at hx
   |cons z l=>exact Kn lt G g m z l
  obtain ⟨x,W,h2,Z⟩:=K;rw [tA]at h⊢;rw [Z]at h⊢;unfold LW at h⊢;simp only [Option.isSome_some,lB,Ys,US,oS]at h⊢;cases hxo:lt x o with
  |false=>
   rw [hxo]at h;simp only [eh,KK]at h⊢;have O:=h2 o B7
   have J:=B x o hxo O;subst J;cases a with
   |none=>simp at h
   |some n=>
    simp only [Option.isSome_some,lB,Ys,ij,W3]at h;rw [tA,dW lt G g m B (x:=n) B7 fun y hy=>?_];· rfl
    · rcases CD.1 hy with hy|hy
      · exact G n x y h (h2 y (by simp [hy]))
      · rw [CH.1 hy];exact g n
  |true=>
   simp only [US,P0,I0];have U:x∈X:=by
    rcases CD.1 W with h9|h9
    · exact h9
    · rw [CH.1 h9,g]at hxo;cases hxo
   have e:(⟨[],x,true⟩:C8)=Ei lt X:=(dW lt G g m B U fun y hy=>h2 y (by simp [hy])).symm;have:=I _ e
   simpa using this
theorem Pq(q:QM)(a b:List AV):Cz q (a++b)=Cz q a++Cz q b:=CN
theorem bF(q:QM)(o:Option AV):Cz q o.toList=(o.map fun r=>Bj r q.bq).toList:=by cases o<;>rfl
theorem jD(q:QM)(o:Option AV):mQ q o=(o.map fun r=>Bj r q.bq).getD 0:=by cases o<;>rfl
theorem lX(q:QM)(o:Option AV):o.isSome=(o.map fun r=>Bj r q.bq).isSome:=by cases o<;>rfl
theorem AF5(o:Option Int):KG o.toList=o.getD 0:=by
 cases o with
 |none=>rfl
 |some x=>show x+0=x;omega
theorem ai(K:BH q)(hs:BM rs)(hf:Gd rs c)(h7:q.kd≠7)(J:Ct q c=true)(h:(CE q c (Cj rs q)).2=true):(CE q c (Cj rs q)).1=Cj (ER rs c) q:=by
 obtain ⟨A,B,e1,e2⟩:=Qk hf;have f1:rs.filter (inQ q)=A.filter (inQ q)++(bfQ q c).toList++B.filter (inQ q):=by
  conv=>lhs;rw [e1]
  rw [L7,L7,UI]
 have f2:(ER rs c).filter (inQ q)=A.filter (inQ q)++(afQ q c).toList++B.filter (inQ q):=by
  rw [e2,L7,L7,UJ]
 have p1:=IE K rs;have p2:=IE K (ER rs c)
 rw [f1]at p1;rw [f2]at p2;have hk:=K.2.2.2
 have l1:=p1.length_eq;have l2:=p2.length_eq
 simp only [C0]at l1 l2;have m1:(Cz q (CU rs q)).Perm ((Cz q (A.filter (inQ q))++Cz q (B.filter (inQ q)))++((bfQ q c).map fun r=>Bj r q.bq).toList):=by
  rw [<-bF,<-Pq,<-Pq];refine (p1.map _).trans (List.Perm.map _ ?_);simp only [DH];exact Th _ OS
 have m2:(Cz q (CU (ER rs c) q)).Perm ((Cz q (A.filter (inQ q))++Cz q (B.filter (inQ q)))++((afQ q c).map fun r=>Bj r q.bq).toList):=by
  rw [<-bF,<-Pq,<-Pq];refine (p2.map _).trans (List.Perm.map _ ?_);simp only [DH];exact Th _ OS
 have hx:∀lt:Int->Int->Bool,(∀a b c,lt b a=false->lt c b=false->lt c a=false)->(∀a,lt a a=false)->(∀a b,lt a b=true->lt b a=false)->(∀a b,lt a b=false->lt b a=false->a=b)->(LW lt (bfQ q c).isSome (afQ q c).isSome (mQ q (bfQ q c)) (mQ q (afQ q c)) (Ei lt (Cz q (CU rs q)))).2=true->(LW lt (bfQ q c).isSome (afQ q c).isSome (mQ q (bfQ q c)) (mQ q (afQ q c)) (Ei lt (Cz q (CU rs q)))).1=Ei lt (Cz q (CU (ER rs c) q)):=fun lt O U W X h9=>by
  rw [Q6 lt O U W X (fun y=>m1.mem_iff),jD,jD,lX,lX]at h9⊢;rw [Q6 lt O U W X (fun y=>m2.mem_iff)];exact rC lt O U W X _ _ _ h9
 unfold CE Cj Fb at h⊢;unfold Ct at J;rcases (by omega:(q.kd=1\/q.kd=2)\/q.kd=3\/q.kd=4\/q.kd=5\/q.kd=6)with h8|h8|h8|h8|h8
 · have G:¬q.kd=3:=by omega
   have I:¬q.kd=4:=by omega
   have Z:¬q.kd=5:=by omega
   have g6:¬q.kd=6:=by omega
   simp only [Ax h8,G,I,Z,g6,h7,I0,U2 K hs hf]
 · have m:¬(q.kd=1\/q.kd=2):=by omega
   simp only [As m,Ax h8]at J⊢;unfold VU at J;cases hb:bfQ q c<;>cases ha:afQ q c<;>rw [hb,ha]at J<;>rw [hb]at l1<;>rw [ha]at l2<;>simp at J l1 l2⊢<;>omega
 · have m:¬(q.kd=1\/q.kd=2):=by omega
   have G:¬q.kd=3:=by omega
   simp only [As m,G,Ax h8,I0];have s1:=ND m1
   have s2:=ND m2;rw [ZP,AF5,<-jD]at s1 s2;have g:∀l,M8 l=KG l:=fun l=>by unfold M8;rw [Nf];omega
   simp only [g];congr 1;omega
 · have m:¬(q.kd=1\/q.kd=2):=by omega
   have G:¬q.kd=3:=by omega
   have I:¬q.kd=4:=by omega
   simp only [As m,G,I,Ax h8,I0]at h⊢;exact hx _ (fun a b c h1 h2=>by simp only [Q1]at*;omega) (fun a=>by simp) (fun a b h=>by simp only [HA,Q1]at*;omega) (fun a b h1 h2=>by simp only [Q1]at*;omega) h
 · have m:¬(q.kd=1\/q.kd=2):=by omega
   have G:¬q.kd=3:=by omega
   have I:¬q.kd=4:=by omega
   have Z:¬q.kd=5:=by omega
   simp only [As m,G,I,Z,Ax h8,I0]at h⊢;exact hx _ (fun a b c h1 h2=>by simp only [Q1]at*;omega) (fun a=>by simp) (fun a b h=>by simp only [HA,Q1]at*;omega) (fun a b h1 h2=>by simp only [Q1]at*;omega) h
theorem Fz(m:BM rs)(k:Int)(x:AV):Dm q (Ia rs q.ot) k=some x↔x∈rs/\x.is q.ot k:=by
 have J:∀a∈rs,∀b∈rs,a.is q.ot k->b.is q.ot k->a=b:=fun a G b I B h2=>by
  have e1:=Kl m G B;have e2:=Kl m I h2
  rw [e1]at e2;injection e2
 have g:∀y,y∈Ia rs q.ot/\decide (y.t=q.ot/\y.k=k)=true↔y∈rs/\y.is q.ot k:=fun y=>by
  unfold Ia inT AV.is;rw [GF,HA,HA];constructor;· rintro ⟨⟨a,_⟩,b⟩;exact ⟨a,b⟩
  · rintro ⟨a,b⟩;exact ⟨⟨a,b.1⟩,b⟩
 unfold Dm;constructor
 · intro h
   exact (g x).1 ⟨my h,by simpa using nw (p:=fun x:AV=>decide (x.t=q.ot/\x.k=k)) h⟩
 · intro h
   cases hf:(Ia rs q.ot).find? fun x=>decide (x.t=q.ot/\x.k=k)with
   |none=>
    have:=nh.1 hf x ((g x).2 h).1;exact absurd ((g x).2 h).2 this
   |some y=>
    have h2:=(g y).1 ⟨my hf,by simpa using nw (p:=fun x:AV=>decide (x.t=q.ot/\x.k=k)) hf⟩;rw [J y h2.1 x h.1 h2.2 h.2]
def prQ(rs:List AV)(q:QM)(r:AV):Option Ba:=(Dm q (Ia rs q.ot) (Bj r q.bq)).map fun x=>⟨r,x⟩
def uL(rs:List AV)(q:QM):List Ba:=(CU rs q).filterMap (prQ rs q)
theorem bS(rs:List AV)(q:QM):∀l:List AV,J7 q l (Ia rs q.ot)=DW (l.filterMap (prQ rs q))
 |[]=>rfl
 |r::l=>by
  have h:=bS rs q l;unfold J7 at h⊢;rw [Hv,h,nb];unfold J5 prQ;cases Dm q (Ia rs q.ot) (Bj r q.bq)<;>rfl
theorem iU(ps:List Ba):F6 (DW ps)=ps:=by
 have G:(DW ps).length=2*ps.length:=IU ps;have g:∀(ps:List Ba) (k:Nat) (p:Ba),ps[k]?=some p->(DW ps)[2*k]?=some p.l/\(DW ps)[2*k+1]?=some p.r:=by
  intro ps;induction ps with
  |nil=>intro k p h;cases h
  |cons a ps ih=>
   intro k p h;have e:DW (a::ps)=a.l::a.r::DW ps:=rfl
   rw [e];cases k with
   |zero=>injection h with h;subst h;exact ⟨rfl,rfl⟩
   |succ k=>
    have:=ih k p h;rw [show 2*(k+1)=2*k+2 by omega];exact this
 apply P2;intro k;have m:(F6 (DW ps)).length=ps.length:=by rw [KZ];omega
 rcases Fi k ps.length with h|h
 · obtain ⟨B,h2⟩:=g ps k _ (BT h)
   unfold F6;rw [E6,Wr A0,PB,OR,OR,B,h2,BT h];rfl
 · rw [Of A0,Of h]
variable{α:Type}
theorem vN{a b:Option α}(h:∀x,a=some x↔b=some x):a=b:=Option.ext h
theorem WX{r:AV}{p:Ba}(h:prQ rs q r=some p):p.l=r/\Dm q (Ia rs q.ot) (Bj r q.bq)=some p.r:=by
 unfold prQ at h;cases hp:Dm q (Ia rs q.ot) (Bj r q.bq)with
 |none=>rw [hp]at h;cases h
 |some x=>rw [hp]at h;injection h with h;subst h;exact ⟨rfl,rfl⟩
theorem Uj{α β:Type}{f g:α->Option β}:∀{l:List α},(∀x∈l,f x=g x)->l.filterMap f=l.filterMap g
 |[],_=>rfl
 |x::l,h=>by rw [nb,nb,h x B7,Uj fun y hy=>h y (by simp [hy])]
theorem O4{β γ:Type}(f:α->Option β)(g:β->Option γ)(h:α->Option γ)(l:List α)(e:∀x∈l,(f x).bind g=h x):(l.filterMap f).filterMap g=l.filterMap h:=by
 rw [ra];exact Uj e
theorem A97(g:Ba->Bool)(A B:List Ba)(y:Ba)(m:∀x∈A,g x=false)(G:∀x∈B,g x=true):Px g (A++B) y=A++[y]++B:=by
 have e:((A++B).findIdx? g).getD (A++B).length=A.length:=by
  rw [List.findIdx?_append,eR.2 m];cases B with
  |nil=>simp
  |cons b B=>rw [List.findIdx?_cons,G b B7];simp
 unfold Px;rw [e];simp
theorem ah(hq:BH q)(K:BM rs)(X:Gd rs c)(h7:q.kd=7)(ht:Ct q c=true)(h:(CE q c (Cj rs q)).2=true):(CE q c (Cj rs q)).1=Cj (ER rs c) q:=by
 have j3:=JS K X;have gQ:∀rs,Cj rs q=⟨DW (uL rs q),0,false⟩:=fun rs=>by
  unfold Cj Fb;simp only [show¬q.kd=3 by omega,show¬q.kd=4 by omega,show¬q.kd=5 by omega,show¬q.kd=6 by omega,h7,KK,I0];rw [bS];rfl
 have l9:∀r,CE q c r=DJ q c r:=fun r=>by
  unfold CE;simp only [show¬(q.kd=1\/q.kd=2) by omega,show¬q.kd=3 by omega,show¬q.kd=4 by omega,show¬q.kd=5 by omega,show¬q.kd=6 by omega,I0]
 have o9:Ou q c=true\/c.t=q.ot:=by
  unfold Ct at ht;simp only [show¬(q.kd=1\/q.kd=2) by omega,show¬q.kd=3 by omega,show¬q.kd=4 by omega,show¬(q.kd=5\/q.kd=6) by omega,I0,UP,HA]at ht;exact ht
 rw [l9,gQ]at h⊢;rw [gQ];unfold DJ at h⊢;split;· rename_i g;rw [Ax g]at h;cases h
 rename_i hto;rw [As hto]at h;simp only [iU]at h⊢;congr 2;have gm:c.t≠q.tb->CU (ER rs c) q=CU rs q:=fun ic=>by
  refine (TJ hq j3 (TK hq K) (fun x=>?_) (Ey K _ _ _ _)).symm;rw [PW hq,GM K X];constructor
  · rintro ⟨a,b⟩
    exact ⟨.inl ⟨a,fun g=>ic (g.1.symm.trans (IH b).1)⟩,b⟩
  · rintro ⟨⟨a,_⟩|⟨a,rfl⟩,b⟩
    · exact ⟨a,b⟩
    · exact absurd (IH b).1 ic
 unfold jnT uL at h⊢;by_cases G:c.t=q.ot
 · rw [Ax G]at h⊢
   rw [gm A0];have U:∀k,Dm q (Ia (ER rs c) q.ot) k=if k=c.k then(if c.has then some ⟨c.t,c.k,c.n⟩else none)else Dm q (Ia rs q.ot) k:=fun k=>by
    apply vN;intro x;rw [Fz j3,GM K X];unfold AV.is;split
    · rename_i m
      split
      · rename_i O
        rw [Option.some_inj];constructor
        · rintro ⟨⟨_,a⟩|⟨_,rfl⟩,b,d⟩
          · exact absurd ⟨b.trans G.symm,d.trans m⟩ a
          · rfl
        · rintro rfl;exact ⟨.inr ⟨O,rfl⟩,G,m.symm⟩
      · rename_i O
        constructor
        · rintro ⟨⟨_,a⟩|⟨a,_⟩,b,d⟩
          · exact absurd ⟨b.trans G.symm,d.trans m⟩ a
          · exact absurd a O
        · intro g;cases g
    · rename_i m
      rw [Fz K];unfold AV.is;constructor
      · rintro ⟨⟨a,_⟩|⟨_,rfl⟩,b⟩
        · exact ⟨a,b⟩
        · exact absurd b.2.symm m
      · rintro ⟨a,b,d⟩
        exact ⟨.inl ⟨a,fun g=>m (d.symm.trans g.2)⟩,b,d⟩
   have af:c.had=true->∃x,Dm q (Ia rs q.ot) c.k=some x:=fun O=>by
    obtain ⟨r,hr,hi,_⟩:=Jb (X.1.trans O);exact ⟨r,(Fz K c.k r).2 ⟨hr,by rw [<-G];exact hi⟩⟩
   have J:∀{k x},Dm q (Ia rs q.ot) k=some x->x.k=k:=fun g=>((Fz K _ _).1 g).2.2;split
   · rename_i O
     rw [Ax O]at h;obtain ⟨x0,W⟩:=af h;rw [<-List.filterMap_eq_map];refine O4 _ _ _ _ fun r _=>?_;unfold prQ;rw [U,O];by_cases m:Bj r q.bq=c.k
     · rw [m,W,Ax rfl]
       simp only [PB,LR,Function.comp_apply,I7,J W,decide_true,KK]
     · rw [As m]
       cases I:Dm q (Ia rs q.ot) (Bj r q.bq)with
       |none=>rfl
       |some x=>simp only [PB,LR,Function.comp_apply,I7,J I,m,eL,P0,I0]
   · rename_i O
     rw [As O]at h;rw [<-rh];refine O4 _ _ _ _ fun r _=>?_;unfold prQ;rw [U,As O];by_cases m:Bj r q.bq=c.k
     · rw [m,Ax rfl]
       obtain ⟨x0,W⟩:=af h;rw [W];simp [Option.guard,I7,J W]
     · rw [As m]
       cases I:Dm q (Ia rs q.ot) (Bj r q.bq)with
       |none=>rfl
       |some x=>simp [Option.guard,I7,J I,m]
 · rw [As G]at h⊢
   have hg:∀r,prQ (ER rs c) q r=prQ rs q r:=fun r=>by unfold prQ;rw [lD X G]
   have l8:prQ (ER rs c) q=prQ rs q:=funext hg;rw [l8];have o8:c.t=q.tb:=by
    rcases o9 with g|g
    · unfold Ou at g
      rw [UP]at g;rcases g with g|g
      · obtain ⟨y,hy⟩:=kk.1 g
        obtain ⟨e,_,hi⟩:=Po hy;rw [e]at hi;exact (IH hi).1
      · obtain ⟨y,hy⟩:=kk.1 g
        obtain ⟨e,_,hi⟩:=Po hy;rw [e]at hi;exact (IH hi).1
    · exact absurd g G
   have ek:((CU rs q).filterMap (prQ rs q)).filter (fun p=>!Qy c.k p)=((CU rs q).filter fun x=>!Ki c x).filterMap (prQ rs q):=by
    rw [<-rh,<-rh,ra,ra];refine Uj fun r hr=>?_;have Z:r.t=c.t:=((IH ((PW hq rs r).1 hr).2).1).trans o8.symm
    by_cases m:r.k=c.k
    · cases I:prQ rs q r with
      |none=>simp [Option.guard,Ki,Z,m]
      |some p=>simp [Option.guard,Ki,Z,m,Qy,(WX I).1]
    · cases I:prQ rs q r with
      |none=>simp [Option.guard,Ki,Z,m,I]
      |some p=>simp [Option.guard,Ki,Z,m,Qy,(WX I).1,I]
   rw [ek]at h⊢;have gq:=U2 hq K X
   rw [<-gq];unfold EB;cases ha:afQ q c with
   |none=>rfl
   |some y=>
    rw [ha]at h;simp only [ha]at h⊢;have hm:mQ q (some y)=Bj y q.bq:=rfl
    rw [hm]at h⊢;have hL:((CU rs q).filter fun x=>!Ki c x).Pairwise (leV q.cl.toNat):=(Ey K _ _ _ _).sublist cC
    obtain ⟨A,B,e1,e2,hA,hB⟩:=XD hq hL y;rw [e2];cases hfi:((CU rs q).filterMap (prQ rs q)).findIdx? (I7 (Bj y q.bq))with
    |none=>
     have hi:He (I7 (Bj y q.bq)) ((CU rs q).filterMap (prQ rs q))=-1:=by unfold He;rw [hfi];rfl
     rw [hi,Ax B0]at h⊢;rw [Ge,HA]at h;obtain ⟨b,hb⟩:=kk.1 h.1;obtain ⟨eb,gy,kv⟩:=Po hb;have g:=h.2
     rw [hb]at g;have l5:b∈CU rs q:=by
      refine (PW hq rs b).2 ⟨?_,kv⟩;obtain ⟨r,hr,hi,_,he⟩:=Jb (X.1.trans gy);have hv:=X.2 (X.1.trans gy)
      rw [he]at hv;have:b=r:=by
       rw [eb];obtain ⟨t,k,v⟩:=r;obtain ⟨h5,h6⟩:=hi;simp only at h5 h6 hv;subst h5 h6 hv;rfl
      rw [this];exact hr
     have bn:prQ rs q b=none:=by
      cases I:prQ rs q b with
      |none=>rfl
      |some p=>
       have ax:=eR.1 hfi p (cV.2 ⟨b,l5,I⟩);have j5:=(Fz K _ _).1 (WX I).2
       unfold I7 at ax;rw [Q1]at ax;exact absurd (j5.2.2.trans g) ax
     have cu:prQ rs q y=none:=by
      unfold prQ at bn⊢;rw [show Bj y q.bq=Bj b q.bq from g.symm];cases I:Dm q (Ia rs q.ot) (Bj b q.bq)with
      |none=>rfl
      |some x=>rw [I]at bn;cases bn
     rw [e1,fz,fz,fz];simp [cu]
    |some i=>
     obtain ⟨h1,h2,h3⟩:=cS.1 hfi;have hi:He (I7 (Bj y q.bq)) ((CU rs q).filterMap (prQ rs q))=(i:Int):=by unfold He;rw [hfi];rfl
     rw [hi,As A0]at h⊢;rw [SJ,OR,BT h1,lB];obtain ⟨r,hr,I⟩:=cV.1 (tI h1);generalize ((CU rs q).filterMap (prQ rs q))[i]=p at h2 I;have h4:=(Fz K _ _).1 (WX I).2
     unfold I7 at h2;rw [HA]at h2;have cu:prQ rs q y=some ⟨y,p.r⟩:=by
      unfold prQ;rw [(Fz K (Bj y q.bq) p.r).2 ⟨h4.1,h4.2.1,h2⟩];rfl
     rw [e1,fz,A97];· simp [cu]
     · intro x hx
       obtain ⟨r9,d9,cO⟩:=cV.1 hx;rw [(WX cO).1];exact hA r9 d9
     · intro x hx
       obtain ⟨r9,d9,cO⟩:=cV.1 hx;rw [(WX cO).1];exact hB r9 d9
theorem iN(B:BH q)(G:BM rs)(m:Gd rs c)(I:Ct q c=true)(h:(CE q c (Cj rs q)).2=true):(CE q c (Cj rs q)).1=Cj (ER rs c) q:=by
 by_cases g:q.kd=7
 · exact ah B G m g I h
 · exact ai B G m g I h
def Fs(q:QM)(base:Int):Nat->C8×Int->List BF->Option (C8×Int)
 |_,st,[]=>some st
 |i,st,x::l=>if(Bf q st.1 x.cs).2.2=true/\base<=9223372036854775806 -(i:Int)/\x.p=base+1+(i:Int)then Fs q base (i+1) ((Bf q st.1 x.cs).1,if(Bf q st.1 x.cs).2.1 then x.p else st.2) l else none
theorem PZ(q:QM)(base:Int):∀(a:List BF) (i:Nat) (st:C8×Int) (b:List BF),Fs q base i st (a++b)=(Fs q base i st a).bind fun g=>Fs q base (i+a.length) g b
 |[],i,st,b=>rfl
 |x::a,i,st,b=>by
  show(if(Bf q st.1 x.cs).2.2=true/\base<=9223372036854775806 -(i:Int)/\x.p=base+1+(i:Int)then Fs q base (i+1) _ (a++b)else none)=(if(Bf q st.1 x.cs).2.2=true/\base<=9223372036854775806 -(i:Int)/\x.p=base+1+(i:Int)then Fs q base (i+1) _ a else none).bind _;split;· rw [PZ q base a (i+1) _ b,F2,show i+(a.length+1)=i+1+a.length by omega]
  · rfl
theorem JK{base:Int}{st g:C8×Int}{l:List BF}{k:Nat}{x:BF}(h:Fs q base 0 st (l.take k)=some g)(hx:l[k]?=some x):Fs q base 0 st (l.take (k+1))=if(Bf q g.1 x.cs).2.2=true/\base<=9223372036854775806 -(k:Int)/\x.p=base+1+(k:Int)then some ((Bf q g.1 x.cs).1,if(Bf q g.1 x.cs).2.1 then x.p else g.2)else none:=by
 have m:=(C7.1 hx).1;rw [Bl hx,PZ,h,Cd,SR A0,Dd];rfl
theorem NG{base:Int}{st:C8×Int}{l:List BF}{k:Nat}(h:Fs q base 0 st (l.take k)=none):Fs q base 0 st l=none:=by
 rw [<-LO k l,PZ,h];rfl
def BI(q:QM)(r:C8)(base:Int)(l:List BF):C8×Int×Bool:=match Fs q base 0 (r,base) l with
 |some st=>(st.1,st.2,true)
 |none=>(C8.none,0,false)
variable{r:C8}
theorem NA{cs:List Chg}(h:(Bf q r cs).2.2=true):IG q r cs=some (Bf q r cs).1/\(Bf q r cs).2.1=cs.any (Dt q):=by
 unfold Bf at*;split at h;· rename_i h9;rw [h9];exact ⟨rfl,rfl⟩
 · cases h
theorem SK{q:QM}{base:Int}:∀(l:List BF) (i:Nat) (st st':C8×Int) (B:Int) (n:Nat),Fs q base i st l=some st'->(∀x∈l,x.cs.length<=1000)->(-B<=st.1.val/\st.1.val<=B)->0<=B->st.1.rows.length<=n->(-(B+2000000000000*(l.length:Int))<=st'.1.val/\st'.1.val<=B+2000000000000*(l.length:Int))/\st'.1.rows.length<=n+2000*l.length
 |[],i,st,st',B,n,h,hl,h1,h2,h3=>by
  unfold Fs at h;injection h with h
  subst h;simp only [MY];exact ⟨⟨by omega,by omega⟩,h3⟩
 |x::l,i,st,st',B,n,h,hl,h1,h2,h3=>by
  unfold Fs at h;split at h
  · rename_i h9
    have G:=Y0 _ _ _ B n (NA h9.1).1 h1 h2 h3;have I:=hl x B7
    have m:=SK l (i+1) _ st' (B+2000000000000) (n+2000) h (fun y hy=>hl y (by simp [hy])) ⟨by simp only;omega,by simp only;omega⟩ A0 (by simp only;omega);rw [F2];obtain ⟨⟨J,K⟩,g⟩:=m;refine ⟨⟨?_,?_⟩,by omega⟩<;>(push_cast;omega)
  · cases h
set_option maxHeartbeats 1000000 in
theorem RV(q:QM)(hq:BH q)(base:Int)(hb:-9223372036854775808<=base/\base<=9223372036854775807){l:List BF}{lv:A2}{ML:List A8}(hL:Dx ML lv l)(l9:l.length<=1000)(O:∀x∈l,x.cs.length<=1000){rv:A2}{A:List A8}(hr:Dp A rv r.rows)(hn:r.rows.length<=1000000)(hv:-1000000000000000000<=r.val/\r.val<=1000000000000000000):BS prog 87 #[.agg q.BM5,.agg #[rv,I4 r.val,.bool r.fnd],I4 base,lv] [A,ML] (fun w H'=>∃Z s',w= .tuple #[.agg #[Z,I4 (BI q r base l).1.val,.bool (BI q r base l).1.fnd],I4 (BI q r base l).2.1,.bool (BI q r base l).2.2]/\BU 5 83 Z (BI q r base l).1.rows.length (Ae (BI q r base l).1.rows) s'/\H'=[s',A,ML]):=by
 have o9:=mL;obtain ⟨pv,cv,rfl,_⟩:=id hr;obtain ⟨pl,j5,rfl,⟨o8,l8⟩,d9⟩:=id hL;refine Se func87 ntmps87 [0,1,2,3] ?_;intro u R;refine A3<|Ze (Bx q.BM5)<|AF fun bq=>Ze (Bx #[.slice pv r.rows.length cv,I4 r.val,.bool r.fnd])<|AF fun br=>Ze (Al HS #[_,_,_])<|AF fun bo=>Za Y<|AH Y<|AK Y<|AH Y<|A3<|Zh 0 FA V rfl E3 Y<|Zl GP Y<|Zc [_] Y call107 Y V (Gu hr A0) ?_;rintro _ _ ⟨_,⟨s1,h1,rfl⟩,rfl⟩;obtain ⟨g1,c1,rfl⟩:=h1.form;refine Zh 0 FA V rfl E3 Y<|Xe (Zs E3 Y Y V (hi:=by(simp;done)))<|A4<|B8 Y<|Zv (AR G2 Y)<|Zm Y<|Z0<|Zn [2,4,5,8,11,22,23,24] ?_;refine Zx<|AQ<|Zb [11,24,2,4,5,8,22,23] ?_;refine Aw (e0:=[(11,_),(24,_)]) (fun m e H=>∃(k:Nat) (g:C8×Int) (gk:BE) (ck:Nat) (sk:List A8),m=l.length -k/\(k<=l.length/\Fs q base 0 (r,base) (l.take k)=some g/\BU 5 83 (.slice gk g.1.rows.length ck) g.1.rows.length (Ae g.1.rows) sk)/\e=[(11,I4 g.2),(24,I4 (k:Int))]/\H=[[(br,.cells #[.slice gk g.1.rows.length ck,I4 g.1.val,.bool g.1.fnd] 60 (0,0))],sk]) (by exact ⟨0,(r,base),g1,c1,s1,rfl,⟨CM _,by rw [JT];rfl,h1⟩,rfl,rfl⟩) Wp ?_;rintro _ _ _ ⟨k,g,gk,ck,sk,rfl,⟨hk,B,X⟩,rfl,rfl⟩;obtain ⟨gy,gq⟩:=SK (l.take k) 0 (r,base) g 1000000000000000000 1000000 B (fun x hx=>O x (RW hx)) hv A0 hn;have gm:(l.take k).length=k:=by rw [Cd];omega
 rw [gm]at gy gq;have cO:=Dl X A0
 refine A3<|Zv (Ap Y Y)<|A4<|Zq<|Ak Y (fun W=>?_) (fun W=>?_);·
  obtain ⟨x,hx⟩:∃x,l[k]?=some x:=⟨_,BT W⟩;have ic:=O x (Ek hx)
  obtain ⟨cu,g2,l5,K,T2,j3,rfl,gQ,kv,U⟩:=d9 k x hx;refine B3<|Zq<|AQ<|AK Y<|BX (AZ G2 E0 Y Y A0)<|Bu (cs:=[(g2,.cells K T2 j3)]) (by simp [gQ]) (A9 (cs:=#[_,_]) HN E0 Y A0 U) V rfl<|Ze (Al N2 #[_,_])<|AF fun bx=>Za Y<|Xe (Xw E0 #[I4 x.p,.slice x.q x.cs.length x.cap])<|A4<|A3<|Zo Wh (A9 (cs:=#[_,_,_,_,_,_,_]) Fm D4 Y B5 B1)<|Zo Wh (A9 (cs:=#[_,_,_]) EV C5 Y B5 B1)<|Zo Wh (A9 (cs:=#[_,_]) HN E0 Y B5 B1)<|Zc [_,_,_] Y call46 Y V (Je q hq x.p x.q x.cap x.cs cu ic cO A0 A0) ?_;rintro _ _ ⟨_,⟨p8,s3,rfl,h3,rfl⟩,rfl⟩;obtain ⟨g3,c3,rfl⟩:=h3.form;refine Zm Y<|Zd Y V<|Zd Y V<|Zd Y V<|Ze (Al HS #[_,_,_])<|AF fun bn=>Xe (Xw C5 #[.slice g3 (Bf q g.1 x.cs).1.rows.length c3,I4 (Bf q g.1 x.cs).1.val,.bool (Bf q g.1 x.cs).1.fnd])<|Za Y<|B2 Y<|Zn [2,4,5,8,11,12,13,14,15,16,22,23,24] ?_;refine Zx<|B8 Y<|Zv (Bo Y)<|Zm Y<|Ad (t:=39) Y V (fun J=>?_) (fun J=>?_);focus
   have G:(Bf q g.1 x.cs).2.2=false:=by simpa using J
   refine AG<|AG<|C1 Y Y<|Zm Y<|AG<|AG<|AG<|C4<|C1 Y Y<|Z0<|Zn [2,4,5,8,11,13,14,15,22,23,24,53] ?_;refine Zx<|Cy Y<|Zq<|Bc ?_;have I:BI q r base l=(C8.none,0,false):=by unfold BI;rw [NG (k:=k+1) (by rw [JK B hx,As (by(rw [G];rintro ⟨h,_⟩;cases h;done))])]
  rotate_left
  focus
   have G:(Bf q g.1 x.cs).2.2=true:=by simpa using J
   refine Zf Y Y<|Zf Y Y<|Gy Y (CQ (m:=9223372036854775806) Y Y A0 A0) V rfl ?_;refine Yg (F4 Y Y)<|B9 Y Y<|Zm Y<|Af (t:=45) Y V (fun af=>?_) (fun af=>?_);focus
    refine AG<|AG<|AG<|C4<|C1 Y Y<|Z0<|Zn [2,4,5,8,11,13,14,15,22,23,24,53] ?_;refine Zx<|Cy Y<|Zq<|Bc ?_;have I:BI q r base l=(C8.none,0,false):=by unfold BI;rw [NG (k:=k+1) (by rw [JK B hx,As (by(rintro ⟨_,h8,h9⟩;omega))])]
   rotate_left
   focus
    refine Yf 0 GS V rfl A6 Y<|Yl AE Y<|Zf Y Y<|Gy Y (J6 Y Y (IntWalk.i64_in _ A0)) V rfl ?_;refine Zf Y Y<|Gy Y (J6 Y Y (IntWalk.i64_in _ A0)) V rfl ?_;refine Yg (I8 Y Y)<|B9 Y Y<|Z0<|Zn [2,4,5,8,11,13,14,15,22,23,24,53] ?_;refine Zx<|Ak Y (fun ax=>?_) (fun ax=>?_);focus
     refine Zq<|Bc ?_;have I:BI q r base l=(C8.none,0,false):=by unfold BI;rw [NG (k:=k+1) (by rw [JK B hx,As (by(rintro ⟨_,h8,h9⟩;omega))])]
    rotate_left
    refine AC<|C6<|Zo Wh (A9 (cs:=#[_,_,_]) EV C5 Y B5 B1)<|Xe (BJ C5 Y Y K0 Wu B1 G4 B5 (by exact BB _))<|A4<|AK Y<|A4<|AY Y (fun ht=>?_) (fun ht=>?_);·
     refine Zg<|Zh 0 GS V rfl A6 Y<|Zl AE Y<|B2 Y<|AA<|Zx<|Dg Y Y Y<|DG (e:=[(11,_),(24,_)]) (h:=by exact ⟨k+1,((Bf q g.1 x.cs).1,x.p),g3,c3,s3,rfl,⟨by omega,by rw [JK B hx,Ax ⟨G,by omega,by omega⟩,ht];rfl,h3⟩,rfl,rfl⟩)
    refine AC<|AA<|Zx<|Dg Y Y Y<|DG (e:=[(11,_),(24,_)]) (h:=by exact ⟨k+1,((Bf q g.1 x.cs).1,g.2),g3,c3,s3,rfl,⟨by omega,by rw [JK B hx,Ax ⟨G,by omega,by omega⟩,ht];rfl,h3⟩,rfl,rfl⟩)
  all_goals
   refine Zg<|Zv (BN (vs:=[]) (cs:=#[_,_,_]) Y (Aa (pl:=#[(0,1),(1,1),(2,1)]) HS FA (fun _=>by kernel_rfl) rfl))<|Xe (Xw C5 _)<|Za Y<|An Y<|Zt<|Ag<|Zt<|Zt<|Ag<|Zt<|NV rfl results87 Y Wh (Av EV C5 Wn (rfl)) Y Y (by exact ⟨.slice none 0 0,[],by rw [I];rfl,by rw [I];exact Bh 5 _,rfl⟩)
 have ek:k=l.length:=by omega
 subst ek;rw [HE]at B;have I:BI q r base l=(g.1,g.2,true):=by unfold BI;rw [B]
 refine BA<|Zt<|Zt<|AX<|C6<|Zo Wh (A9 (cs:=#[_,_,_]) EV C5 Y B5 B1)<|Zm Y<|Xe (Xw C5 _)<|Za Y<|An Y<|NV rfl results87 Y Wh (Av EV C5 Wn (rfl)) Y Y (by exact ⟨.slice gk _ ck,sk,by rw [I];rfl,by rw [I];exact X,rfl⟩)
theorem nS(B:BH q)(G:BM rs)(m:Gd rs c)(g:c.ok)(h:(Dh q c (Cj rs q)).2=true):(Dh q c (Cj rs q)).1=Cj (ER rs c) q:=by
 unfold Dh at h⊢;cases ht:Dt q c with
 |false=>
  rw [As B0];unfold Dt at ht;rw [DE g,Ys]at ht;exact (AA4 B m ht).symm
 |true=>
  rw [ht,Ax rfl]at h;rw [Ax rfl];unfold Dt at ht;rw [Ge]at ht;split at h
  · rename_i h9
    rw [Ax h9];exact iN B G m ht.2 h9
  · cases h
theorem WK{q:QM}(G:BH q){rs:List AV}{cs:List Chg}(I:BM rs)(m:mw cs)(B:∀c∈cs,Gd rs c)(g:∀c∈cs,c.ok):∀i,i<=cs.length->∀r,IG q (Cj rs q) (cs.take i)=some r->r=Cj (DT rs (cs.take i)) q
 |0,_,r,h=>by
  rw [JT]at h⊢;injection h with h
  exact h.symm
 |i+1,hi,r,h=>by
  obtain ⟨c,hc⟩:∃c,cs[i]?=some c:=⟨_,BT A0⟩;obtain ⟨J,h2⟩:=Km I m B i A0;cases hr:IG q (Cj rs q) (cs.take i)with
  |none=>
   have:=WJ (cs:=cs.take (i+1)) (k:=i) (q:=q) (r:=Cj rs q) (by rw [Xs,SR A0];exact hr);rw [this]at h;cases h
  |some rk=>
   have e:=WK G I m B g i A0 rk hr;rw [QZ hr hc,e]at h;split at h
   · rename_i h9
     injection h with h
     rw [<-h,GJ rs cs i c hc];exact nS G J (h2 i c (D0 _) hc) (g c (Ek hc)) h9
   · cases h
theorem A20(g:BH q){p rp:Int}{cs:List Chg}(B:BM rs)(h:Ky rs p rp cs)(m:IG q (Cj rs q) cs=some r):r=Cj (DT rs cs) q:=by
 have:=WK g B (V5 h.ok.ord) h.fit (fun c hc=>by obtain ⟨i,hi⟩:=HU hc;exact h.ok.all i c hi) cs.length (D0 _) r (by rw [HE];exact m);rwa [HE]at this
def Su(q:QM)(x:BF):Bool:=x.cs.any (Dt q)
structure kV(q:QM)(l:List BF)(base k:Nat)(s:Int):Prop where
 le:(base:Int)<=s/\s<=((base+k:Nat):Int)
 at_:s≠(base:Int)->∃(j:Nat) (x:BF),(j:Int)+1=s/\l[j]?=some x/\Su q x=true
 no:∀(j:Nat) (x:BF),s<=(j:Int)->j<base+k->l[j]?=some x->Su q x=false
theorem NH{q:QM}(O:BH q){l:List BF}(G:EY l){base:Nat}(hb:base<=l.length):∀k,base+k<=l.length->∀st,Fs q (base:Int) 0 (Cj (BQ (l.take base)) q,(base:Int)) ((l.drop base).take k)=some st->st.1=Cj (BQ (l.take (base+k))) q/\kV q l base k st.2
 |0,_,st,h=>by
  rw [JT]at h;injection h with h
  subst h;exact ⟨V,⟨by simp only;omega,fun h=>absurd V h,fun j x m h2=>by simp only at m;omega⟩⟩
 |k+1,hk,st,h=>by
  obtain ⟨x,hx⟩:∃x,l[base+k]?=some x:=⟨_,BT A0⟩;have I:(l.drop base)[k]?=some x:=by rw [Pc];exact hx
  obtain ⟨K,_⟩:=G _ x hx;have hp:x.p=((base+k:Nat):Int)+1:=K.pos
  cases hr:Fs q (base:Int) 0 (Cj (BQ (l.take base)) q,(base:Int)) ((l.drop base).take k)with
  |none=>
   have:=NG (l:=(l.drop base).take (k+1)) (k:=k) (q:=q) (base:=(base:Int)) (st:=(Cj (BQ (l.take base)) q,(base:Int))) (by rw [Xs,SR A0];exact hr);rw [this]at h;cases h
  |some sk=>
   obtain ⟨e1,e2⟩:=NH O G hb k A0 sk hr;rw [JK hr I]at h;split at h
   · rename_i h9
     injection h with h
     subst h;have B:=NA h9.1
     have m:=(G.rows (base+k) A0).1;rw [e1]at B;refine ⟨?_,?_⟩
     · have:=A20 O m K B.1
       rw [show base+(k+1)=base+k+1 by omega,Bl hx,Gt,<-this,e1]
     · have hT:(Bf q sk.1 x.cs).2.1=Su q x:=by rw [e1];exact B.2
       simp only [hT];obtain ⟨⟨a1,U⟩,W,X⟩:=e2;cases ht:Su q x with
       |true=>
        simp only [KK];refine ⟨by omega,fun _=>⟨base+k,x,hp.symm,hx,ht⟩,fun j y J Z=>by omega⟩
       |false=>
        simp only [P0,I0];refine ⟨by push_cast at U⊢;omega,W,fun j y J Z g=>?_⟩;rcases Fi j (base+k)with h8|h8
        · exact X j y J h8 g
        · obtain rfl:j=base+k:=by omega
          rw [hx]at g;injection g with g
          rw [<-g];exact ht
   · cases h
theorem ag(g:1<=q.kd/\q.kd<=4)(c:Chg)(r:C8):(Dh q c r).2=true:=by
 have:(CE q c r).2=true:=by
  unfold CE;split;· rfl
  · split
    · rfl
    · rw [Ax A0]
 unfold Dh;rw [Ax this];split<;>rfl
theorem TS{q:QM}(g:1<=q.kd/\q.kd<=4):∀(cs:List Chg) (r:C8),∃m,IG q r cs=some m
 |[],r=>⟨r,rfl⟩
 |c::cs,r=>by
  unfold IG;rw [Ax (ag g c r)];exact TS g cs _
abbrev Bs:=List UInt8
def Pw(s:Bs):Bs:=sha (0::s)
def HV(a b:Bs):Bs:=sha (1::(a++b))
def CF(n:Nat):Nat:=2^Nat.log2 (n -1)
theorem JY(n:Nat):0<CF n:=ef _
variable{n:Nat}
theorem K4(h:2<=n):CF n<n:=by
 have:=Nat.log2_self_le (n:=n -1) A0;unfold CF;omega
theorem vi{e:Nat}(g:2^e<n)(h2:n<=2^(e+1)):CF n=2^e:=by
 unfold CF;congr 1;refine (Nat.log2_eq_iff (by have:=ef e;omega)).2 ⟨by omega,by omega⟩
theorem vj(h:2<=n):n<=2*CF n:=by
 have:=Nat.lt_log2_self (n:=n -1);unfold CF;rw [el]at this;omega
def DN(l:List Bs):Bs:=
 if h:2<=l.length then HV (DN (l.take (CF l.length))) (DN (l.drop (CF l.length)))
 else match l with
  |[]=>sha []
  |x::_=>Pw x
termination_by l.length
decreasing_by
 · have:=K4 h;rw [Cd];omega
 · have:=JY l.length;rw [Cp];omega
theorem A26:DN []=sha []:=by rw [DN];rfl
theorem aM(x:Bs):DN [x]=Pw x:=by rw [DN];rfl
variable{l:List Bs}
theorem Qf(h:2<=l.length):DN l=HV (DN (l.take (CF l.length))) (DN (l.drop (CF l.length))):=by
 rw [DN,dif_pos h]
theorem WP{a b:List Bs}{e:Nat}(g:a.length=2^e)(h0:0<b.length)(B:b.length<=2^e):DN (a++b)=HV (DN a) (DN b):=by
 have G:=ef e;have m:CF (a++b).length=a.length:=by
  rw [g];exact vi (by rw [C0];omega) (by rw [C0,el];omega)
 rw [Qf (by rw [C0];omega),m,J1,cF];· rfl
 · rfl
structure Jm(ps:List (List Bs)):Prop where
 pow:∀p∈ps,∃e,p.length=2^e
 lt:ps.Pairwise (fun a b=>b.length<a.length)
theorem AC5:Jm []:=⟨by simp,.nil⟩
theorem vG{a b:Nat}(h:2^a<2^b):2*2^a<=2^b:=by
 have:=(Nat.pow_lt_pow_iff_right (a:=2) A0).1 h
 calc 2*2^a=2^(a+1):=by rw [el];omega
  _<=2^b:=Nat.pow_le_pow_right A0 this
variable{p:List Bs}{ps:List (List Bs)}
theorem Jm.tail(h:Jm (p::ps)):Jm ps:=⟨fun q g=>h.pow q (by simp [g]),(SD.1 h.lt).2⟩
theorem Jm.init(h:Jm (ps++[p])):Jm ps:=⟨fun q g=>h.pow q (by simp [g]),(S6.1 h.lt).1⟩
theorem Jm.sum:∀{ps:List (List Bs)} {e:Nat},Jm ps->(∀p∈ps,p.length<2^e)->ps.flatten.length<2^e
 |[],e,_,_=>by simpa using ef e
 |p::ps,e,h,hl=>by
  obtain ⟨e1,g⟩:=h.pow p B7;have h2:=hl p B7
  rw [g]at h2;have B:=vG h2
  have G:=Jm.sum (e:=e1) h.tail (fun q m=>by rw [<-g];exact (SD.1 h.lt).1 q m);rw [D2,C0,g];omega
theorem Jm.nonempty(h:Jm ps)(hn:ps≠[]):0<ps.flatten.length:=by
 cases ps with
 |nil=>exact absurd rfl hn
 |cons p ps=>
  obtain ⟨e,g⟩:=h.pow p B7;have:=ef e
  rw [D2,C0];omega
theorem Jm.root:∀{ps:List (List Bs)} {q:List Bs},Jm (ps++[q])->ps.foldr (fun p o=>HV (DN p) o) (DN q)=DN (ps.flatten++q)
 |[],q,_=>by simp
 |p::ps,q,h=>by
  rw [List.foldr_cons,Jm.root (ps:=ps) (q:=q) h.tail,D2,DH];obtain ⟨e,m⟩:=h.pow p B7;have G:(ps++[q]).flatten=ps.flatten++q:=by simp
  have B:Jm (ps++[q]):=h.tail;have g:0<(ps++[q]).flatten.length:=Jm.nonempty B B7
  have h2:=Jm.sum (e:=e) B (fun r I=>by rw [<-m];exact (SD.1 h.lt).1 r I);rw [G]at g h2;exact (WP m g A0).symm
structure Ow(ls:List Bs)(ps:List (List Bs))(q:List Bs)(i:Nat):Prop where
 bin:Jm ps
 pow:∃e,q.length=2^e
 le:∀p∈ps,q.length<=p.length
 flat:ps.flatten++q=ls.take i
variable{ls:List Bs}{i:Nat}
theorem pI{s:Bs}(h:Jm ps)(m:ps.flatten=ls.take i)(G:ls[i]?=some s):Ow ls ps [s] (i+1):=
 ⟨h,⟨0,rfl⟩,fun p B=>by
   obtain ⟨e,g⟩:=h.pow p B;have:=ef e
   rw [g];simp;omega,by rw [S1,G,m];rfl⟩
theorem Ow.step{q:List Bs}(h:Ow ls (ps++[p]) q i)(e:p.length=q.length):Ow ls ps (p++q) i/\DN (p++q)=HV (DN p) (DN q):=by
 obtain ⟨e1,g⟩:=h.pow;have I:=ef e1
 refine ⟨⟨h.bin.init,⟨e1+1,by rw [C0,e,g,el];omega⟩,?_,?_⟩,WP (e.trans g) A0 A0⟩
 · intro r B
   obtain ⟨e2,h2⟩:=h.bin.pow r (by simp [B]);have m:=(S6.1 h.bin.lt).2.2 r B p B7
   rw [e,g,h2]at m;have G:=vG m
   rw [C0,e,g,h2];omega
 · rw [<-h.flat];simp
theorem Ow.done{q:List Bs}(h:Ow ls ps q i)(I:∀m p,ps=m++[p]->p.length≠q.length):Jm (ps++[q])/\(ps++[q]).flatten=ls.take i:=by
 refine ⟨⟨?_,?_⟩,by rw [<-h.flat];simp⟩
 · intro r B
   rcases CD.1 B with B|B
   · exact h.bin.pow r B
   · rw [CH]at B
     subst B;exact h.pow
 · rw [S6]
   refine ⟨h.bin.lt,List.pairwise_singleton _ _,?_⟩;intro a g b J;rw [CH]at J;subst J;rcases fx ps with rfl|⟨m,p,rfl⟩
   · simp at g
   · have K:=I m p B7
     have h2:=h.le p B7;have G:=h.bin.lt
     simp only [nF]at g G;rw [S6]at G;rcases CD.1 g with g|g
     · have:=G.2.2 a g p B7
       omega
     · rw [CH]at g
       subst g;omega
variable{cur:AN}{xs:List A2}
theorem AF3(h:cur.toList.take xs.length=xs){x:A2}(hx:xs[i]?=some x):cur[i]?=some x:=by
 have g:=(C7.1 hx).1;rw [<-h,HR,Ax g,Hx]at hx;exact hx
theorem A92(ps:List (List Bs))(o:Bs):(ps.map DN).reverse.foldl (fun o r=>HV r o) o=ps.foldr (fun p o=>HV (DN p) o) o:=by
 rw [List.foldl_reverse,List.foldr_map]
def Di(M:List A8)(v:A2)(ls:List Bs):Prop:=∃p cap,v= .slice p ls.length cap/\(ls.length<=maxLen/\ls.length<=cap)/\∀(i:Nat) (s:Bs),ls[i]?=some s->∃g off cur T zz,p=some ⟨g,off,none⟩/\(g,Obj.cells cur T zz)∈M/\cur[off+i]?=some (EZ s)
def rtV(p:List Bs):A2:=EZ (DN p)
def lnV(p:List Bs):A2:=I4 ((p.length:Nat):Int)
variable{e:AM}{s:List A8}
theorem Qb{sz:Nat}{b:BE}{c:Nat}(h:BU sz e (.slice b n c) n xs s)(k:Nat)(B:k<=n):BU sz e (.slice b k c) k (xs.take (k*sz)) s:=by
 obtain ⟨G,h⟩:=h;refine ⟨by rw [Cd,G,SR (Wk _ B)],?_⟩;rcases h with⟨m,rfl,rfl⟩|⟨g,cap',cur,z,m,rfl,h2,h3,h4,h5,h6⟩
 · injection m with e1 e2 e3
   subst e1 e3;obtain rfl:k=0:=by omega
   exact .inl ⟨V,V,V⟩
 · injection m with e1 e2 e3
   subst e1 e3;refine .inr ⟨g,c,cur,z,V,V,by omega,h3,h4,?_,h6⟩;rw [<-h5,Xs,SR (Wk _ B)]
variable{v:A2}
theorem MH(h:BU 1 e v n xs s)(h0:0<n):∃g cap cur z,v=I6 g n cap/\s=[(g,.cells cur e z)]/\n<=cap/\∀(i:Nat) (x:A2),xs[i]?=some x->cur[i]?=some x:=by
 obtain ⟨I,⟨_,B,_⟩|⟨g,m,cur,z,B,rfl,h2,J,K,G,O⟩⟩:=h;· omega
 · rw [<-I]at G
   exact ⟨g,m,cur,z,B,V,h2,fun i x hx=>AF3 G hx⟩
variable{M:List A8}
theorem Di.mono{m:List A8}(h:Di M v ls)(J:∀c∈M,c∈m):Di m v ls:=by
 obtain ⟨p,cap,e,I,G⟩:=h;refine ⟨p,cap,e,I,fun i s K=>?_⟩;obtain ⟨g,off,cur,T,zz,e1,B,h2⟩:=G i s K;exact ⟨g,off,cur,T,zz,e1,J _ B,h2⟩
theorem Gr(h:BU 1 e v ls.length (ls.map EZ) s)(hn:ls.length<=maxLen):Di s v ls:=by
 rcases Rg ls.length with h0|h0
 · obtain ⟨b,cap,rfl⟩:=h.form
   exact ⟨b,cap,rfl,⟨hn,by omega⟩,fun i s m=>by rw [NX h0]at m;simp at m⟩
 · obtain ⟨g,cap,cur,z,rfl,rfl,B,G⟩:=MH h h0
   refine ⟨_,cap,V,⟨hn,B⟩,fun i s m=>⟨g,0,cur,e,z,V,by simp,?_⟩⟩;rw [Dd];exact G i _ (by rw [E6,m];rfl)
theorem GY(l:List Bs):(DN l).length=32:=by
 rw [DN];split;· exact NE _
 · split<;>exact NE _
theorem X9(s:Bs)(I:s.length<=140737488354000)(g:AM)(G:Nat×Nat):Au prog 78 #[.string (str s)] [[(0,.cells (Dn.map CW).toArray g G)]] (.string (str (Pw s))):=by
 refine Se func78 ntmps78 [0] ?_;intro u R;refine A3<|AH Y<|A3<|Zc [_] Y call146 Y V (Mk (str [0])) ?_;rintro _ _ ⟨_,⟨B,rfl,rfl⟩,rfl⟩;refine Zm Y<|Ze (Ah (vs:=[_]) (cs:=[_]) DO FG I2 Y V rfl V rfl V)<|AF fun m=>Xr [_] Y call226 Y V (JW m 0 1 B #[EZ s] _ _ _ _ [s] [0] V B7 B7 Kd _ _)<|An Y<|AO V results78 Y (by exact ⟨by simp [Pw],V⟩)
theorem NW(a b:Bs)(I:a.length<=1000000000)(J:b.length<=1000000000)(g:AM)(G:Nat×Nat):Au prog 79 #[.string (str a),.string (str b)] [[(0,.cells (Dn.map CW).toArray g G)]] (.string (str (HV a b))):=by
 refine Se func79 ntmps79 [0,1] ?_;intro u R;refine A3<|AH Y<|A3<|Zc [_] Y call146 Y V (Mk (str [1])) ?_;rintro _ _ ⟨_,⟨B,rfl,rfl⟩,rfl⟩;refine Zm Y<|Zm Y<|Ze (Ah (vs:=[_,_]) (cs:=[_,_]) DO FG I2 Y V rfl V rfl V)<|AF fun m=>Xr [_] Y call226 Y V (JW m 0 2 B #[EZ a,EZ b] _ _ _ _ [a,b] [1] V B7 B7 Kd _ _)<|An Y<|AO V results79 Y (by exact ⟨by simp [HV],V⟩)
def bwd{α:Type} [Inhabited α](ls:List α):List (Nat×α):=(List.range ls.length).reverse.map (fun i=>(i,ls.getD i default))
theorem SY [Inhabited α](ls:List α):(bwd ls).length=ls.length:=by simp [bwd]
theorem Yn [Inhabited α]{ls:List α}{m:Nat}{s:α}(h:ls[m]?=some s):(bwd ls)[ls.length -(m+1)]?=some (m,s):=by
 have g:=(C7.1 h).1;unfold bwd;rw [E6,List.getElem?_reverse Kd,cX,Wr A0];rw [show ls.length -1 -(ls.length -(m+1))=m by omega];simp [List.getD,h]
theorem Le [Inhabited α](ls:List α):(bwd ls).map Prod.snd=ls.reverse:=by
 apply P2;intro i;by_cases hi:i<ls.length
 · have g:ls[ls.length -1 -i]?=some (ls[ls.length -1 -i]'A0):=BT _
   have h2:=Yn g;rw [show ls.length -(ls.length -1 -i+1)=i by omega]at h2;rw [E6,h2,List.getElem?_reverse hi,g];rfl
 · rw [Of (by rw [Bk,SY];omega),Of Kd]
theorem mY [Inhabited α]{ls:List α}{x:Nat×α}(h:x∈bwd ls):x.2∈ls:=by
 have g:x.2∈(bwd ls).map Prod.snd:=CI.2 ⟨x,h,rfl⟩;rw [Le,gx]at g;exact g
theorem M9{xs:List α}{j:Nat}{x:α}(h:xs[j]?=some x):xs=xs.take j++x::xs.drop (j+1):=by
 have g:=(C7.1 h).1;rw [BT g]at h;injection h with h
 rw [<-h,<-TX g,LO]
theorem A94(xs:List Bs)(q:Bs):(bwd xs).foldl (fun o (x:Nat×Bs)=>HV x.2 o) q=xs.reverse.foldl (fun o r=>HV r o) q:=by
 rw [<-Le,tW]
theorem Xq(f:List α->A2)(ps:List (List α))(p q:List α):(((ps++[p])++[q]).map f)[(ps++[p]).length+1 -2]?=some (f p)/\(((ps++[p])++[q]).map f)[(ps++[p]).length+1 -1]?=some (f q):=by
 have e:(ps++[p]).length=ps.length+1:=by simp
 constructor;· rw [show(ps++[p]).length+1 -2=ps.length by omega];simp
 · rw [show(ps++[p]).length+1 -1=ps.length+1 by omega];simp
theorem ZM(f:List α->A2)(ps:List (List α))(p q:List α):(((ps++[p])++[q]).map f).take (((ps++[p]).length+1 -2)*1)=ps.map f:=by
 rw [show((ps++[p]).length+1 -2)*1=(ps.map f).length by simp];simp
theorem vn(f:List α->A2)(ps:List (List α))(q:List α):((ps++[q]).map f)[(ps++[q]).length -1]?=some (f q):=by
 rw [show(ps++[q]).length -1=ps.length by simp];simp
theorem pu(f:List α->A2)(ps:List (List α))(q:List α):((ps++[q]).map f).take (((ps++[q]).length -1)*1)=ps.map f:=by
 rw [show((ps++[q]).length -1)*1=(ps.map f).length by simp];simp
theorem lq{ps:List α}(h:0<ps.length):∃g p,ps=g++[p]:=by
 rcases fx ps with rfl|⟨a,b,e⟩
 · simp at h
 · exact ⟨a,b,by rw [e,nF]⟩
theorem A93(xs:List (Nat×Bs))(q:Bs)(g:q.length=32):(xs.foldl (fun o (x:Nat×Bs)=>HV x.2 o) q).length=32:=by
 rcases fx xs with rfl|⟨ys,y,rfl⟩
 · exact g
 · rw [nF,X2];exact NE _
theorem Vj(p:BE)(n c:Nat):BS prog 81 #[.slice p n c] [] (fun r H'=>∃b,r= .func (.func 150) #[] #[I5 b]/\H'=[[(b,.cells #[.slice p n c] 50 (0,0))]]):=by
 refine Se func81 ntmps81 [0] ?_;intro u R;refine A3<|Ze (Bx #[_])<|AF fun b=>AH Y<|A3<|Zv (Be (vs:=[]) (us:=[_]) Y Y)<|An Y<|AO V results81 Y (by exact ⟨_,V,V⟩)
theorem Vk(hv:Di M v ls)(b:Nat)(hn:ls.length<=1000000000000):
 Eg prog 150 #[I5 b] [[(b,.cells #[v] 50 (0,0))]] (fun s=>∀c∈M,c∈s) (fun x=>#[I4 ((x.1:Nat):Int),EZ x.2]) (bwd ls):=by
 have af:=mL;obtain ⟨p,cap,rfl,hl,hg⟩:=hv;intro l J hA hy s B;refine Se func150 ntmps150 [0,1] ?_;intro u R;refine A3<|Zl ID Y ?_;refine Zv (AR DO Y) ?_
 (refine BX (GZ Y Y (IntWalk.i64_in _ ?_)) ?_;(focus (omega)))
 refine AH Y<|AQ<|Zb [3,0,1] ?_;refine Aw (e0:=[(3,_)]) (fun m e H=>∃(k:Nat) (s:List A8),m=0+k/\(k<=ls.length/\J ((bwd ls).take (ls.length -k)) s)/\e=[(3,I4 ((k:Int) -1))]/\H=[[(b,.cells #[.slice p ls.length cap] 50 (0,0))],s]) (by exact ⟨ls.length,s,rfl,⟨D0 _,by rw [W5,JT];exact B⟩,rfl,rfl⟩) Wp ?_;rintro _ _ _ ⟨k,s,rfl,⟨hk,B⟩,rfl,rfl⟩;refine B8 Y<|Zv (Ga Y Y)<|A4<|Ak Y (fun X=>?_) (fun X=>?_);·
  obtain ⟨m,rfl⟩:∃m,k=m+1:=⟨k -1,by omega⟩;rw [show(((m+1:Nat):Int) -1)=((m:Nat):Int) by omega];obtain ⟨z9,O⟩:∃z9,ls[m]?=some z9:=⟨_,BT A0⟩;have G:=Yn O
  obtain ⟨g,o,cur,T,zz,rfl,hm,I⟩:=hg m z9 O;have K:=I
  have Z:=hy _ _ _ s (M9 G) B;refine B3<|Zq<|AQ<|AK Y<|Zm Y<|Zl ID Y ?_;refine Zm Y<|BX (Bg DO FG Y Y A0)<|Bu (cs:=[(g,.cells cur T zz)]) (by simp [hA _ s B _ hm]) (BK H3 Y K) V rfl ?_;refine Ze (GH (vs:=[_,_]) Y Y (Z) Wp) ?_;rintro _ _ ⟨_,⟨s',rfl,rfl,U⟩,rfl⟩;refine Zv (Bo Y)<|A4<|AY Y (fun hb=>by cases hb)<|fun hb=>AC<|AA<|Zx<|Zg<|Zm Y ?_
  (refine BX (GZ Y Y (IntWalk.i64_in _ ?_)) ?_;(focus (omega)))
  refine B2 Y<|DG (e:=[(3,_)]) (h:=by exact ⟨m,s',rfl,⟨by omega,by rw [show ls.length -m=ls.length -(m+1)+1 by omega,Bl G];exact U⟩,rfl,rfl⟩)
 have W:k=0:=by omega
 subst W;rw [Sf,Kx (by rw [SY];exact D0 _)]at B;refine BA<|Zt<|Zt<|AX<|DC V results150 (by exact ⟨s,V,B⟩)
theorem JL(hv:Di M v ls)(hn:ls.length<=1000000)(hs:∀s∈ls,s.length<=140737488354000)(Tg:AM)(zg:Nat×Nat):Au prog 30 #[v] [[(0,.cells (Dn.map CW).toArray Tg zg)],M] (.string (str (DN ls))):=by
 have sO:=mL;obtain ⟨p,cap,rfl,hl,hg⟩:=hv;refine DF func30 V ntmps30 V ?_;intro u R;refine Zb [0] ?_;refine A3<|AH Y<|A3<|AH Y<|A3<|AH Y<|B8 Y<|Zv (AR DO Y)<|Zm Y<|A4<|AQ<|Bc<|Bc<|Zb [3,4,13,11,12] ?_;refine Aw (e0:=[(3,_),(4,_),(13,_)]) (fun m e H=>∃(i:Nat) (ps:List (List Bs)) (vw:A2) (sw:List A8) (vz:A2) (sz:List A8),m=ls.length -i/\(i<=ls.length/\Jm ps/\ps.flatten=ls.take i/\BU 1 9 vw ps.length (ps.map rtV) sw/\BU 1 3 vz ps.length (ps.map lnV) sz/\ps.length<=i)/\e=[(3,vw),(4,vz),(13,I4 (i:Int))]/\H=[sw,sz]) (by exact ⟨0,[],.slice none 0 0,[],.slice none 0 0,[],V,⟨CM _,AC5,V,Bh 1 _,Bh 1 _,D0 _⟩,V,V⟩) Wp ?_;rintro _ _ _ ⟨i,ps,vw,sw,vz,sz,rfl,⟨hi,hB,hf,J,W,pz⟩,rfl,rfl⟩;refine A3<|Zv (Ap Y Y)<|A4<|Zq<|Ak Y (fun j3=>?_) (fun j3=>?_);·
  obtain ⟨s9,d9⟩:∃s9,ls[i]?=some s9:=⟨_,BT j3⟩;obtain ⟨g,o,cur,T,zz,rfl,pq,ic⟩:=hg i s9 d9;obtain ⟨qw,cw,rfl⟩:=J.form;obtain ⟨qz,cz,rfl⟩:=W.form;have kv:=hs s9 (Ek d9)
  refine B3<|Zq<|AQ<|A3<|BX (Bg DO FG Y Y A0)<|Bu (cs:=[(g,.cells cur T zz)]) (by simp [pq]) (BK H3 Y ic) V rfl ?_;refine AH Y<|AK Y<|Zm Y<|Xr [_] Y call78 Y V (X9 s9 kv Tg zg) ?_;refine Ze (Ah (vs:=[_]) (cs:=[_]) DO FG I2 Y V rfl V rfl V)<|AF fun b1=>Ze (Ed (by_:=16) (sz:=1) (news:=[_]) DO (V:Tryz.prog.info? 9=some Tryz.t9) V rfl V rfl Y J Y Wo Wh B1 V HO B0 A0 A0) ?_;rintro _ _ ⟨sw,J,rfl⟩;obtain ⟨gw,cw,rfl⟩:=J.form;refine Zm Y<|Ze (Ah (vs:=[_]) (cs:=[_]) DP A6 HT Y V rfl V rfl V)<|AF fun b3=>Ze (Ed (by_:=8) (sz:=1) (news:=[_]) DP (V:Tryz.prog.info? 3=some Tryz.t3) V rfl V rfl Y W Y Wo Wh B1 V HO B0 A0 A0) ?_;rintro _ _ ⟨sz,W,rfl⟩;obtain ⟨gz,cz,rfl⟩:=W.form;refine Za Y<|B2 Y<|Zn [3,4,11,12,13] ?_;refine Zx<|AK Y<|Zv (AR DP Y)<|AH Y<|AQ<|Zb [3,4,7,11,12,13] ?_;refine Aw (e0:=[(3,_),(4,_),(7,_)]) (fun m e H=>∃(G:List (List Bs)) (q:List Bs) (gy:A2) (gm:List A8) (gQ:A2) (gq:List A8),m=0+G.length/\(Ow ls G q (i+1)/\BU 1 9 gy (G.length+1) ((G++[q]).map rtV) gm/\BU 1 3 gQ (G.length+1) ((G++[q]).map lnV) gq/\G.length<=i)/\e=[(3,gy),(4,gQ),(7,I4 ((G.length+1:Nat):Int))]/\H=[gm,gq]) (by exact ⟨ps,[s9],_,_,_,_,rfl,⟨pI hB hf d9,BZ J rfl (by rw [CN,S0];unfold rtV;rw [aM];rfl),BZ W rfl (by rw [CN];rfl),pz⟩,rfl,rfl⟩) Wp ?_;rintro _ _ _ ⟨G,q,gy,gm,gQ,gq,rfl,⟨hM,U,X,sQ⟩,rfl,rfl⟩;refine Zq<|Zq<|Ay (n:=15) (0::1::3::7::7::23::63::127::7::7::519::1799::3847::8191::16383::[]) 0 AD AD V<|A1 0 V (AP Y)<|A1 1 V (DX (n:=1) Y Y)<|A1 2 V (AP Y)<|Cs (t:=29) Y (fun cO=>?_) (fun cO=>?_);focus
   rw [DE cO];obtain ⟨B,Z,rfl⟩:=lq (ps:=G) A0;have ve:(B++[Z]).length=B.length+1:=by simp
   obtain ⟨cu,o9,O,l9,rfl,rfl,j5,K⟩:=MH (id U) A0;obtain ⟨sJ,qx,o8,wz,rfl,rfl,qj,af⟩:=MH (id X) A0;have qh:=af _ _ (Xq lnV B Z q).1
   have l8:=af _ _ (Xq lnV B Z q).2;have ek:=K _ _ (Xq rtV B Z q).1
   have qa:=K _ _ (Xq rtV B Z q).2;have q9:q.length<=ls.length:=by have h9:=congrArg List.length hM.flat;rw [C0,Cd]at h9;omega
   refine B4 3 V (AP Y)<|B4 4 V (AP Y) ?_
   (refine B4 5 rfl (CQ (n:=2) Y Y ?_ ?_) ?_;(focus (omega));(focus (omega)))
   refine B4 6 V (Bd DP A6 Y Y A0)<|FF 7 V Wh (BK AE Y qh) ?_;refine B4 8 V (AP Y)<|B4 9 V (AP Y) ?_
   (refine B4 10 rfl (CQ (n:=1) Y Y ?_ ?_) ?_;(focus (omega));(focus (omega)))
   refine B4 11 V (Bd DP A6 Y Y A0)<|FF 12 V Wh (BK AE Y l8) ?_;refine B4 13 V (CJ Y Y)<|A1 14 V (AU Y Y)<|Aq<|Zn [3,4,7,11,12,13,41] ?_;refine Zx<|Ak Y (fun he=>?_) (fun he=>?_);·
    have l5:=hM.step he;refine B3<|Zq<|AQ<|Zq<|Ay (n:=18) (0::0::2::7::0::0::32::112::240::0::0::1024::3584::7680::16368::32752::65535::131071::[]) 114688 AD AD V<|A1 0 V (AP Y)<|A1 1 V (AP Y) ?_
    (refine F5 (D':=7) 2 (CQ (n:=2) Y Y ?_ ?_) ?_;(focus (omega));(focus (omega)))
    refine A1 3 V (Bn DO FG Y Y A0)<|A1 4 V (AP Y)<|A1 5 V (AP Y) ?_
    (refine F5 (D':=127) 6 (CQ (n:=2) Y Y ?_ ?_) ?_;(focus (omega));(focus (omega)))
    refine A1 7 rfl (Bd DO FG Y Y (by first|omega|(simp;omega)))<|Bm 8 rfl H3 Y (hv:=by exact ek) ?_;refine A1 9 V (AP Y)<|A1 10 V (AP Y) ?_
    (refine F5 (D':=4095) 11 (CQ (n:=1) Y Y ?_ ?_) ?_;(focus (omega));(focus (omega)))
    refine A1 12 rfl (Bd DO FG Y Y (by first|omega|(simp;omega)))<|Bm 13 rfl H3 Y (hv:=by exact qa) ?_;refine Yw 14 32767 rfl (Zu [_,_] Y call79 Y rfl (NW (DN Z) (DN q) (by rw [GY];omega) (by rw [GY];omega) Tg zg))<|F0<|Yw 15 65535 V (Ah (vs:=[_]) (cs:=[_]) DO FG I2 Y V rfl V rfl V)<|AF fun b5=>Yw 16 131071 V (Ed (by_:=16) (sz:=1) (news:=[_]) DO (V:Tryz.prog.info? 9=some Tryz.t9) V rfl V rfl Y (Qb U ((B++[Z]).length+1 -2) A0) Y Wo Wh B1 V HO B0 A0 A0) ?_;rintro _ _ ⟨vo,ax,rfl⟩;obtain ⟨sj,qo,rfl⟩:=ax.form;refine A1 17 V (BC Y)<|Aq<|Zn [3,4,7,11,12,13] ?_;refine Zx<|Ay (n:=13) (0::0::2::7::0::0::32::112::240::496::1008::2047::4095::[]) 3072 AD AD V<|A1 0 V (AP Y)<|A1 1 V (AP Y) ?_
    (refine F5 (D':=7) 2 (CQ (n:=2) Y Y ?_ ?_) ?_;(focus (first|omega|(simp;omega)));(focus (first|omega|(simp;omega))))
    refine A1 3 V (Bn DP A6 Y Y A0)<|A1 4 V (AP Y)<|A1 5 V (AP Y) ?_
    (refine F5 (D':=127) 6 (CQ (n:=1) Y Y ?_ ?_) ?_;(focus (first|omega|(simp;omega)));(focus (first|omega|(simp;omega))))
    refine A1 7 rfl (Bd DP A6 Y Y (by first|omega|(simp;omega)))<|Bm 8 rfl AE Y (hv:=by exact l8) ?_;refine A1 9 rfl (Em (m:=2) Y Y (by first|omega|(simp;omega)))<|Yw 10 2047 rfl (Ah (vs:=[_]) (cs:=[_]) DP A6 HT Y rfl rfl rfl rfl rfl)<|AF fun b7=>Yw 11 4095 V (Ed (by_:=8) (sz:=1) (news:=[_]) DP (V:Tryz.prog.info? 3=some Tryz.t3) V rfl V rfl Y (Qb X ((B++[Z]).length+1 -2) A0) Y Wo Wh B1 V HO B0 A0 A0) ?_;rintro _ _ ⟨wo,bn,rfl⟩;obtain ⟨sM,r9,rfl⟩:=bn.form;refine A1 12 V (BC Y)<|Aq<|Zn [3,4,7,11,12,13] ?_;refine AA<|Zx<|Zg<|Zm Y<|Yb (n:=1) Y Y<|B2 Y<|DG (e:=[(3,_),(4,_),(7,_)]) (h:=by exact ⟨B,Z++q,_,_,_,_,rfl,⟨l5.1,BZ ax A0 (by rw [ZM,CN,S0];unfold rtV;rw [l5.2];rfl),BZ bn A0 (by rw [ZM,CN,S0];unfold lnV;rw [C0,he,<-Nat.two_mul]),by omega⟩,(by rw [show(B++[Z]).length+1 -1=B.length+1 by omega]),rfl⟩)
   focus
    have hD:=hM.done (fun a b e9=>by have e8:=List.singleton_inj.1 (l4 e9 rfl).2;rw [<-e8];exact he)
  rotate_left
  focus
   rw [DQ cO];have hD:=hM.done (fun a b e9=>by have e8:=congrArg List.length e9;rw [C0]at e8;simp at e8;omega)
   refine AW 3 V<|AW 4 V<|AW 5 V<|AW 6 V<|AW 7 V<|AW 8 V<|AW 9 V<|AW 10 V<|AW 11 V<|AW 12 V<|AW 13 V<|A1 14 V (AJ Y Y)<|Aq<|Zn [3,4,7,11,12,13,41] ?_;refine Zx<|Df Y ?_
  all_goals
   refine BA<|Zt<|Zt<|AX<|AA<|Zx<|Dg Y Y Y<|DG (e:=[(3,_),(4,_),(13,_)]) (h:=by exact ⟨i+1,_,_,_,_,_,rfl,⟨by omega,hD.1,hD.2,BZ U B7 rfl,BZ X B7 rfl,by rw [C0];simp;omega⟩,rfl,rfl⟩)
 have ei:i=ls.length:=by omega
 subst ei;rw [Kx (D0 _)]at hf;obtain ⟨qw,cw,rfl⟩:=J.form;refine BA<|Zt<|Zt<|AX<|Zx<|B8 Y<|Zv (AR DO Y)<|Zv (CJ (n:=0) Y Y)<|A4<|Ak Y (fun h0=>?_) (fun h0=>?_);·
  have e0:=NX h0;subst e0;have e1:ls=[]:=hf.symm
  refine A3<|Xr [_] Y call80 Y V (lF [] B7 Tg zg) ?_;refine An Y<|Zt<|Ke rfl (TZ results30 Y) (by exact ⟨by rw [e1,A26],rfl⟩)
 obtain ⟨B,q,rfl⟩:=lq (ps:=ps) A0;obtain ⟨cu,o9,O,l9,pg,rfl,j5,K⟩:=MH (id J) A0;injection pg with hev1 hev2 hev3
 subst hev1 hev3;have ek:=K _ _ (vn rtV B q)
 have q9:(B++[q]).length=B.length+1:=by simp
 refine B3<|AK Y<|Zm Y<|Zv (AR DO Y)<|Yb (n:=1) Y Y ?_;refine BX (Bd DO FG Y Y A0)<|Zl H3 Y (hv:=by exact ek) ?_;refine Ze (Al I2 #[_])<|AF fun ob=>Xe (Zs FG Y Y V (hc:=by exact (V:_=(#[EZ (DN q)]:AN)))) ?_;refine A4<|B8 Y<|Zm Y<|Zv (AR DO Y)<|Yb (n:=1) Y Y ?_;refine BX (Bn DO FG Y Y A0)<|Zc [_] Y call81 Y V (Vj _ _ _) ?_;rintro _ _ ⟨_,⟨bb,rfl,rfl⟩,rfl⟩;refine Z0<|Zn [8,89] ?_;refine Zx<|AQ<|Zb [8,89] ?_;refine QD (H0:=_) (R:=_) (I:=(fun pre H=>H=[[(ob,.cells #[EZ (pre.foldl (fun o (x:Nat×Bs)=>HV x.2 o) (DN q))] 9 (0,0))],[(cu,.cells O 9 l9)],[(0,.cells (Dn.map CW).toArray Tg zg)]])) (asg:=fun x=>[(10,EZ x.2),(91,EZ x.2),(90,I4 ((x.1:Nat):Int))]) rfl Y call150 (Vk (ls:=B.map DN) (v:=I6 cu ((B++[q]).length -1) cw) (Gr (BZ (Qb J ((B++[q]).length -1) A0) B7 (by rw [pu,Mn];rfl)) (by rw [Bk];omega)) bb (by rw [Bk];omega)) (fun pre H1 c d h=>by subst h;intro x hx;simp at hx;simp [hx]) Y rfl Wp (rfl) ?ha_13 ?hbd_13 ?hk_13
 case ha_13=>
  intro _ x _ _;refine Zg<|Za Y<|Z0 ?_;exact wE
 case hbd_13=>
  intro l pre x ql u H1 R1 qb hI;subst hI;refine AQ<|Zg<|Zm Y<|Zl H3 Y ?_;refine Xr [_,_] Y call79 Y rfl (NW x.2 _ (by obtain ⟨y9,_,e9⟩:=CI.1 (mY (Qw qb));rw [<-e9,GY];omega) (by rw [A93 _ _ (GY q)];omega) Tg zg) ?_;refine Xe (Zs FG Y Y V) ?_;refine Z0<|AA<|FZ rfl (by rw [X2])
 intro D1 H2 p8;subst p8;refine Zn [8] ?_;refine AA<|C6<|Zl H3 Y ?_;refine An Y<|G7 rfl (TZ results30 Y) Wo (by exact ⟨by rw [A94,A92,hB.root,<-hf];simp,rfl⟩)
theorem Uz:∀(f x:Nat),0<x->x<2^f->Lib.bitLenAux f x=Nat.log2 x+1
 |0,x,h0,h1=>by simp at h1;omega
 |f+1,x,h0,h1=>by
  unfold Lib.bitLenAux;rw [As A0];rw [el]at h1;rcases Fi x 2 with h|h
  · have e:x=1:=by omega
    subst e;cases f<;>rfl
  · rw [Uz f (x/2) A0 A0]
    conv=>rhs;rw [Nat.log2_def,Ax h]
    omega
theorem pX(n:Nat)(g:2<=n)(h2:n<=1000000000000):Lib.bitLen (n -1)=Nat.log2 (n -1)+1:=Uz 64 (n -1) A0 A0
def Ea(l:List Bs)(i:Nat):List Bs:=
 if h:2<=l.length then
  if i<CF l.length then Ea (l.take (CF l.length)) i++[DN (l.drop (CF l.length))]
  else Ea (l.drop (CF l.length)) (i -CF l.length)++[DN (l.take (CF l.length))]
 else []
termination_by l.length
decreasing_by
 · have:=K4 h;rw [Cd];omega
 · have:=JY l.length;rw [Cp];omega
theorem NP(h:l.length<=1)(i:Nat):Ea l i=[]:=by rw [Ea,dif_neg A0]
theorem Jv(h:2<=l.length)(hi:i<CF l.length):Ea l i=Ea (l.take (CF l.length)) i++[DN (l.drop (CF l.length))]:=by rw [Ea,dif_pos h,Ax hi]
theorem JF(h:2<=l.length)(hi:¬i<CF l.length):Ea l i=Ea (l.drop (CF l.length)) (i -CF l.length)++[DN (l.take (CF l.length))]:=by rw [Ea,dif_pos h,As hi]
theorem KJ:∀(n:Nat) (l:List Bs) (i:Nat),l.length<=n->∀x∈Ea l i,x.length=32
 |n,l,i,hn,x,hx=>by
  rcases Fi l.length 2 with h|h
  · rw [NP A0]at hx;simp at hx
  · have g:=K4 h
    have h2:=JY l.length
    match n,hn with
    |0,hn=>omega
    |n+1,hn=>
    by_cases hi:i<CF l.length
    · rw [Jv h hi]at hx
      rcases CD.1 hx with hx|hx
      · exact KJ n _ i (by rw [Cd];omega) x hx
      · rw [CH]at hx
        rw [hx];exact GY _
    · rw [JF h hi]at hx
      rcases CD.1 hx with hx|hx
      · exact KJ n _ _ (by rw [Cp];omega) x hx
      · rw [CH]at hx
        rw [hx];exact GY _
theorem Di.take{p:BE}{cap:Nat}(h:Di M (.slice p ls.length cap) ls)(n:Nat)(hn:n<=ls.length):Di M (.slice p n cap) (ls.take n):=by
 obtain ⟨I,m,e,G,B⟩:=h;injection e with e1 e2 e3
 subst e1 e3;have g:(ls.take n).length=n:=by rw [Cd];omega
 refine ⟨p,cap,by rw [g],by rw [g];omega,fun i z hz=>B i z ?_⟩;rw [HR]at hz;split at hz;· exact hz
 · cases hz
theorem Di.drop{B g cap:Nat}(h:Di M (.slice (some ⟨B,g,none⟩) ls.length cap) ls)(n:Nat)(hn:n<ls.length):Di M (.slice (some ⟨B,g+n,none⟩) (ls.length -n) (cap -n)) (ls.drop n):=by
 obtain ⟨p',K,e,Z,W⟩:=h;injection e with e1 e2 e3
 subst e1 e3;refine ⟨_,_,by rw [Cp],by rw [Cp];omega,fun i z hz=>?_⟩;rw [Pc]at hz;obtain ⟨X,O,m,U,J,e2,I,G⟩:=W (n+i) z hz;injection e2 with e2;injection e2 with e3 e4
 subst e3 e4;exact ⟨B,g+n,m,U,J,rfl,I,by rw [lR];exact G⟩
theorem qN{w:A5}{g:Nat}{z:Nat×Nat}(enc:Bs->A2){zs:List Bs}(I:w.heap[g]?=some (.cells cur e z))(K:zs.length<=cur.size)(B:Iq z cur.size)(O:cur.toList.take zs.length=zs.map enc):Go.Sort.Holds enc w g 0 zs.toArray:=by
 intro j J;have m:j<zs.length:=by simpa using J
 have U:=B j A0;have G:(cur.toList.take zs.length)[j]?=(zs.map enc)[j]?:=by rw [O]
 rw [n4 m]at G;refine ⟨?_,?_⟩
 · simp only [World.cell?,I,Dd]
   simp only [sY,P0,I0];rw [<-Hx,G];simp [m]
 · simp only [World.frozen?,I,Dd]
   simp;omega
theorem YB(enc:Bs->A2)(cur:AN)(g:List Bs)(h:g.length<=cur.size):(Go.Sort.putCells enc 0 g.toArray cur).toList.take g.length=g.map enc:=by
 apply P2;intro j;rw [HR];by_cases m:j<g.length
 · rw [Ax m,Hx]
   unfold Go.Sort.putCells;rw [rr,IF A0];simp [m]
 · rw [As m,Of Kd]
theorem Sat.sorted_enc{u w:A5}{g:Nat}{z:Nat×Nat}{R:Hp}(enc:Bs->A2)(d:Array Bs)(h:Sat u ([(g,.cells cur e z)]::R) w):Sat u ([(g,.cells (Go.Sort.putCells enc 0 d cur) e z)]::R) (Go.Sort.putRow enc (Go.Sort.ahead w n) g 0 d):=by
 have m:=h.get (g,.cells cur e z) B7;refine h.upd (.here _) V rfl V ?_ fun k B=>?_;· simp [Go.Sort.putRow,Go.Sort.mapBlock,Go.Sort.ahead,W0,m,Go.Sort.onCells]
 · have:g≠k:=fun e=>B e.symm
   simp [Go.Sort.putRow,Go.Sort.mapBlock,Go.Sort.ahead,W0,this]
theorem Y6(h:BU 1 9 v ls.length (ls.map EZ) s)(hn:ls.length<=1000000000000):BS prog 244 #[v] [s] (fun r H'=>r= .tuple #[]/\∃U,BU 1 9 v ls.length (ls.reverse.map EZ) U/\H'=[U]):=by
 obtain ⟨O,⟨rfl,h0,rfl⟩|⟨g,cap,cur,z,rfl,rfl,K,J,m,G,B⟩⟩:=h
 · intro u R w I
   have e:ls=[]:=NX h0;subst e;exact (Tryz.slices_Reverse_string_empty none 0 w).mono (by
    rintro e Z ⟨rfl,rfl⟩;exact .inl ⟨_,_,V,⟨V,[],Bh 1 _,V⟩,I⟩)
 · intro u R w I
   rw [O2]at m G;have X:=I.get (g,.cells cur 9 z) B7
   have W:=qN (w:=w) (g:=g) (e:=9) (z:=z) EZ (zs:=ls) X A0 B G;refine (Tryz.slices_Reverse_string g 0 cap ls w W A0).mono ?_;rintro e Z ⟨rfl,n,rfl⟩;refine .inl ⟨_,_,V,⟨V,_,⟨by simp,.inr ⟨g,cap,_,z,V,V,K,J,?_,?_,?_⟩⟩,V⟩,Sat.sorted_enc (n:=n) EZ ls.reverse.toArray I⟩;· rw [O2];simp [Go.Sort.putCells,m]
   · rw [O2]
     have:=YB EZ cur ls.reverse (by rw [kq];omega);rw [kq]at this;exact this
   · simpa [Go.Sort.putCells]using B
theorem X8(n:Nat)(g:2<=n)(h2:n<=1000000000000):Au prog 210 #[I4 (n:Int)] [] (I4 ((CF n:Nat):Int)):=by
 have B:=pX n g h2;have G:=K4 g
 unfold CF at G;have I:(n -1).log2<64:=(Nat.log2_lt A0).2 A0
 refine Se func210 ntmps210 [0] ?_;intro u R;refine A3<|AH Y<|AK Y<|BX (CQ (n:=1) Y Y (by first|omega|(rw [S8];omega)) (by first|omega|(rw [S8];omega)))<|BX (Me D3 W7 Y (by first|omega|(rw [S8];omega)))<|Xr [_] Y call117 Y rfl (TE (H:=[]) (Rl:=fun v=>v=I4 ((Lib.bitLen (n -1):Nat):Int)) (fun w _=>(Tryz.bits_Len ((n -1:Nat):Int) w A0 A0).mono (by rintro e J ⟨rfl,rfl⟩;exact ⟨_,rfl,by rw [SJ],Below.refl _ _⟩)) (fun v h=>⟨h,rfl⟩)) ?_;rw [B];refine BX (CQ (n:=1) Y Y (by first|omega|(rw [S8];omega)) (by first|omega|(rw [S8];omega)))<|BX (VQ (m:=1) Y Y A0 (by first|omega|(rw [S8];omega)))<|An Y<|AO rfl results210 Y (by exact ⟨by rw [S8,oc];rfl,rfl⟩)
theorem iE(hv:Di M v ls)(hn:ls.length<=1000000)(hs:∀s∈ls,s.length<=140737488354000)(i:Nat)(hi:i<ls.length)(Z:AM)(zg:Nat×Nat):
 BS prog 175 #[v,I4 (i:Int)] [[(0,.cells (Dn.map CW).toArray Z zg)],M] (fun r H'=>∃vp sp,r= .tuple #[vp,I4 0]/\BU 1 9 vp (Ea ls i).length ((Ea ls i).map EZ) sp/\H'=[sp,[(0,.cells (Dn.map CW).toArray Z zg)],M]):=by
 have ic:=mL;obtain ⟨p,cap,rfl,hl,hg⟩:=id hv;refine Se func175 ntmps175 [0,1] ?_;intro u R;refine A3<|Za Y<|AH Y<|QB ?_;refine B8 Y<|Zv (Ap (n:=0) Y Y)<|Zm Y<|Af (t:=12) Y V (fun h1=>by omega)<|fun h1=>Zf Y Y<|Zf Y Y<|Yg (AR DO Y)<|Yg (Ef Y Y)<|B9 Y Y<|A4<|Ak Y (fun h2=>by omega)<|fun h2=>AC<|C6<|CT Y<|QF<|Zx<|Zq<|AQ<|Bc<|Zb [0,1,6] ?_;refine Aw (e0:=[(0,_),(1,_),(6,_)]) (fun m e H=>∃(l2:List Bs) (i2:Nat) (p2:BE) (cap2:Nat) (o:List Bs) (vo:A2) (so:List A8),m=0+l2.length/\(Di M (.slice p2 l2.length cap2) l2/\i2<l2.length/\(∀s∈l2,s.length<=140737488354000)/\Ea ls i=Ea l2 i2++o.reverse/\BU 1 9 vo o.length (o.map EZ) so/\o.length+l2.length<=ls.length)/\e=[(0,.slice p2 l2.length cap2),(1,I4 (i2:Int)),(6,vo)]/\H=[so]) (by exact ⟨ls,i,p,cap,[],.slice none 0 0,[],V,⟨hv,hi,hs,by simp,Bh 1 _,by simp⟩,V,V⟩) Wp ?_;rintro _ _ _ ⟨l2,i2,p2,cap2,o,vo,so,rfl,⟨O,gm,J,B,I,j3⟩,rfl,rfl⟩;obtain ⟨qo,co,rfl⟩:=I.form;refine AQ<|B8 Y<|Zv (AR DO Y)<|Zv (CJ (n:=1) Y Y)<|A4<|Ak Y (fun h1=>?_) (fun h1=>?_);·
  rw [NP (l:=l2) A0,N4]at B;refine BA<|Zt<|BV V<|Zt<|AX<|Zx<|AK Y<|Zc [_] Y call244 Y V (Y6 I A0) ?_;rintro _ _ ⟨_,⟨rfl,bn,U,rfl⟩,rfl⟩;refine A4<|AK Y<|Za Y<|An Y<|H9 ?_;refine DR rfl results175 Y Y (by exact ⟨_,bn,rfl,BZ U (by rw [B,kq]) (by rw [B]),rfl⟩)
 have h9:2<=l2.length:=by omega
 have ax:=K4 h9;have gq:=JY l2.length
 have g:(l2.take (CF l2.length)).length=CF l2.length:=by rw [Cd];omega
 obtain ⟨p8,cu,e8,gy,af⟩:=id O;injection e8 with e81 e82 e83
 subst e81 e83;obtain ⟨g8,d9,cO,T8,j5,rfl,gQ,ek⟩:=af 0 _ (BT A0);have X:=O.take (CF l2.length) A0
 have W:=O.drop (CF l2.length) ax;refine B3<|AK Y<|Zv (AR DO Y)<|Xr [_] Y call210 Y V (X8 l2.length h9 A0) ?_;refine CT Y<|Ay (n:=8) (0::0::3::0::0::24::7::127::[]) 0 AD AD V<|A1 0 V (AP Y)<|A1 1 V (AP Y)<|A1 2 V (Bn DO FG Y Y A0)<|A1 3 V (AP Y)<|A1 4 V (AP Y) ?_
 (refine F5 (D':=63) 5 (Nk DO FG Y Y ?_ ?_) ?_;(focus (omega));(focus (omega)))
 refine A1 6 V (BC Y)<|A1 7 V (BC Y)<|Aq<|Zn [1,6,7,8,9] ?_;refine Zx<|B8 Y<|Zm Y<|Zv (Ef Y Y)<|A4<|Ak Y (fun K=>?_) (fun K=>?_);·
  have K:¬i2<CF l2.length:=by omega
  refine Zg<|Zm Y<|Zm Y<|Zm Y<|Zm Y<|Yb Y Y<|Za Y<|Za Y<|AH Y<|AK Y<|Zm Y<|Xr [_] Y call30 Y rfl (JL X (by rw [g];omega) (fun s h=>J s (RW h)) Z zg) ?_;refine Ze (Ah (vs:=[_]) (cs:=[_]) DO FG I2 Y V rfl V rfl V)<|AF fun b1=>Ze (Ed (by_:=16) (sz:=1) (news:=[_]) DO (V:Tryz.prog.info? 9=some Tryz.t9) V rfl V rfl Y I Y Wo Wh B1 V HO B0 A0 A0) ?_;rintro _ _ ⟨sw,G,rfl⟩;obtain ⟨gw,cw,rfl⟩:=G.form;refine B2 Y<|Zn [1,6,8] ?_;refine Zx<|Zg<|Zm Y<|B2 Y<|AA<|DG (e:=[(0,_),(1,_),(6,_)]) (h:=by exact ⟨l2.drop (CF l2.length),i2 -CF l2.length,_,_,o++[DN (l2.take (CF l2.length))],_,_,(by rw [Cp]),⟨(by rw [Cp];exact W),by rw [Cp];omega,fun s h=>J s (MT h),by rw [B,JF h9 K,gS,DH];rfl,BZ G B7 (by simp;rfl),by rw [C0,Cp];simp;omega⟩,(by rw [Cp]),rfl⟩)
 refine B3<|AK Y<|Zm Y<|Xr [_] Y call30 Y rfl (JL W (by rw [Cp];omega) (fun s h=>J s (MT h)) Z zg) ?_;refine Ze (Ah (vs:=[_]) (cs:=[_]) DO FG I2 Y V rfl V rfl V)<|AF fun b3=>Ze (Ed (by_:=16) (sz:=1) (news:=[_]) DO (V:Tryz.prog.info? 9=some Tryz.t9) V rfl V rfl Y I Y Wo Wh B1 V HO B0 A0 A0) ?_;rintro _ _ ⟨sw,G,rfl⟩;obtain ⟨gw,cw,rfl⟩:=G.form;refine AH Y<|Zg<|Zm Y<|B2 Y<|AA<|DG (e:=[(0,_),(1,_),(6,_)]) (h:=by exact ⟨l2.take (CF l2.length),i2,_,_,o++[DN (l2.drop (CF l2.length))],_,_,(by rw [g]),⟨(by rw [g];exact X),by rw [g];omega,fun s h=>J s (RW h),by rw [B,Jv h9 A0,gS,DH];rfl,BZ G B7 (by simp;rfl),by rw [C0,g];simp;omega⟩,(by rw [g]),rfl⟩)
end Go.Proofs.YtlkdhannldcfbabGreatDoor
