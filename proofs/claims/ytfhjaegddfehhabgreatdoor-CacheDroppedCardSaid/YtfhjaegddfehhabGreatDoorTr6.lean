/- A patch gives the result on the rows after the change: rows, numbers, sums, least and greatest values. -/
import Derived.Test.YtfhjaegddfehhabGreatDoorPr5
set_option linter.unusedVariables false
set_option linter.unusedSimpArgs false
namespace Go.Proofs.YtfhjaegddfehhabGreatDoor
open Go.Proofs.Tryz
open Go Go.RowKit Gw
set_option maxRecDepth 100000
attribute [local irreducible] Gw.At Gw.Nx Gw.Ops
variable{rs:List AX}
theorem Oe(g:BQ rs):rs.Nodup:=g.imp (by
 intro a b h e;subst e;unfold AX.lt2 at h;omega)
variable{q:QM}
theorem Ol(g:BF q)(rs:List AX)(x:AX):x∈CS rs q↔x∈rs/\inQ q x=true:=by rw [(Ht g rs).mem_iff,FF]
theorem SV(g:BF q)(m:BQ rs):(CS rs q).Nodup:=(Ht g rs).nodup_iff.2 ((Oe m).filter _)
theorem SS(G:BF q){o:List AX}(g:BQ rs)(hn:o.Nodup)(B:∀x,x∈o↔x∈rs/\inQ q x=true)(h2:o.Pairwise (leV q.cl.toNat)):o=CS rs q:=by
 have h:=Ht G rs;refine SN g (f:=inQ q) (t:=q.tb) (fun r m=>(I0 m).1) ?_ h h2 (Em g _ _ _ _);exact (S7 hn ((Oe g).filter _)).2 fun x=>by rw [B,FF]
variable{y x:AX}
theorem PK{b:Bool}(h:I7 q b x=some y):y=x/\b=true/\inQ q y=true:=by
 unfold I7 at h;split at h
 · rename_i h9
   rw [Ft]at h9;injection h with h
   subst h;exact ⟨V,h9⟩
 · cases h
theorem tC{b:Bool}(h:I7 q b x=none)(g:b=true):inQ q x=false:=by
 unfold I7 at h;rw [g,Vc]at h;split at h;· cases h
 · simp_all
theorem Rq(g:BF q)(y x:AX):Kc q y x=true↔Di y q.cl.toNat<Di x q.cl.toNat\/(Di x q.cl.toNat=Di y q.cl.toNat/\y.k<x.k):=by
 have hc:=g.2.1;have e:∀r,Bl r q.cl=Di r q.cl.toNat:=fun r=>by
  have:=Li r q.cl.toNat A1;rwa [show((q.cl.toNat:Nat):Int)=q.cl by omega]at this
 unfold Kc;rw [e,e,SP,Ft,G3,G3,G3]
theorem ux(B:BF q)(h:Kc q y x=false):leV q.cl.toNat x y:=by
 have g:=Rq B y x;rw [h]at g;unfold leV;have:¬(Di y q.cl.toNat<Di x q.cl.toNat\/(Di x q.cl.toNat=Di y q.cl.toNat/\y.k<x.k)):=fun m=>by cases g.2 m
 omega
theorem v7(g:BF q)(h:Kc q y x=true):leV q.cl.toNat y x:=by
 have:=(Rq g y x).1 h;unfold leV;omega
theorem WI(G:BF q){L:List AX}(U:L.Pairwise (leV q.cl.toNat))(y:AX):∃A B,L=A++B/\RY (Kc q y) L y=A++[y]++B/\(∀x∈A,Kc q y x=false)/\(∀x∈B,Kc q y x=true):=by
 cases h:L.findIdx? (Kc q y)with
 |none=>
  refine ⟨L,[],by simp,?_,e6.1 h,by simp⟩;unfold RY;rw [h];simp
 |some i=>
  obtain ⟨I,h2,J⟩:=ab.1 h;refine ⟨L.take i,L.drop i,(K1 i L).symm,?_,fun x hx=>?_,fun x hx=>?_⟩
  · unfold RY
    rw [h];rfl
  · obtain ⟨j,g⟩:=HE hx
    rw [HJ]at g;split at g
    · rename_i hji
      obtain ⟨W,rfl⟩:=C4.1 g;simpa using J j hji
    · cases g
  · have m:=U.sublist (List.drop_sublist i L)
    rw [S8 I]at hx m;rcases DB.1 hx with rfl|hx
    · exact h2
    · have O:=(RE.1 m).1 x hx
      have X:=(Rq G y _).1 h2;rw [Rq G];unfold leV at O;omega
theorem aT(g:AX->Bool)(L:List AX)(y:AX):(RY g L y).Perm (y::L):=by
 unfold RY;simp only [D3,Mb];refine SJ.trans ?_;rw [K1]
theorem iA(G:BF q){L:List AX}(g:L.Pairwise (leV q.cl.toNat))(y:AX):(RY (Kc q y) L y).Pairwise (leV q.cl.toNat):=by
 obtain ⟨A,B,e,e2,U,W⟩:=WI G g y;rw [e2];rw [e]at g;obtain ⟨J,h2,O⟩:=Pr.1 g;rw [D3];refine Pr.2 ⟨J,RE.2 ⟨fun x hx=>v7 G (W x hx),h2⟩,fun a I b m=>?_⟩;rcases DB.1 m with rfl|m
 · exact ux G (U a I)
 · exact O a I b m
theorem tt(c:Chg)(x:AX):K4 c x=true↔x.is c.t c.k:=by
 unfold K4 AX.is;rw [Ft,G3,G3]
variable{c:Chg}
theorem TK(m:BF q)(g:BQ rs)(B:GV rs c):EB q c (CS rs q)=CS (EN rs c) q:=by
 have J:((CS rs q).filter fun x=>!K4 c x).Pairwise (leV q.cl.toNat):=(Em g _ _ _ _).sublist Up;have O:((CS rs q).filter fun x=>!K4 c x).Nodup:=(SV m g).filter _
 have G:∀x,x∈((CS rs q).filter fun x=>!K4 c x)↔(x∈rs/\¬x.is c.t c.k)/\inQ q x=true:=fun x=>by
  rw [FF,Ol m,TX,<-pT,tt];constructor;· rintro ⟨⟨a,b⟩,d⟩;exact ⟨⟨a,d⟩,b⟩
  · rintro ⟨⟨a,d⟩,b⟩;exact ⟨⟨a,b⟩,d⟩
 unfold EB;cases ha:afQ q c with
 |none=>
  refine SS m (JI g B) O (fun x=>?_) J;rw [G,G7 g B];constructor;· rintro ⟨a,b⟩;exact ⟨.inl a,b⟩
  · rintro ⟨a|⟨a,rfl⟩,b⟩
    · exact ⟨a,b⟩
    · rw [tC ha a]at b;cases b
 |some y=>
  obtain ⟨hy,U,hi⟩:=PK ha;have I:y∉((CS rs q).filter fun x=>!K4 c x):=fun h=>((G y).1 h).1.2 (by rw [hy];exact ⟨rfl,rfl⟩)
  refine SS m (JI g B) ((aT _ _ y).nodup_iff.2 (Hc.2 ⟨I,O⟩)) (fun x=>?_) (iA m J y);rw [(aT _ _ y).mem_iff,DB,G,G7 g B];constructor
  · rintro (rfl|⟨a,b⟩)
    · exact ⟨.inr ⟨U,hy⟩,hi⟩
    · exact ⟨.inl a,b⟩
  · rintro ⟨a|⟨a,e⟩,b⟩
    · exact .inr ⟨a,b⟩
    · exact .inl (e.trans hy.symm)
theorem bG(lt:Int->Int->Bool)(G:∀a b c,lt b a=false->lt c b=false->lt c a=false)(m:∀a,lt a a=false)(g:∀a b,lt a b=true->lt b a=false)(B:∀a b,lt a b=false->lt b a=false->a=b){l:List Int}{x:Int}(hx:x∈l)(h:∀y∈l,lt y x=false):EX lt l=⟨[],x,true⟩:=by
 match l,hx,h with
 |z::l,hx,h=>
  obtain ⟨I,J,O,U⟩:=KY lt G m g z l;rw [U,B x I (O x hx) (h I J)]
theorem vB(lt:Int->Int->Bool)(l:List Int)(n:Int):EX lt (l++[n])=⟨(EX lt l).rows,if !(EX lt l).fnd||lt n (EX lt l).val then n else(EX lt l).val,true⟩:=by
 unfold EX;rw [Wa];rfl
theorem oK(lt:Int->Int->Bool)(G:∀a b c,lt b a=false->lt c b=false->lt c a=false)(g:∀a,lt a a=false)(m:∀a b,lt a b=true->lt b a=false)(B:∀a b,lt a b=false->lt b a=false->a=b)(X:List Int)(b a:Option Int)
 (h:(Gf lt b.isSome a.isSome (b.getD 0) (a.getD 0) (EX lt (X++b.toList))).2=true):(Gf lt b.isSome a.isSome (b.getD 0) (a.getD 0) (EX lt (X++b.toList))).1=EX lt (X++a.toList):=by
 have I:∀r:CB,r=EX lt X->(if a.isSome then((⟨r.rows,if !r.fnd||lt (a.getD 0) r.val then a.getD 0 else r.val,true⟩:CB),true)else(r,true)).1=EX lt (X++a.toList):=fun r hr=>by
  subst hr;cases a with
  |none=>simp
  |some n=>rw [pN,vB];rfl
 cases b with
 |none=>
  have e:EX lt (X++(none:Option Int).toList)=EX lt X:=by simp
  rw [e]at h⊢;exact I _ V
 |some o=>
  have O:∃x∈X++[o],(∀y∈X++[o],lt y x=false)/\EX lt (X++[o])=⟨[],x,true⟩:=by
   cases hx:X++[o]with
   |nil=>simp at hx
   |cons z l=>exact KY lt G g m z l
  obtain ⟨x,Z,h2,h3⟩:=O;rw [pN]at h⊢;rw [h3]at h⊢;unfold Gf at h⊢;simp only [Option.isSome_some,fg,Vc,SR,nh]at h⊢;cases hxo:lt x o with
  |false=>
   rw [hxo]at h;simp only [eK,Hj]at h⊢;have U:=h2 o B4
   have J:=B x o hxo U;subst J;cases a with
   |none=>simp at h
   |some n=>
    simp only [Option.isSome_some,fg,Vc,ke,TX]at h;rw [pN,bG lt G g m B (x:=n) B4 fun y hy=>?_];· rfl
    · rcases Bm.1 hy with hy|hy
      · exact G n x y h (h2 y (by simp [hy]))
      · rw [C1.1 hy];exact g n
  |true=>
   simp only [SR,Mn,HO];have W:x∈X:=by
    rcases Bm.1 Z with h9|h9
    · exact h9
    · rw [C1.1 h9,g]at hxo;cases hxo
   have e:(⟨[],x,true⟩:CB)=EX lt X:=(bG lt G g m B W fun y hy=>h2 y (by simp [hy])).symm;have:=I _ e
   simpa using this
theorem PQ(q:QM)(a b:List AX):Cu q (a++b)=Cu q a++Cu q b:=C2
theorem ZY(q:QM)(o:Option AX):Cu q o.toList=(o.map fun r=>Bl r q.bq).toList:=by cases o<;>rfl
theorem gI(q:QM)(o:Option AX):mQ q o=(o.map fun r=>Bl r q.bq).getD 0:=by cases o<;>rfl
theorem jm(q:QM)(o:Option AX):o.isSome=(o.map fun r=>Bl r q.bq).isSome:=by cases o<;>rfl
theorem xN(o:Option Int):Jw o.toList=o.getD 0:=by
 cases o with
 |none=>rfl
 |some x=>show x+0=x;omega
theorem ZL(O:BF q)(hs:BQ rs)(hf:GV rs c)(h7:q.kd≠7)(J:Cq q c=true)(h:(Bv q c (Ci rs q)).2=true):(Bv q c (Ci rs q)).1=Ci (EN rs c) q:=by
 obtain ⟨A,B,e1,e2⟩:=QL hf;have f1:rs.filter (inQ q)=A.filter (inQ q)++(bfQ q c).toList++B.filter (inQ q):=by
  conv=>lhs;rw [e1]
  rw [IH,IH,Te]
 have f2:(EN rs c).filter (inQ q)=A.filter (inQ q)++(afQ q c).toList++B.filter (inQ q):=by
  rw [e2,IH,IH,Tf]
 have p1:=Ht O rs;have p2:=Ht O (EN rs c)
 rw [f1]at p1;rw [f2]at p2;have hk:=O.2.2.2
 have l1:=p1.length_eq;have l2:=p2.length_eq
 simp only [BW]at l1 l2;have m1:(Cu q (CS rs q)).Perm ((Cu q (A.filter (inQ q))++Cu q (B.filter (inQ q)))++((bfQ q c).map fun r=>Bl r q.bq).toList):=by
  rw [<-ZY,<-PQ,<-PQ];refine (p1.map _).trans (List.Perm.map _ ?_);simp only [D3];exact PJ _ Ly
 have m2:(Cu q (CS (EN rs c) q)).Perm ((Cu q (A.filter (inQ q))++Cu q (B.filter (inQ q)))++((afQ q c).map fun r=>Bl r q.bq).toList):=by
  rw [<-ZY,<-PQ,<-PQ];refine (p2.map _).trans (List.Perm.map _ ?_);simp only [D3];exact PJ _ Ly
 have hx:∀lt:Int->Int->Bool,(∀a b c,lt b a=false->lt c b=false->lt c a=false)->(∀a,lt a a=false)->(∀a b,lt a b=true->lt b a=false)->(∀a b,lt a b=false->lt b a=false->a=b)->(Gf lt (bfQ q c).isSome (afQ q c).isSome (mQ q (bfQ q c)) (mQ q (afQ q c)) (EX lt (Cu q (CS rs q)))).2=true->(Gf lt (bfQ q c).isSome (afQ q c).isSome (mQ q (bfQ q c)) (mQ q (afQ q c)) (EX lt (Cu q (CS rs q)))).1=EX lt (Cu q (CS (EN rs c) q)):=fun lt U W X Z h9=>by
  rw [Pe lt U W X Z (fun y=>m1.mem_iff),gI,gI,jm,jm]at h9⊢;rw [Pe lt U W X Z (fun y=>m2.mem_iff)];exact oK lt U W X Z _ _ _ h9
 unfold Bv Ci FV at h⊢;unfold Cq at J;rcases (by omega:(q.kd=1\/q.kd=2)\/q.kd=3\/q.kd=4\/q.kd=5\/q.kd=6)with h8|h8|h8|h8|h8
 · have G:¬q.kd=3:=by omega
   have I:¬q.kd=4:=by omega
   have g5:¬q.kd=5:=by omega
   have g6:¬q.kd=6:=by omega
   simp only [Ax h8,G,I,g5,g6,h7,HO,TK O hs hf]
 · have m:¬(q.kd=1\/q.kd=2):=by omega
   simp only [An m,Ax h8]at J⊢;unfold Ut at J;cases hb:bfQ q c<;>cases ha:afQ q c<;>rw [hb,ha]at J<;>rw [hb]at l1<;>rw [ha]at l2<;>simp at J l1 l2⊢<;>omega
 · have m:¬(q.kd=1\/q.kd=2):=by omega
   have G:¬q.kd=3:=by omega
   simp only [An m,G,Ax h8,HO];have s1:=Mh m1
   have s2:=Mh m2;rw [YV,xN,<-gI]at s1 s2;have g:∀l,Ll l=Jw l:=fun l=>by unfold Ll;rw [NC];omega
   simp only [g];congr 1;omega
 · have m:¬(q.kd=1\/q.kd=2):=by omega
   have G:¬q.kd=3:=by omega
   have I:¬q.kd=4:=by omega
   simp only [An m,G,I,Ax h8,HO]at h⊢;exact hx _ (fun a b c h1 h2=>by simp only [N5]at*;omega) (fun a=>by simp) (fun a b h=>by simp only [G3,N5]at*;omega) (fun a b h1 h2=>by simp only [N5]at*;omega) h
 · have m:¬(q.kd=1\/q.kd=2):=by omega
   have G:¬q.kd=3:=by omega
   have I:¬q.kd=4:=by omega
   have g5:¬q.kd=5:=by omega
   simp only [An m,G,I,g5,Ax h8,HO]at h⊢;exact hx _ (fun a b c h1 h2=>by simp only [N5]at*;omega) (fun a=>by simp) (fun a b h=>by simp only [G3,N5]at*;omega) (fun a b h1 h2=>by simp only [N5]at*;omega) h
theorem Fq(m:BQ rs)(k:Int)(x:AX):De q (IW rs q.ot) k=some x↔x∈rs/\x.is q.ot k:=by
 have J:∀a∈rs,∀b∈rs,a.is q.ot k->b.is q.ot k->a=b:=fun a G b I B h2=>by
  have e1:=KW m G B;have e2:=KW m I h2
  rw [e1]at e2;injection e2
 have g:∀y,y∈IW rs q.ot/\decide (y.t=q.ot/\y.k=k)=true↔y∈rs/\y.is q.ot k:=fun y=>by
  unfold IW inT AX.is;rw [FF,G3,G3];constructor;· rintro ⟨⟨a,_⟩,b⟩;exact ⟨a,b⟩
  · rintro ⟨a,b⟩;exact ⟨⟨a,b.1⟩,b⟩
 unfold De;constructor
 · intro h
   exact (g x).1 ⟨lr h,by simpa using nb (p:=fun x:AX=>decide (x.t=q.ot/\x.k=k)) h⟩
 · intro h
   cases hf:(IW rs q.ot).find? fun x=>decide (x.t=q.ot/\x.k=k)with
   |none=>
    have:=mu.1 hf x ((g x).2 h).1;exact absurd ((g x).2 h).2 this
   |some y=>
    have h2:=(g y).1 ⟨lr hf,by simpa using nb (p:=fun x:AX=>decide (x.t=q.ot/\x.k=k)) hf⟩;rw [J y h2.1 x h.1 h2.2 h.2]
def prQ(rs:List AX)(q:QM)(r:AX):Option Bc:=(De q (IW rs q.ot) (Bl r q.bq)).map fun x=>⟨r,x⟩
def qS(rs:List AX)(q:QM):List Bc:=(CS rs q).filterMap (prQ rs q)
theorem aL(rs:List AX)(q:QM):∀l:List AX,Iy q l (IW rs q.ot)=DZ (l.filterMap (prQ rs q))
 |[]=>rfl
 |r::l=>by
  have h:=aL rs q l;unfold Iy at h⊢;rw [HW,h,mN];unfold Iw prQ;cases De q (IW rs q.ot) (Bl r q.bq)<;>rfl
theorem fV(ps:List Bc):Ex (DZ ps)=ps:=by
 have G:(DZ ps).length=2*ps.length:=IJ ps;have g:∀(ps:List Bc) (k:Nat) (p:Bc),ps[k]?=some p->(DZ ps)[2*k]?=some p.l/\(DZ ps)[2*k+1]?=some p.r:=by
  intro ps;induction ps with
  |nil=>intro k p h;cases h
  |cons a ps ih=>
   intro k p h;have e:DZ (a::ps)=a.l::a.r::DZ ps:=rfl
   rw [e];cases k with
   |zero=>injection h with h;subst h;exact ⟨rfl,rfl⟩
   |succ k=>
    have:=ih k p h;rw [show 2*(k+1)=2*k+2 by omega];exact this
 apply Mu;intro k;have m:(Ex (DZ ps)).length=ps.length:=by rw [KP];omega
 rcases E4 k ps.length with h|h
 · obtain ⟨B,h2⟩:=g ps k _ (B7 h)
   unfold Ex;rw [E0,aq A1,NX,N6,N6,B,h2,B7 h];rfl
 · rw [MY A1,MY h]
variable{α:Type}
theorem xq{a b:Option α}(h:∀x,a=some x↔b=some x):a=b:=Option.ext h
variable{r:AX}
theorem Vh{p:Bc}(h:prQ rs q r=some p):p.l=r/\De q (IW rs q.ot) (Bl r q.bq)=some p.r:=by
 unfold prQ at h;cases hp:De q (IW rs q.ot) (Bl r q.bq)with
 |none=>rw [hp]at h;cases h
 |some x=>rw [hp]at h;injection h with h;subst h;exact ⟨rfl,rfl⟩
theorem U9{α β:Type}{f g:α->Option β}:∀{l:List α},(∀x∈l,f x=g x)->l.filterMap f=l.filterMap g
 |[],_=>rfl
 |x::l,h=>by rw [mN,mN,h x B4,U9 fun y hy=>h y (by simp [hy])]
theorem Na{β γ:Type}(f:α->Option β)(g:β->Option γ)(h:α->Option γ)(l:List α)(e:∀x∈l,(f x).bind g=h x):(l.filterMap f).filterMap g=l.filterMap h:=by
 rw [oX];exact U9 e
theorem uw(g:Bc->Bool)(A B:List Bc)(y:Bc)(m:∀x∈A,g x=false)(G:∀x∈B,g x=true):PV g (A++B) y=A++[y]++B:=by
 have e:((A++B).findIdx? g).getD (A++B).length=A.length:=by
  rw [List.findIdx?_append,e6.2 m];cases B with
  |nil=>simp
  |cons b B=>rw [List.findIdx?_cons,G b B4];simp
 unfold PV;rw [e];simp
theorem ZK(hq:BF q)(O:BQ rs)(Z:GV rs c)(h7:q.kd=7)(ht:Cq q c=true)(h:(Bv q c (Ci rs q)).2=true):(Bv q c (Ci rs q)).1=Ci (EN rs c) q:=by
 have kv:=JI O Z;have j3:∀rs,Ci rs q=⟨DZ (qS rs q),0,false⟩:=fun rs=>by
  unfold Ci FV;simp only [show¬q.kd=3 by omega,show¬q.kd=4 by omega,show¬q.kd=5 by omega,show¬q.kd=6 by omega,h7,Hj,HO];rw [aL];rfl
 have o9:∀r,Bv q c r=DD q c r:=fun r=>by
  unfold Bv;simp only [show¬(q.kd=1\/q.kd=2) by omega,show¬q.kd=3 by omega,show¬q.kd=4 by omega,show¬q.kd=5 by omega,show¬q.kd=6 by omega,HO]
 have p9:OJ q c=true\/c.t=q.ot:=by
  unfold Cq at ht;simp only [show¬(q.kd=1\/q.kd=2) by omega,show¬q.kd=3 by omega,show¬q.kd=4 by omega,show¬(q.kd=5\/q.kd=6) by omega,HO,SP,G3]at ht;exact ht
 rw [o9,j3]at h⊢;rw [j3];unfold DD at h⊢;split;· rename_i g;rw [Ax g]at h;cases h
 rename_i hto;rw [An hto]at h;simp only [fV]at h⊢;congr 2;have gq:c.t≠q.tb->CS (EN rs c) q=CS rs q:=fun j5=>by
  refine (SS hq kv (SV hq O) (fun x=>?_) (Em O _ _ _ _)).symm;rw [Ol hq,G7 O Z];constructor
  · rintro ⟨a,b⟩
    exact ⟨.inl ⟨a,fun g=>j5 (g.1.symm.trans (I0 b).1)⟩,b⟩
  · rintro ⟨⟨a,_⟩|⟨a,rfl⟩,b⟩
    · exact ⟨a,b⟩
    · exact absurd (I0 b).1 j5
 unfold jnT qS at h⊢;by_cases G:c.t=q.ot
 · rw [Ax G]at h⊢
   rw [gq A1];have W:∀k,De q (IW (EN rs c) q.ot) k=if k=c.k then(if c.has then some ⟨c.t,c.k,c.n⟩else none)else De q (IW rs q.ot) k:=fun k=>by
    apply xq;intro x;rw [Fq kv,G7 O Z];unfold AX.is;split
    · rename_i m
      split
      · rename_i U
        rw [Option.some_inj];constructor
        · rintro ⟨⟨_,a⟩|⟨_,rfl⟩,b,d⟩
          · exact absurd ⟨b.trans G.symm,d.trans m⟩ a
          · rfl
        · rintro rfl;exact ⟨.inr ⟨U,rfl⟩,G,m.symm⟩
      · rename_i U
        constructor
        · rintro ⟨⟨_,a⟩|⟨a,_⟩,b,d⟩
          · exact absurd ⟨b.trans G.symm,d.trans m⟩ a
          · exact absurd a U
        · intro g;cases g
    · rename_i m
      rw [Fq O];unfold AX.is;constructor
      · rintro ⟨⟨a,_⟩|⟨_,rfl⟩,b⟩
        · exact ⟨a,b⟩
        · exact absurd b.2.symm m
      · rintro ⟨a,b,d⟩
        exact ⟨.inl ⟨a,fun g=>m (d.symm.trans g.2)⟩,b,d⟩
   have ax:c.had=true->∃x,De q (IW rs q.ot) c.k=some x:=fun U=>by
    obtain ⟨r,hr,hi,_⟩:=JP (Z.1.trans U);exact ⟨r,(Fq O c.k r).2 ⟨hr,by rw [<-G];exact hi⟩⟩
   have J:∀{k x},De q (IW rs q.ot) k=some x->x.k=k:=fun g=>((Fq O _ _).1 g).2.2;split
   · rename_i U
     rw [Ax U]at h;obtain ⟨x0,X⟩:=ax h;rw [<-List.filterMap_eq_map];refine Na _ _ _ _ fun r _=>?_;unfold prQ;rw [W,U];by_cases m:Bl r q.bq=c.k
     · rw [m,X,Ax rfl]
       simp only [NX,KK,Function.comp_apply,Ha,J X,decide_true,Hj]
     · rw [An m]
       cases I:De q (IW rs q.ot) (Bl r q.bq)with
       |none=>rfl
       |some x=>simp only [NX,KK,Function.comp_apply,Ha,J I,m,aE,Mn,HO]
   · rename_i U
     rw [An U]at h;rw [<-oY];refine Na _ _ _ _ fun r _=>?_;unfold prQ;rw [W,An U];by_cases m:Bl r q.bq=c.k
     · rw [m,Ax rfl]
       obtain ⟨x0,X⟩:=ax h;rw [X];simp [Option.guard,Ha,J X]
     · rw [An m]
       cases I:De q (IW rs q.ot) (Bl r q.bq)with
       |none=>rfl
       |some x=>simp [Option.guard,Ha,J I,m]
 · rw [An G]at h⊢
   have hg:∀r,prQ (EN rs c) q r=prQ rs q r:=fun r=>by unfold prQ;rw [jP Z G]
   have o8:prQ (EN rs c) q=prQ rs q:=funext hg;rw [o8];have p8:c.t=q.tb:=by
    rcases p9 with g|g
    · unfold OJ at g
      rw [SP]at g;rcases g with g|g
      · obtain ⟨y,hy⟩:=j1.1 g
        obtain ⟨e,_,hi⟩:=PK hy;rw [e]at hi;exact (I0 hi).1
      · obtain ⟨y,hy⟩:=j1.1 g
        obtain ⟨e,_,hi⟩:=PK hy;rw [e]at hi;exact (I0 hi).1
    · exact absurd g G
   have gm:((CS rs q).filterMap (prQ rs q)).filter (fun p=>!QY c.k p)=((CS rs q).filter fun x=>!K4 c x).filterMap (prQ rs q):=by
    rw [<-oY,<-oY,oX,oX];refine U9 fun r hr=>?_;have af:r.t=c.t:=((I0 ((Ol hq rs r).1 hr).2).1).trans p8.symm
    by_cases m:r.k=c.k
    · cases I:prQ rs q r with
      |none=>simp [Option.guard,K4,af,m]
      |some p=>simp [Option.guard,K4,af,m,QY,(Vh I).1]
    · cases I:prQ rs q r with
      |none=>simp [Option.guard,K4,af,m,I]
      |some p=>simp [Option.guard,K4,af,m,QY,(Vh I).1,I]
   rw [gm]at h⊢;have gy:=TK hq O Z
   rw [<-gy];unfold EB;cases ha:afQ q c with
   |none=>rfl
   |some y=>
    rw [ha]at h;simp only [ha]at h⊢;have hm:mQ q (some y)=Bl y q.bq:=rfl
    rw [hm]at h⊢;have hL:((CS rs q).filter fun x=>!K4 c x).Pairwise (leV q.cl.toNat):=(Em O _ _ _ _).sublist Up
    obtain ⟨A,B,e1,e2,hA,hB⟩:=WI hq hL y;rw [e2];cases hfi:((CS rs q).filterMap (prQ rs q)).findIdx? (Ha (Bl y q.bq))with
    |none=>
     have hi:Gy (Ha (Bl y q.bq)) ((CS rs q).filterMap (prQ rs q))=-1:=by unfold Gy;rw [hfi];rfl
     rw [hi,Ax AW]at h⊢;rw [Ft,G3]at h;obtain ⟨b,hb⟩:=j1.1 h.1;obtain ⟨eb,ic,l8⟩:=PK hb;have g:=h.2
     rw [hb]at g;have l9:b∈CS rs q:=by
      refine (Ol hq rs b).2 ⟨?_,l8⟩;obtain ⟨r,hr,hi,_,he⟩:=JP (Z.1.trans ic);have hv:=Z.2 (Z.1.trans ic)
      rw [he]at hv;have:b=r:=by
       rw [eb];obtain ⟨t,k,v⟩:=r;obtain ⟨h5,h6⟩:=hi;simp only at h5 h6 hv;subst h5 h6 hv;rfl
      rw [this];exact hr
     have cu:prQ rs q b=none:=by
      cases I:prQ rs q b with
      |none=>rfl
      |some p=>
       have bn:=e6.1 hfi p (ar.2 ⟨b,l9,I⟩);have l5:=(Fq O _ _).1 (Vh I).2
       unfold Ha at bn;rw [N5]at bn;exact absurd (l5.2.2.trans g) bn
     have cO:prQ rs q y=none:=by
      unfold prQ at cu⊢;rw [show Bl y q.bq=Bl b q.bq from g.symm];cases I:De q (IW rs q.ot) (Bl b q.bq)with
      |none=>rfl
      |some x=>rw [I]at cu;cases cu
     rw [e1,fW,fW,fW];simp [cO]
    |some i=>
     obtain ⟨h1,h2,h3⟩:=ab.1 hfi;have hi:Gy (Ha (Bl y q.bq)) ((CS rs q).filterMap (prQ rs q))=(i:Int):=by unfold Gy;rw [hfi];rfl
     rw [hi,An A1]at h⊢;rw [W8,N6,B7 h1,fg];obtain ⟨r,hr,I⟩:=ar.1 (ph h1);generalize ((CS rs q).filterMap (prQ rs q))[i]=p at h2 I;have h4:=(Fq O _ _).1 (Vh I).2
     unfold Ha at h2;rw [G3]at h2;have cO:prQ rs q y=some ⟨y,p.r⟩:=by
      unfold prQ;rw [(Fq O (Bl y q.bq) p.r).2 ⟨h4.1,h4.2.1,h2⟩];rfl
     rw [e1,fW,uw];· simp [cO]
     · intro x hx
       obtain ⟨r9,ek,d9⟩:=ar.1 hx;rw [(Vh d9).1];exact hA r9 ek
     · intro x hx
       obtain ⟨r9,ek,d9⟩:=ar.1 hx;rw [(Vh d9).1];exact hB r9 ek
theorem fO(B:BF q)(G:BQ rs)(m:GV rs c)(I:Cq q c=true)(h:(Bv q c (Ci rs q)).2=true):(Bv q c (Ci rs q)).1=Ci (EN rs c) q:=by
 by_cases g:q.kd=7
 · exact ZK B G m g I h
 · exact ZL B G m g I h
def GK(q:QM)(base:Int):Nat->CB×Int->List BP->Option (CB×Int)
 |_,st,[]=>some st
 |i,st,x::l=>if(Ba q st.1 x.cs).2.2=true/\base<=9223372036854775806 -(i:Int)/\x.p=base+1+(i:Int)then GK q base (i+1) ((Ba q st.1 x.cs).1,if(Ba q st.1 x.cs).2.1 then x.p else st.2) l else none
theorem Ou(q:QM)(base:Int):∀(a:List BP) (i:Nat) (st:CB×Int) (b:List BP),GK q base i st (a++b)=(GK q base i st a).bind fun g=>GK q base (i+a.length) g b
 |[],i,st,b=>rfl
 |x::a,i,st,b=>by
  show(if(Ba q st.1 x.cs).2.2=true/\base<=9223372036854775806 -(i:Int)/\x.p=base+1+(i:Int)then GK q base (i+1) _ (a++b)else none)=(if(Ba q st.1 x.cs).2.2=true/\base<=9223372036854775806 -(i:Int)/\x.p=base+1+(i:Int)then GK q base (i+1) _ a else none).bind _;split;· rw [Ou q base a (i+1) _ b,Dd,show i+(a.length+1)=i+1+a.length by omega]
  · rfl
theorem JD{base:Int}{st g:CB×Int}{l:List BP}{k:Nat}{x:BP}(h:GK q base 0 st (l.take k)=some g)(hx:l[k]?=some x):GK q base 0 st (l.take (k+1))=if(Ba q g.1 x.cs).2.2=true/\base<=9223372036854775806 -(k:Int)/\x.p=base+1+(k:Int)then some ((Ba q g.1 x.cs).1,if(Ba q g.1 x.cs).2.1 then x.p else g.2)else none:=by
 have m:=(C4.1 hx).1;rw [Bn hx,Ou,h,CC,RT A1,DM];rfl
theorem Mi{base:Int}{st:CB×Int}{l:List BP}{k:Nat}(h:GK q base 0 st (l.take k)=none):GK q base 0 st l=none:=by
 rw [<-K1 k l,Ou,h];rfl
def BD(q:QM)(r:CB)(base:Int)(l:List BP):CB×Int×Bool:=match GK q base 0 (r,base) l with
 |some st=>(st.1,st.2,true)
 |none=>(CB.none,0,false)
theorem Me{r:CB}{cs:List Chg}(h:(Ba q r cs).2.2=true):Hu q r cs=some (Ba q r cs).1/\(Ba q r cs).2.1=cs.any (Dk q):=by
 unfold Ba at*;split at h;· rename_i h9;rw [h9];exact ⟨rfl,rfl⟩
 · cases h
theorem Ot{q:QM}{base:Int}:∀(l:List BP) (i:Nat) (st st':CB×Int) (B:Int) (n:Nat),GK q base i st l=some st'->(∀x∈l,x.cs.length<=1000)->(-B<=st.1.val/\st.1.val<=B)->0<=B->st.1.rows.length<=n->(-(B+2000000000000*(l.length:Int))<=st'.1.val/\st'.1.val<=B+2000000000000*(l.length:Int))/\st'.1.rows.length<=n+2000*l.length
 |[],i,st,st',B,n,h,hl,h1,h2,h3=>by
  unfold GK at h;injection h with h
  subst h;simp only [LI];exact ⟨⟨by omega,by omega⟩,h3⟩
 |x::l,i,st,st',B,n,h,hl,h1,h2,h3=>by
  unfold GK at h;split at h
  · rename_i h9
    have G:=XF _ _ _ B n (Me h9.1).1 h1 h2 h3;have I:=hl x B4
    have m:=Ot l (i+1) _ st' (B+2000000000000) (n+2000) h (fun y hy=>hl y (by simp [hy])) ⟨by simp only;omega,by simp only;omega⟩ A1 (by simp only;omega);rw [Dd];obtain ⟨⟨J,O⟩,g⟩:=m;refine ⟨⟨?_,?_⟩,by omega⟩<;>(push_cast;omega)
  · cases h
set_option maxHeartbeats 1000000 in
theorem Qw(q:QM)(hq:BF q)(base:Int)(hb:-9223372036854775808<=base/\base<=9223372036854775807){l:List BP}{lv:A3}{ML:List A9}(hL:EE ML lv l)(o9:l.length<=1000)(U:∀x∈l,x.cs.length<=1000){r:CB}{rv:A3}{A:List A9}(hr:DW A rv r.rows)(hn:r.rows.length<=1000000)(hv:-1000000000000000000<=r.val/\r.val<=1000000000000000000):BZ prog 70 #[.agg q.A98,.agg #[rv,I4 r.val,.bool r.fnd],I4 base,lv] [A,ML] (fun w H'=>∃af s',w= .tuple #[.agg #[af,I4 (BD q r base l).1.val,.bool (BD q r base l).1.fnd],I4 (BD q r base l).2.1,.bool (BD q r base l).2.2]/\Bd 5 72 af (BD q r base l).1.rows.length (Af (BD q r base l).1.rows) s'/\H'=[s',A,ML]):=by
 have p9:=mL;obtain ⟨pv,cv,rfl,_⟩:=id hr;obtain ⟨pl,l5,rfl,⟨p8,o8⟩,gm⟩:=id hL;refine Se func70 ntmps70 [0,1,2,3] ?_;intro u R;refine A0<|Ze (Bx q.A98)<|AG fun bq=>Ze (Bx #[.slice pv r.rows.length cv,I4 r.val,.bool r.fnd])<|AG fun br=>Ze (Al Gk #[_,_,_])<|AG fun bo=>Za Y<|A4 Y<|A0<|Zm Y<|A4 Y<|A0<|Zh 0 CH V rfl CI Y<|Zl Fm Y<|Zc [_] Y call99 Y V (Gp hr A1) ?_;rintro _ _ ⟨_,⟨s1,h1,rfl⟩,rfl⟩;obtain ⟨g1,c1,rfl⟩:=h1.form;refine Zh 0 CH V rfl CI Y<|Xe (Zs CI Y Y V (hi:=by(simp;done)))<|A5<|Zq<|A0<|Zm Y<|Zv (AY GO Y)<|Zm Y<|Z0<|Zn [2,4,5,8,11,22,23,24] ?_;refine Zx<|AQ<|Zb [11,24,2,4,5,8,22,23] ?_;refine BA (e0:=[(11,_),(24,_)]) (fun m e H=>∃(k:Nat) (g:CB×Int) (gk:B6) (ck:Nat) (sk:List A9),m=l.length -k/\(k<=l.length/\GK q base 0 (r,base) (l.take k)=some g/\Bd 5 72 (.slice gk g.1.rows.length ck) g.1.rows.length (Af g.1.rows) sk)/\e=[(11,I4 g.2),(24,I4 (k:Int))]/\H=[[(br,.cells #[.slice gk g.1.rows.length ck,I4 g.1.val,.bool g.1.fnd] 54 (0,0))],sk]) (by exact ⟨0,(r,base),g1,c1,s1,rfl,⟨C5 _,by rw [Kd];rfl,h1⟩,rfl,rfl⟩) Wp ?_;rintro _ _ _ ⟨k,g,gk,ck,sk,rfl,⟨hk,B,Z⟩,rfl,rfl⟩;obtain ⟨ic,gy⟩:=Ot (l.take k) 0 (r,base) g 1000000000000000000 1000000 B (fun x hx=>U x (Pc hx)) hv A1 hn;have gq:(l.take k).length=k:=by rw [CC];omega
 rw [gq]at ic gy;have d9:=DY Z A1
 refine A0<|Zv (Au Y Y)<|A5<|Zq<|Aq Y (fun X=>?_) (fun X=>?_);·
  obtain ⟨x,hx⟩:∃x,l[k]?=some x:=⟨_,B7 X⟩;have j5:=U x (Dg hx)
  obtain ⟨cO,g2,l9,O,T2,kv,rfl,j3,l8,W⟩:=gm k x hx;refine AC<|Zx<|Zq<|AQ<|A0<|Zm Y<|BV (Ad GO F1 Y Y A1)<|CG (cs:=[(g2,.cells O T2 kv)]) (by simp [j3]) (AA (cs:=#[_,_]) HP F1 Y A1 W) V rfl<|Ze (Al S2 #[_,_])<|AG fun bx=>Za Y<|Xe (Xw F1 #[I4 x.p,.slice x.q x.cs.length x.cap])<|A5<|A0<|Zo Wh (AA (cs:=#[_,_,_,_,_,_,_]) F2 CN Y B1 As)<|Zo Wh (AA (cs:=#[_,_,_]) C6 B2 Y B1 As)<|Zo Wh (AA (cs:=#[_,_]) HP F1 Y B1 As)<|Zc [_,_,_] Y call48 Y V (JS q hq x.p x.q x.cap x.cs cO j5 d9 A1 A1) ?_;rintro _ _ ⟨_,⟨pg,s3,rfl,h3,rfl⟩,rfl⟩;obtain ⟨g3,c3,rfl⟩:=h3.form;refine Zm Y<|Zd Y V<|Zd Y V<|Zd Y V<|Ze (Al Gk #[_,_,_])<|AG fun bn=>Xe (Xw B2 #[.slice g3 (Ba q g.1 x.cs).1.rows.length c3,I4 (Ba q g.1 x.cs).1.val,.bool (Ba q g.1 x.cs).1.fnd])<|Za Y<|AN Y<|Zn [2,4,5,8,11,12,13,14,15,16,22,23,24] ?_;refine Zx<|Zq<|A0<|Zm Y<|Zv (Br Y)<|Zm Y<|Ae (t:=39) Y V (fun J=>?_) (fun J=>?_);·
   have I:(Ba q g.1 x.cs).2.2=false:=by simpa using J
   refine A7 Y V<|A7 Y V<|A7 Y V<|A7 Y V<|Zv (AV Y Y)<|Zm Y<|A7 Y V<|A7 Y V<|A7 Y V<|A7 Y V<|A7 Y V<|A7 Y V<|A7 Y V<|Zv (AV Y Y)<|Z0<|Zn [2,4,5,8,11,13,14,15,22,23,24,53] ?_;refine Zx<|Co Y<|Zq<|BX ?_;have G:BD q r base l=(CB.none,0,false):=by unfold BD;rw [Mi (k:=k+1) (by rw [JD B hx,An (by(rw [I];rintro ⟨h,_⟩;cases h;done))])]
   refine Zg<|Zv (BL (vs:=[]) (cs:=#[_,_,_]) Y (AZ (pl:=#[(0,1),(1,1),(2,1)]) Gk CH (fun _=>by kernel_rfl) rfl))<|Xe (Xw B2 _)<|Za Y<|A4 Y<|AJ<|Zt<|Ac<|Zt<|Zt<|Ac<|Zt<|I8 rfl results70 Y Wh (Am C6 B2 Wn (rfl)) Y Y (by exact ⟨.slice none 0 0,[],by rw [G];rfl,by rw [G];exact Bf 5 _,rfl⟩)
  have I:(Ba q g.1 x.cs).2.2=true:=by simpa using J
  refine Zf Y Y<|Zf Y Y<|Gx Y (CQ (m:=9223372036854775806) Y Y A1 A1) V rfl ?_;refine Yg (Et Y Y)<|Zv (AL Y Y)<|Zm Y<|Aj (t:=45) Y V (fun ax=>?_) (fun ax=>?_);·
   refine A7 Y V<|A7 Y V<|A7 Y V<|A7 Y V<|A7 Y V<|A7 Y V<|A7 Y V<|Zv (AV Y Y)<|Z0<|Zn [2,4,5,8,11,13,14,15,22,23,24,53] ?_;refine Zx<|Co Y<|Zq<|BX ?_;have G:BD q r base l=(CB.none,0,false):=by unfold BD;rw [Mi (k:=k+1) (by rw [JD B hx,An (by(rintro ⟨_,h8,h9⟩;omega))])]
   refine Zg<|Zv (BL (vs:=[]) (cs:=#[_,_,_]) Y (AZ (pl:=#[(0,1),(1,1),(2,1)]) Gk CH (fun _=>by kernel_rfl) rfl))<|Xe (Xw B2 _)<|Za Y<|A4 Y<|AJ<|Zt<|Ac<|Zt<|Zt<|Ac<|Zt<|I8 rfl results70 Y Wh (Am C6 B2 Wn (rfl)) Y Y (by exact ⟨.slice none 0 0,[],by rw [G];rfl,by rw [G];exact Bf 5 _,rfl⟩)
  refine Yf 0 Ge V rfl A6 Y<|Yl AF Y<|Zf Y Y<|Gx Y (Hg Y Y (IntWalk.i64_in _ A1)) V rfl ?_;refine Zf Y Y<|Gx Y (Hg Y Y (IntWalk.i64_in _ A1)) V rfl ?_;refine Yg (LZ Y Y)<|Zv (AL Y Y)<|Z0<|Zn [2,4,5,8,11,13,14,15,22,23,24,53] ?_;refine Zx<|Aq Y (fun cu=>?_) (fun cu=>?_);·
   refine Zq<|BX ?_;have G:BD q r base l=(CB.none,0,false):=by unfold BD;rw [Mi (k:=k+1) (by rw [JD B hx,An (by(rintro ⟨_,h8,h9⟩;omega))])]
   refine Zg<|Zv (BL (vs:=[]) (cs:=#[_,_,_]) Y (AZ (pl:=#[(0,1),(1,1),(2,1)]) Gk CH (fun _=>by kernel_rfl) rfl))<|Xe (Xw B2 _)<|Za Y<|A4 Y<|AJ<|Zt<|Ac<|Zt<|Zt<|Ac<|Zt<|I8 rfl results70 Y Wh (Am C6 B2 Wn (rfl)) Y Y (by exact ⟨.slice none 0 0,[],by rw [G];rfl,by rw [G];exact Bf 5 _,rfl⟩)
  refine AC<|Zx<|A0<|Zo Wh (AA (cs:=#[_,_,_]) C6 B2 Y B1 As)<|Xe (BM B2 Y Y HT Wu As Fc B1 (by exact BC _))<|A5<|A0<|Zm Y<|A5<|AU Y (fun ht=>?_) (fun ht=>?_);·
   refine Zg<|Zh 0 Ge V rfl A6 Y<|Zl AF Y<|AN Y<|A8<|Zx<|Zg<|Ya (n:=1) Y Y<|Zm Y<|Z0<|Zn [11,24,2,4,5,8,22,23] ?_;refine Ab (e':=[(11,_),(24,_)]) (by exact ⟨k+1,((Ba q g.1 x.cs).1,x.p),g3,c3,s3,rfl,⟨by omega,by rw [JD B hx,Ax ⟨I,by omega,by omega⟩,ht];rfl,h3⟩,rfl,rfl⟩)
  refine AC<|A8<|Zx<|Zg<|Ya (n:=1) Y Y<|Zm Y<|Z0<|Zn [11,24,2,4,5,8,22,23] ?_;refine Ab (e':=[(11,_),(24,_)]) (by exact ⟨k+1,((Ba q g.1 x.cs).1,g.2),g3,c3,s3,rfl,⟨by omega,by rw [JD B hx,Ax ⟨I,by omega,by omega⟩,ht];rfl,h3⟩,rfl,rfl⟩)
 have ek:k=l.length:=by omega
 subst ek;rw [GS]at B;have G:BD q r base l=(g.1,g.2,true):=by unfold BD;rw [B]
 refine Ay<|Zt<|Zt<|AR<|Zx<|A0<|Zo Wh (AA (cs:=#[_,_,_]) C6 B2 Y B1 As)<|Zm Y<|Xe (Xw B2 _)<|Za Y<|A4 Y<|AJ<|I8 rfl results70 Y Wh (Am C6 B2 Wn (rfl)) Y Y (by exact ⟨.slice gk _ ck,sk,by rw [G];rfl,by rw [G];exact Z,rfl⟩)
theorem l6(B:BF q)(G:BQ rs)(m:GV rs c)(g:c.ok)(h:(D7 q c (Ci rs q)).2=true):(D7 q c (Ci rs q)).1=Ci (EN rs c) q:=by
 unfold D7 at h⊢;cases ht:Dk q c with
 |false=>
  rw [An AW];unfold Dk at ht;rw [DE g,Vc]at ht;exact (vG B m ht).symm
 |true=>
  rw [ht,Ax rfl]at h;rw [Ax rfl];unfold Dk at ht;rw [Ft]at ht;split at h
  · rename_i h9
    rw [Ax h9];exact fO B G m ht.2 h9
  · cases h
theorem VU{q:QM}(G:BF q){rs:List AX}{cs:List Chg}(I:BQ rs)(m:zN cs)(B:∀c∈cs,GV rs c)(g:∀c∈cs,c.ok):∀i,i<=cs.length->∀r,Hu q (Ci rs q) (cs.take i)=some r->r=Ci (DU rs (cs.take i)) q
 |0,_,r,h=>by
  rw [Kd]at h⊢;injection h with h
  exact h.symm
 |i+1,hi,r,h=>by
  obtain ⟨c,hc⟩:∃c,cs[i]?=some c:=⟨_,B7 A1⟩;obtain ⟨J,h2⟩:=KX I m B i A1;cases hr:Hu q (Ci rs q) (cs.take i)with
  |none=>
   have:=QC (cs:=cs.take (i+1)) (k:=i) (q:=q) (r:=Ci rs q) (by rw [V2,RT A1];exact hr);rw [this]at h;cases h
  |some rk=>
   have e:=VU G I m B g i A1 rk hr;rw [KG hr hc,e]at h;split at h
   · rename_i h9
     injection h with h
     rw [<-h,EQ rs cs i c hc];exact l6 G J (h2 i c (D2 _) hc) (g c (Dg hc)) h9
   · cases h
theorem qf(g:BF q){p rp:Int}{cs:List Chg}(B:BQ rs)(h:Kh rs p rp cs){r:CB}(m:Hu q (Ci rs q) cs=some r):r=Ci (DU rs cs) q:=by
 have:=VU g B (UV h.ok.ord) h.fit (fun c hc=>by obtain ⟨i,hi⟩:=HE hc;exact h.ok.all i c hi) cs.length (D2 _) r (by rw [GS];exact m);rwa [GS]at this
def SA(q:QM)(x:BP):Bool:=x.cs.any (Dk q)
structure wP(q:QM)(l:List BP)(base k:Nat)(s:Int):Prop where
 le:(base:Int)<=s/\s<=((base+k:Nat):Int)
 at_:s≠(base:Int)->∃(j:Nat) (x:BP),(j:Int)+1=s/\l[j]?=some x/\SA q x=true
 no:∀(j:Nat) (x:BP),s<=(j:Int)->j<base+k->l[j]?=some x->SA q x=false
theorem QB{q:QM}(U:BF q){l:List BP}(G:FC l){base:Nat}(hb:base<=l.length):∀k,base+k<=l.length->∀st,GK q (base:Int) 0 (Ci (Bb (l.take base)) q,(base:Int)) ((l.drop base).take k)=some st->st.1=Ci (Bb (l.take (base+k))) q/\wP q l base k st.2
 |0,_,st,h=>by
  rw [Kd]at h;injection h with h
  subst h;exact ⟨V,⟨by simp only;omega,fun h=>absurd V h,fun j x m h2=>by simp only at m;omega⟩⟩
 |k+1,hk,st,h=>by
  obtain ⟨x,hx⟩:∃x,l[base+k]?=some x:=⟨_,B7 A1⟩;have I:(l.drop base)[k]?=some x:=by rw [Q2];exact hx
  obtain ⟨O,_⟩:=G _ x hx;have hp:x.p=((base+k:Nat):Int)+1:=O.pos
  cases hr:GK q (base:Int) 0 (Ci (Bb (l.take base)) q,(base:Int)) ((l.drop base).take k)with
  |none=>
   have:=Mi (l:=(l.drop base).take (k+1)) (k:=k) (q:=q) (base:=(base:Int)) (st:=(Ci (Bb (l.take base)) q,(base:Int))) (by rw [V2,RT A1];exact hr);rw [this]at h;cases h
  |some sk=>
   obtain ⟨e1,e2⟩:=QB U G hb k A1 sk hr;rw [JD hr I]at h;split at h
   · rename_i h9
     injection h with h
     subst h;have B:=Me h9.1
     have m:=(G.rows (base+k) A1).1;rw [e1]at B;refine ⟨?_,?_⟩
     · have:=qf U m O B.1
       rw [show base+(k+1)=base+k+1 by omega,Bn hx,Gn,<-this,e1]
     · have hT:(Ba q sk.1 x.cs).2.1=SA q x:=by rw [e1];exact B.2
       simp only [hT];obtain ⟨⟨a1,W⟩,X,Z⟩:=e2;cases ht:SA q x with
       |true=>
        simp only [Hj];refine ⟨by omega,fun _=>⟨base+k,x,hp.symm,hx,ht⟩,fun j y J h6=>by omega⟩
       |false=>
        simp only [Mn,HO];refine ⟨by push_cast at W⊢;omega,X,fun j y J h6 g=>?_⟩;rcases E4 j (base+k)with h8|h8
        · exact Z j y J h8 g
        · obtain rfl:j=base+k:=by omega
          rw [hx]at g;injection g with g
          rw [<-g];exact ht
   · cases h
theorem ZJ(g:1<=q.kd/\q.kd<=4)(c:Chg)(r:CB):(D7 q c r).2=true:=by
 have:(Bv q c r).2=true:=by
  unfold Bv;split;· rfl
  · split
    · rfl
    · rw [Ax A1]
 unfold D7;rw [Ax this];split<;>rfl
theorem Sg{q:QM}(g:1<=q.kd/\q.kd<=4):∀(cs:List Chg) (r:CB),∃m,Hu q r cs=some m
 |[],r=>⟨r,rfl⟩
 |c::cs,r=>by
  unfold Hu;rw [Ax (ZJ g c r)];exact Sg g cs _
abbrev Bs:=List UInt8
def aD(s:Bs):Bs:=sha (0::s)
def JM(a b:Bs):Bs:=sha (1::(a++b))
def Dc(n:Nat):Nat:=2^Nat.log2 (n -1)
theorem PS(n:Nat):0<Dc n:=eJ _
variable{n:Nat}
theorem PT(h:2<=n):Dc n<n:=by
 have:=Nat.log2_self_le (n:=n -1) A1;unfold Dc;omega
theorem yD{e:Nat}(g:2^e<n)(h2:n<=2^(e+1)):Dc n=2^e:=by
 unfold Dc;congr 1;refine (Nat.log2_eq_iff (by have:=eJ e;omega)).2 ⟨by omega,by omega⟩
def Dm(l:List Bs):Bs:=
 if h:2<=l.length then JM (Dm (l.take (Dc l.length))) (Dm (l.drop (Dc l.length)))
 else match l with
  |[]=>sha []
  |x::_=>aD x
termination_by l.length
decreasing_by
 · have:=PT h;rw [CC];omega
 · have:=PS l.length;rw [CD];omega
theorem rE:Dm []=sha []:=by rw [Dm];rfl
theorem rD(x:Bs):Dm [x]=aD x:=by rw [Dm];rfl
variable{l:List Bs}
theorem lV(h:2<=l.length):Dm l=JM (Dm (l.take (Dc l.length))) (Dm (l.drop (Dc l.length))):=by
 rw [Dm,dif_pos h]
theorem VZ{a b:List Bs}{e:Nat}(g:a.length=2^e)(h0:0<b.length)(B:b.length<=2^e):Dm (a++b)=JM (Dm a) (Dm b):=by
 have G:=eJ e;have m:Dc (a++b).length=a.length:=by
  rw [g];exact yD (by rw [BW];omega) (by rw [BW,fm];omega)
 rw [lV (by rw [BW];omega),m,Hb,Wc];· rfl
 · rfl
structure JX(ps:List (List Bs)):Prop where
 pow:∀p∈ps,∃e,p.length=2^e
 lt:ps.Pairwise (fun a b=>b.length<a.length)
theorem wB:JX []:=⟨by simp,.nil⟩
theorem rY{a b:Nat}(h:2^a<2^b):2*2^a<=2^b:=by
 have:=(Nat.pow_lt_pow_iff_right (a:=2) A1).1 h
 calc 2*2^a=2^(a+1):=by rw [fm];omega
  _<=2^b:=Nat.pow_le_pow_right A1 this
variable{p:List Bs}{ps:List (List Bs)}
theorem JX.tail(h:JX (p::ps)):JX ps:=⟨fun q g=>h.pow q (by simp [g]),(RE.1 h.lt).2⟩
theorem JX.init(h:JX (ps++[p])):JX ps:=⟨fun q g=>h.pow q (by simp [g]),(Pr.1 h.lt).1⟩
theorem JX.sum:∀{ps:List (List Bs)} {e:Nat},JX ps->(∀p∈ps,p.length<2^e)->ps.flatten.length<2^e
 |[],e,_,_=>by simpa using eJ e
 |p::ps,e,h,hl=>by
  obtain ⟨e1,g⟩:=h.pow p B4;have h2:=hl p B4
  rw [g]at h2;have B:=rY h2
  have G:=JX.sum (e:=e1) h.tail (fun q m=>by rw [<-g];exact (RE.1 h.lt).1 q m);rw [CA,BW,g];omega
theorem JX.nonempty(h:JX ps)(hn:ps≠[]):0<ps.flatten.length:=by
 cases ps with
 |nil=>exact absurd rfl hn
 |cons p ps=>
  obtain ⟨e,g⟩:=h.pow p B4;have:=eJ e
  rw [CA,BW];omega
theorem JX.root:∀{ps:List (List Bs)} {q:List Bs},JX (ps++[q])->ps.foldr (fun p o=>JM (Dm p) o) (Dm q)=Dm (ps.flatten++q)
 |[],q,_=>by simp
 |p::ps,q,h=>by
  rw [List.foldr_cons,JX.root (ps:=ps) (q:=q) h.tail,CA,D3];obtain ⟨e,m⟩:=h.pow p B4;have G:(ps++[q]).flatten=ps.flatten++q:=by simp
  have B:JX (ps++[q]):=h.tail;have g:0<(ps++[q]).flatten.length:=JX.nonempty B B4
  have h2:=JX.sum (e:=e) B (fun r I=>by rw [<-m];exact (RE.1 h.lt).1 r I);rw [G]at g h2;exact (VZ m g A1).symm
structure OM(ls:List Bs)(ps:List (List Bs))(q:List Bs)(i:Nat):Prop where
 bin:JX ps
 pow:∃e,q.length=2^e
 le:∀p∈ps,q.length<=p.length
 flat:ps.flatten++q=ls.take i
variable{ls:List Bs}{i:Nat}
theorem nA{s:Bs}(h:JX ps)(m:ps.flatten=ls.take i)(G:ls[i]?=some s):OM ls ps [s] (i+1):=
 ⟨h,⟨0,rfl⟩,fun p B=>by
   obtain ⟨e,g⟩:=h.pow p B;have:=eJ e
   rw [g];simp;omega,by rw [RK,G,m];rfl⟩
theorem OM.step{q:List Bs}(h:OM ls (ps++[p]) q i)(e:p.length=q.length):OM ls ps (p++q) i/\Dm (p++q)=JM (Dm p) (Dm q):=by
 obtain ⟨e1,g⟩:=h.pow;have I:=eJ e1
 refine ⟨⟨h.bin.init,⟨e1+1,by rw [BW,e,g,fm];omega⟩,?_,?_⟩,VZ (e.trans g) A1 A1⟩
 · intro r B
   obtain ⟨e2,h2⟩:=h.bin.pow r (by simp [B]);have m:=(Pr.1 h.bin.lt).2.2 r B p B4
   rw [e,g,h2]at m;have G:=rY m
   rw [BW,e,g,h2];omega
 · rw [<-h.flat];simp
theorem OM.done{q:List Bs}(h:OM ls ps q i)(I:∀m p,ps=m++[p]->p.length≠q.length):JX (ps++[q])/\(ps++[q]).flatten=ls.take i:=by
 refine ⟨⟨?_,?_⟩,by rw [<-h.flat];simp⟩
 · intro r B
   rcases Bm.1 B with B|B
   · exact h.bin.pow r B
   · rw [C1]at B
     subst B;exact h.pow
 · rw [Pr]
   refine ⟨h.bin.lt,List.pairwise_singleton _ _,?_⟩;intro a g b J;rw [C1]at J;subst J;rcases j7 ps with rfl|⟨m,p,rfl⟩
   · simp at g
   · have O:=I m p B4
     have h2:=h.le p B4;have G:=h.bin.lt
     simp only [oy]at g G;rw [Pr]at G;rcases Bm.1 g with g|g
     · have:=G.2.2 a g p B4
       omega
     · rw [C1]at g
       subst g;omega
variable{cur:AH}{xs:List A3}
theorem xL(h:cur.toList.take xs.length=xs){x:A3}(hx:xs[i]?=some x):cur[i]?=some x:=by
 have g:=(C4.1 hx).1;rw [<-h,HJ,Ax g,HR]at hx;exact hx
theorem um(ps:List (List Bs))(o:Bs):(ps.map Dm).reverse.foldl (fun o r=>JM r o) o=ps.foldr (fun p o=>JM (Dm p) o) o:=by
 rw [List.foldl_reverse,List.foldr_map]
def EL(M:List A9)(v:A3)(ls:List Bs):Prop:=∃p cap,v= .slice p ls.length cap/\(ls.length<=maxLen/\ls.length<=cap)/\∀(i:Nat) (s:Bs),ls[i]?=some s->∃g off cur T zz,p=some ⟨g,off,none⟩/\(g,Obj.cells cur T zz)∈M/\cur[off+i]?=some (GJ s)
def rtV(p:List Bs):A3:=GJ (Dm p)
def lnV(p:List Bs):A3:=I4 ((p.length:Nat):Int)
variable{e:AK}{s:List A9}
theorem QE{sz:Nat}{b:B6}{c:Nat}(h:Bd sz e (.slice b n c) n xs s)(k:Nat)(B:k<=n):Bd sz e (.slice b k c) k (xs.take (k*sz)) s:=by
 obtain ⟨G,h⟩:=h;refine ⟨by rw [CC,G,RT (US _ B)],?_⟩;rcases h with⟨m,rfl,rfl⟩|⟨g,cap',cur,z,m,rfl,h2,h3,h4,h5,h6⟩
 · injection m with e1 e2 e3
   subst e1 e3;obtain rfl:k=0:=by omega
   exact .inl ⟨V,V,V⟩
 · injection m with e1 e2 e3
   subst e1 e3;refine .inr ⟨g,c,cur,z,V,V,by omega,h3,h4,?_,h6⟩;rw [<-h5,V2,RT (US _ B)]
variable{v:A3}
theorem Ls(h:Bd 1 e v n xs s)(h0:0<n):∃g cap cur z,v=I6 g n cap/\s=[(g,.cells cur e z)]/\n<=cap/\∀(i:Nat) (x:A3),xs[i]?=some x->cur[i]?=some x:=by
 obtain ⟨I,⟨_,B,_⟩|⟨g,m,cur,z,B,rfl,h2,J,O,G,U⟩⟩:=h;· omega
 · rw [<-I]at G
   exact ⟨g,m,cur,z,B,V,h2,fun i x hx=>xL G hx⟩
variable{M:List A9}
theorem EL.mono{m:List A9}(h:EL M v ls)(J:∀c∈M,c∈m):EL m v ls:=by
 obtain ⟨p,cap,e,I,G⟩:=h;refine ⟨p,cap,e,I,fun i s O=>?_⟩;obtain ⟨g,off,cur,T,zz,e1,B,h2⟩:=G i s O;exact ⟨g,off,cur,T,zz,e1,J _ B,h2⟩
theorem Gj(h:Bd 1 e v ls.length (ls.map GJ) s)(hn:ls.length<=maxLen):EL s v ls:=by
 rcases RC ls.length with h0|h0
 · obtain ⟨b,cap,rfl⟩:=h.form
   exact ⟨b,cap,rfl,⟨hn,by omega⟩,fun i s m=>by rw [MT h0]at m;simp at m⟩
 · obtain ⟨g,cap,cur,z,rfl,rfl,B,G⟩:=Ls h h0
   refine ⟨_,cap,V,⟨hn,B⟩,fun i s m=>⟨g,0,cur,e,z,V,by simp,?_⟩⟩;rw [DM];exact G i _ (by rw [E0,m];rfl)
theorem Lx(l:List Bs):(Dm l).length=32:=by
 rw [Dm];split;· exact XD _
 · split<;>exact XD _
theorem nL(s:Bs)(I:s.length<=140737488354000)(g:AK)(G:Nat×Nat):BB prog 245 #[.string (str s)] [[(2,.cells (Er.map Ct).toArray g G)]] (.string (str (aD s))):=by
 refine Se func245 ntmps245 [0] ?_;intro u R;refine A0<|A4 Y<|A0<|Zc [_] Y call275 Y V (R9 (str [0])) ?_;rintro _ _ ⟨_,⟨B,rfl,rfl⟩,rfl⟩;refine Zm Y<|Ze (Ai (vs:=[_]) (cs:=[_]) DA Fo Hs Y V rfl V rfl V)<|AG fun m=>Xr [_] Y call311 Y V (MO m 0 1 B #[GJ s] _ _ _ _ [s] [0] V B4 B4 I2 _ _)<|A4 Y<|AJ<|AO V results245 Y (by exact ⟨by simp [aD],V⟩)
theorem Vy(a b:Bs)(I:a.length<=1000000000)(J:b.length<=1000000000)(g:AK)(G:Nat×Nat):BB prog 246 #[.string (str a),.string (str b)] [[(2,.cells (Er.map Ct).toArray g G)]] (.string (str (JM a b))):=by
 refine Se func246 ntmps246 [0,1] ?_;intro u R;refine A0<|A4 Y<|A0<|Zc [_] Y call275 Y V (R9 (str [1])) ?_;rintro _ _ ⟨_,⟨B,rfl,rfl⟩,rfl⟩;refine Zm Y<|Zm Y<|Ze (Ai (vs:=[_,_]) (cs:=[_,_]) DA Fo Hs Y V rfl V rfl V)<|AG fun m=>Xr [_] Y call311 Y V (MO m 0 2 B #[GJ a,GJ b] _ _ _ _ [a,b] [1] V B4 B4 I2 _ _)<|A4 Y<|AJ<|AO V results246 Y (by exact ⟨by simp [JM],V⟩)
def bwd{α:Type} [Inhabited α](ls:List α):List (Nat×α):=(List.range ls.length).reverse.map (fun i=>(i,ls.getD i default))
theorem Y6 [Inhabited α](ls:List α):(bwd ls).length=ls.length:=by simp [bwd]
theorem j4 [Inhabited α]{ls:List α}{m:Nat}{s:α}(h:ls[m]?=some s):(bwd ls)[ls.length -(m+1)]?=some (m,s):=by
 have g:=(C4.1 h).1;unfold bwd;rw [E0,List.getElem?_reverse I2,cU,aq A1];rw [show ls.length -1 -(ls.length -(m+1))=m by omega];simp [List.getD,h]
theorem NF [Inhabited α](ls:List α):(bwd ls).map Prod.snd=ls.reverse:=by
 apply Mu;intro i;by_cases hi:i<ls.length
 · have g:ls[ls.length -1 -i]?=some (ls[ls.length -1 -i]'A1):=B7 _
   have h2:=j4 g;rw [show ls.length -(ls.length -1 -i+1)=i by omega]at h2;rw [E0,h2,List.getElem?_reverse hi,g];rfl
 · rw [MY (by rw [B8,Y6];omega),MY I2]
theorem z8 [Inhabited α]{ls:List α}{x:Nat×α}(h:x∈bwd ls):x.2∈ls:=by
 have g:x.2∈(bwd ls).map Prod.snd:=C3.2 ⟨x,h,rfl⟩;rw [NF,cW]at g;exact g
theorem Od{xs:List α}{j:Nat}{x:α}(h:xs[j]?=some x):xs=xs.take j++x::xs.drop (j+1):=by
 have g:=(C4.1 h).1;rw [B7 g]at h;injection h with h
 rw [<-h,<-S8 g,K1]
theorem uq(xs:List Bs)(q:Bs):(bwd xs).foldl (fun o (x:Nat×Bs)=>JM x.2 o) q=xs.reverse.foldl (fun o r=>JM r o) q:=by
 rw [<-NF,List.foldl_map]
theorem X8(f:List α->A3)(ps:List (List α))(p q:List α):(((ps++[p])++[q]).map f)[(ps++[p]).length+1 -2]?=some (f p)/\(((ps++[p])++[q]).map f)[(ps++[p]).length+1 -1]?=some (f q):=by
 have e:(ps++[p]).length=ps.length+1:=by simp
 constructor;· rw [show(ps++[p]).length+1 -2=ps.length by omega];simp
 · rw [show(ps++[p]).length+1 -1=ps.length+1 by omega];simp
theorem YS(f:List α->A3)(ps:List (List α))(p q:List α):(((ps++[p])++[q]).map f).take (((ps++[p]).length+1 -2)*1)=ps.map f:=by
 rw [show((ps++[p]).length+1 -2)*1=(ps.map f).length by simp];simp
theorem yG(f:List α->A3)(ps:List (List α))(q:List α):((ps++[q]).map f)[(ps++[q]).length -1]?=some (f q):=by
 rw [show(ps++[q]).length -1=ps.length by simp];simp
theorem nN(f:List α->A3)(ps:List (List α))(q:List α):((ps++[q]).map f).take (((ps++[q]).length -1)*1)=ps.map f:=by
 rw [show((ps++[q]).length -1)*1=(ps.map f).length by simp];simp
theorem jv{ps:List α}(h:0<ps.length):∃g p,ps=g++[p]:=by
 rcases j7 ps with rfl|⟨a,b,e⟩
 · simp at h
 · exact ⟨a,b,by rw [e,oy]⟩
theorem uo(xs:List (Nat×Bs))(q:Bs)(g:q.length=32):(xs.foldl (fun o (x:Nat×Bs)=>JM x.2 o) q).length=32:=by
 rcases j7 xs with rfl|⟨ys,y,rfl⟩
 · exact g
 · rw [oy,Wa];exact XD _
theorem V7(p:B6)(n c:Nat):BZ prog 248 #[.slice p n c] [] (fun r H'=>∃b,r= .func (.func 279) #[] #[I5 b]/\H'=[[(b,.cells #[.slice p n c] 45 (0,0))]]):=by
 refine Se func248 ntmps248 [0] ?_;intro u R;refine A0<|Ze (Bx #[_])<|AG fun b=>A4 Y<|A0<|Zv (Bh (vs:=[]) (us:=[_]) Y Y)<|A4 Y<|AJ<|AO V results248 Y (by exact ⟨_,V,V⟩)
theorem V9(hv:EL M v ls)(b:Nat)(hn:ls.length<=1000000000000):
 FD prog 279 #[I5 b] [[(b,.cells #[v] 45 (0,0))]] (fun s=>∀c∈M,c∈s) (fun x=>#[I4 ((x.1:Nat):Int),GJ x.2]) (bwd ls):=by
 have ax:=mL;obtain ⟨p,cap,rfl,hl,hg⟩:=hv;intro l J hA hy s B;refine Se func279 ntmps279 [0,1] ?_;intro u R;refine A0<|Zl I3 Y ?_;refine Zv (AY DA Y) ?_
 (refine BV (GN Y Y (IntWalk.i64_in _ ?_)) ?_;(focus (omega)))
 refine A4 Y<|AQ<|Zb [3,0,1] ?_;refine BA (e0:=[(3,_)]) (fun m e H=>∃(k:Nat) (s:List A9),m=0+k/\(k<=ls.length/\J ((bwd ls).take (ls.length -k)) s)/\e=[(3,I4 ((k:Int) -1))]/\H=[[(b,.cells #[.slice p ls.length cap] 45 (0,0))],s]) (by exact ⟨ls.length,s,rfl,⟨D2 _,by rw [Wf,Kd];exact B⟩,rfl,rfl⟩) Wp ?_;rintro _ _ _ ⟨k,s,rfl,⟨hk,B⟩,rfl,rfl⟩;refine Zq<|A0<|Zm Y<|Zv (He Y Y)<|A5<|Aq Y (fun Z=>?_) (fun Z=>?_);·
  obtain ⟨m,rfl⟩:∃m,k=m+1:=⟨k -1,by omega⟩;rw [show(((m+1:Nat):Int) -1)=((m:Nat):Int) by omega];obtain ⟨z9,U⟩:∃z9,ls[m]?=some z9:=⟨_,B7 A1⟩;have G:=j4 U
  obtain ⟨g,o,cur,T,zz,rfl,hm,I⟩:=hg m z9 U;have O:=I
  have af:=hy _ _ _ s (Od G) B;refine AC<|Zx<|Zq<|AQ<|A0<|Zm Y<|Zm Y<|Zl I3 Y ?_;refine Zm Y<|BV (CF DA Fo Y Y A1)<|CG (cs:=[(g,.cells cur T zz)]) (by simp [hA _ s B _ hm]) (BO HK Y O) V rfl ?_;refine Ze (Ga (vs:=[_,_]) Y Y (af) Wp) ?_;rintro _ _ ⟨_,⟨s',rfl,rfl,W⟩,rfl⟩;refine Zv (Br Y)<|A5<|AU Y (fun hb=>by cases hb)<|fun hb=>AC<|A8<|Zx<|Zg<|Zm Y ?_
  (refine BV (GN Y Y (IntWalk.i64_in _ ?_)) ?_;(focus (omega)))
  refine AN Y<|Zn [3,0,1] ?_;refine Ab (e':=[(3,_)]) (by exact ⟨m,s',rfl,⟨by omega,by rw [show ls.length -m=ls.length -(m+1)+1 by omega,Bn G];exact W⟩,rfl,rfl⟩)
 have X:k=0:=by omega
 subst X;rw [SU,J0 (by rw [Y6];exact D2 _)]at B;refine Ay<|Zt<|Zt<|AR<|Cw V results279 (by exact ⟨s,V,B⟩)
theorem QG(hv:EL M v ls)(hn:ls.length<=1000000)(hs:∀s∈ls,s.length<=140737488354000)(Tg:AK)(zg:Nat×Nat):BB prog 195 #[v] [[(2,.cells (Er.map Ct).toArray Tg zg)],M] (.string (str (Dm ls))):=by
 have vo:=mL;obtain ⟨p,cap,rfl,hl,hg⟩:=hv;refine DT func195 V ntmps195 V ?_;intro u R;refine Zb [0] ?_;refine A0<|A4 Y<|A0<|A4 Y<|A0<|A4 Y<|Zq<|A0<|Zm Y<|Zv (AY DA Y)<|Zm Y<|A5<|AQ<|BX<|BX<|Zb [3,4,13,11,12] ?_;refine BA (e0:=[(3,_),(4,_),(13,_)]) (fun m e H=>∃(i:Nat) (ps:List (List Bs)) (vw:A3) (sw:List A9) (vz:A3) (sz:List A9),m=ls.length -i/\(i<=ls.length/\JX ps/\ps.flatten=ls.take i/\Bd 1 9 vw ps.length (ps.map rtV) sw/\Bd 1 3 vz ps.length (ps.map lnV) sz/\ps.length<=i)/\e=[(3,vw),(4,vz),(13,I4 (i:Int))]/\H=[sw,sz]) (by exact ⟨0,[],.slice none 0 0,[],.slice none 0 0,[],V,⟨C5 _,wB,V,Bf 1 _,Bf 1 _,D2 _⟩,V,V⟩) Wp ?_;rintro _ _ _ ⟨i,ps,vw,sw,vz,sz,rfl,⟨hi,hB,hf,J,Z,q9⟩,rfl,rfl⟩;refine A0<|Zv (Au Y Y)<|A5<|Zq<|Aq Y (fun j5=>?_) (fun j5=>?_);·
  obtain ⟨s9,d9⟩:∃s9,ls[i]?=some s9:=⟨_,B7 j5⟩;obtain ⟨g,o,cur,T,zz,rfl,pz,j3⟩:=hg i s9 d9;obtain ⟨qw,cw,rfl⟩:=J.form;obtain ⟨qz,cz,rfl⟩:=Z.form;have l5:=hs s9 (Dg d9)
  refine AC<|Zx<|Zq<|AQ<|A0<|BV (CF DA Fo Y Y A1)<|CG (cs:=[(g,.cells cur T zz)]) (by simp [pz]) (BO HK Y j3) V rfl ?_;refine A4 Y<|A0<|Zm Y<|Zm Y<|Xr [_] Y call245 Y V (nL s9 l5 Tg zg) ?_;refine Ze (Ai (vs:=[_]) (cs:=[_]) DA Fo Hs Y V rfl V rfl V)<|AG fun b1=>Ze (E8 (by_:=16) (sz:=1) (news:=[_]) DA (V:Tryz.prog.info? 9=some Tryz.t9) V rfl V rfl Y J Y Wo Wh As V GP AW A1 A1) ?_;rintro _ _ ⟨sw,J,rfl⟩;obtain ⟨gw,cw,rfl⟩:=J.form;refine Zm Y<|Ze (Ai (vs:=[_]) (cs:=[_]) DH A6 HG Y V rfl V rfl V)<|AG fun b3=>Ze (E8 (by_:=8) (sz:=1) (news:=[_]) DH (V:Tryz.prog.info? 3=some Tryz.t3) V rfl V rfl Y Z Y Wo Wh As V GP AW A1 A1) ?_;rintro _ _ ⟨sz,Z,rfl⟩;obtain ⟨gz,cz,rfl⟩:=Z.form;refine Za Y<|AN Y<|Zn [3,4,11,12,13] ?_;refine Zx<|A0<|Zm Y<|Zv (AY DH Y)<|A4 Y<|AQ<|Zb [3,4,7,11,12,13] ?_;refine BA (e0:=[(3,_),(4,_),(7,_)]) (fun m e H=>∃(G:List (List Bs)) (q:List Bs) (gy:A3) (gm:List A9) (ic:A3) (gq:List A9),m=0+G.length/\(OM ls G q (i+1)/\Bd 1 9 gy (G.length+1) ((G++[q]).map rtV) gm/\Bd 1 3 ic (G.length+1) ((G++[q]).map lnV) gq/\G.length<=i)/\e=[(3,gy),(4,ic),(7,I4 ((G.length+1:Nat):Int))]/\H=[gm,gq]) (by exact ⟨ps,[s9],_,_,_,_,rfl,⟨nA hB hf d9,BS J rfl (by rw [C2,Mp];unfold rtV;rw [rD];rfl),BS Z rfl (by rw [C2];rfl),q9⟩,rfl,rfl⟩) Wp ?_;rintro _ _ _ ⟨G,q,gy,gm,ic,gq,rfl,⟨hM,U,W,w9⟩,rfl,rfl⟩;refine Zq<|Zq<|Az (n:=15) (0::1::3::7::7::23::63::127::7::7::519::1799::3847::8191::16383::[]) 0 AE AE V<|A2 0 V (AP Y)<|A2 1 V (DK (n:=1) Y Y)<|A2 2 V (AP Y)<|D8 (t:=29) Y (fun cO=>?_) (fun cO=>?_);·
   rw [DE cO];obtain ⟨B,p9,rfl⟩:=jv (ps:=G) A1;have wh:(B++[p9]).length=B.length+1:=by simp
   obtain ⟨cu,p8,X,o8,rfl,rfl,kv,O⟩:=Ls (id U) A1;obtain ⟨sO,sj,o9,x9,rfl,rfl,qo,af⟩:=Ls (id W) A1;have ql:=af _ _ (X8 lnV B p9 q).1
   have l9:=af _ _ (X8 lnV B p9 q).2;have ek:=O _ _ (X8 rtV B p9 q).1
   have qb:=O _ _ (X8 rtV B p9 q).2;have qa:q.length<=ls.length:=by have h9:=congrArg List.length hM.flat;rw [BW,CC]at h9;omega
   refine B3 3 V (AP Y)<|B3 4 V (AP Y) ?_
   (refine B3 5 rfl (CQ (n:=2) Y Y ?_ ?_) ?_;(focus (omega));(focus (omega)))
   refine B3 6 V (BU DH A6 Y Y A1)<|DQ 7 V Wh (BO AF Y ql) ?_;refine B3 8 V (AP Y)<|B3 9 V (AP Y) ?_
   (refine B3 10 rfl (CQ (n:=1) Y Y ?_ ?_) ?_;(focus (omega));(focus (omega)))
   refine B3 11 V (BU DH A6 Y Y A1)<|DQ 12 V Wh (BO AF Y l9) ?_;refine B3 13 V (CR Y Y)<|A2 14 V (AV Y Y)<|Ag<|Zn [3,4,7,11,12,13,41] ?_;refine Zx<|Aq Y (fun he=>?_) (fun he=>?_);·
    have l8:=hM.step he;refine AC<|Zx<|Zq<|AQ<|Zq<|Az (n:=18) (0::0::2::7::0::0::32::112::240::0::0::1024::3584::7680::16368::32752::65535::131071::[]) 114688 AE AE V<|A2 0 V (AP Y)<|A2 1 V (AP Y) ?_
    (refine Dr (D':=7) 2 (CQ (n:=2) Y Y ?_ ?_) ?_;(focus (omega));(focus (omega)))
    refine A2 3 V (Bu DA Fo Y Y A1)<|A2 4 V (AP Y)<|A2 5 V (AP Y) ?_
    (refine Dr (D':=127) 6 (CQ (n:=2) Y Y ?_ ?_) ?_;(focus (omega));(focus (omega)))
    refine A2 7 rfl (BU DA Fo Y Y (by first|omega|(simp;omega)))<|B9 8 rfl HK Y (hv:=by exact ek) ?_;refine A2 9 V (AP Y)<|A2 10 V (AP Y) ?_
    (refine Dr (D':=4095) 11 (CQ (n:=1) Y Y ?_ ?_) ?_;(focus (omega));(focus (omega)))
    refine A2 12 rfl (BU DA Fo Y Y (by first|omega|(simp;omega)))<|B9 13 rfl HK Y (hv:=by exact qb) ?_;refine Yw 14 32767 rfl (Zu [_,_] Y call246 Y rfl (Vy (Dm p9) (Dm q) (by rw [Lx];omega) (by rw [Lx];omega) Tg zg))<|D4<|Yw 15 65535 V (Ai (vs:=[_]) (cs:=[_]) DA Fo Hs Y V rfl V rfl V)<|AG fun b5=>Yw 16 131071 V (E8 (by_:=16) (sz:=1) (news:=[_]) DA (V:Tryz.prog.info? 9=some Tryz.t9) V rfl V rfl Y (QE U ((B++[p9]).length+1 -2) A1) Y Wo Wh As V GP AW A1 A1) ?_;rintro _ _ ⟨wo,ax,rfl⟩;obtain ⟨sM,r9,rfl⟩:=ax.form;refine A2 17 V (Aw Y)<|Ag<|Zn [3,4,7,11,12,13] ?_;refine Zx<|Az (n:=13) (0::0::2::7::0::0::32::112::240::496::1008::2047::4095::[]) 3072 AE AE V<|A2 0 V (AP Y)<|A2 1 V (AP Y) ?_
    (refine Dr (D':=7) 2 (CQ (n:=2) Y Y ?_ ?_) ?_;(focus (first|omega|(simp;omega)));(focus (first|omega|(simp;omega))))
    refine A2 3 V (Bu DH A6 Y Y A1)<|A2 4 V (AP Y)<|A2 5 V (AP Y) ?_
    (refine Dr (D':=127) 6 (CQ (n:=1) Y Y ?_ ?_) ?_;(focus (first|omega|(simp;omega)));(focus (first|omega|(simp;omega))))
    refine A2 7 rfl (BU DH A6 Y Y (by first|omega|(simp;omega)))<|B9 8 rfl AF Y (hv:=by exact l9) ?_;refine A2 9 rfl (F6 (m:=2) Y Y (by first|omega|(simp;omega)))<|Yw 10 2047 rfl (Ai (vs:=[_]) (cs:=[_]) DH A6 HG Y rfl rfl rfl rfl rfl)<|AG fun b7=>Yw 11 4095 V (E8 (by_:=8) (sz:=1) (news:=[_]) DH (V:Tryz.prog.info? 3=some Tryz.t3) V rfl V rfl Y (QE W ((B++[p9]).length+1 -2) A1) Y Wo Wh As V GP AW A1 A1) ?_;rintro _ _ ⟨wz,bn,rfl⟩;obtain ⟨ve,sJ,rfl⟩:=bn.form;refine A2 12 V (Aw Y)<|Ag<|Zn [3,4,7,11,12,13] ?_;refine A8<|Zx<|Zg<|Zm Y<|Yb (n:=1) Y Y<|AN Y<|Zn [3,4,7,11,12,13] ?_;refine Ab (e':=[(3,_),(4,_),(7,_)]) (by exact ⟨B,p9++q,_,_,_,_,rfl,⟨l8.1,BS ax A1 (by rw [YS,C2,Mp];unfold rtV;rw [l8.2];rfl),BS bn A1 (by rw [YS,C2,Mp];unfold lnV;rw [BW,he,<-Nat.two_mul]),by omega⟩,(by rw [show(B++[p9]).length+1 -1=B.length+1 by omega]),rfl⟩)
   have hD:=hM.done (fun a b e9=>by have e8:=List.singleton_inj.1 (jx e9 rfl).2;rw [<-e8];exact he);refine Ay<|Zt<|Zt<|AR<|A8<|Zx<|Zg<|Ya (n:=1) Y Y<|Zm Y<|Z0<|Zn [3,4,13,11,12] ?_;refine Ab (e':=[(3,_),(4,_),(13,_)]) (by exact ⟨i+1,_,_,_,_,_,rfl,⟨by omega,hD.1,hD.2,BS U B4 rfl,BS W B4 rfl,by rw [BW];simp;omega⟩,rfl,rfl⟩)
  rw [Cd cO];have hD:=hM.done (fun a b e9=>by have e8:=congrArg List.length e9;rw [BW]at e8;simp at e8;omega)
  refine AM 3 V<|AM 4 V<|AM 5 V<|AM 6 V<|AM 7 V<|AM 8 V<|AM 9 V<|AM 10 V<|AM 11 V<|AM 12 V<|AM 13 V<|A2 14 V (AL Y Y)<|Ag<|Zn [3,4,7,11,12,13,41] ?_;refine Zx<|D9 Y<|Ay<|Zt<|Zt<|AR<|A8<|Zx<|Zg<|Ya (n:=1) Y Y<|Zm Y<|Z0<|Zn [3,4,13,11,12] ?_;refine Ab (e':=[(3,_),(4,_),(13,_)]) (by exact ⟨i+1,_,_,_,_,_,rfl,⟨by omega,hD.1,hD.2,BS U B4 rfl,BS W B4 rfl,by rw [BW];simp;omega⟩,rfl,rfl⟩)
 have ei:i=ls.length:=by omega
 subst ei;rw [J0 (D2 _)]at hf;obtain ⟨qw,cw,rfl⟩:=J.form;refine Ay<|Zt<|Zt<|AR<|Zx<|Zq<|A0<|Zm Y<|Zv (AY DA Y)<|Zv (CR (n:=0) Y Y)<|A5<|Aq Y (fun h0=>?_) (fun h0=>?_);·
  have e0:=MT h0;subst e0;have e1:ls=[]:=hf.symm
  refine A0<|Xr [_] Y call247 Y V (jU [] B4 Tg zg) ?_;refine A4 Y<|AJ<|Zt<|PM rfl (eZ results195 Y) (by exact ⟨by rw [e1,rE],rfl⟩)
 obtain ⟨B,q,rfl⟩:=jv (ps:=ps) A1;obtain ⟨cu,p8,X,o8,pq,rfl,kv,O⟩:=Ls (id J) A1;injection pq with hev1 hev2 hev3
 subst hev1 hev3;have ek:=O _ _ (yG rtV B q)
 have qa:(B++[q]).length=B.length+1:=by simp
 refine AC<|Zx<|A0<|Zm Y<|Zm Y<|Zv (AY DA Y)<|Yb (n:=1) Y Y ?_;refine BV (BU DA Fo Y Y A1)<|Zl HK Y (hv:=by exact ek) ?_;refine Ze (Al Hs #[_])<|AG fun ob=>Xe (Zs Fo Y Y V (hc:=by exact (V:_=(#[GJ (Dm q)]:AH)))) ?_;refine A5<|Zq<|A0<|Zm Y<|Zm Y<|Zv (AY DA Y)<|Yb (n:=1) Y Y ?_;refine BV (Bu DA Fo Y Y A1)<|Zc [_] Y call248 Y V (V7 _ _ _) ?_;rintro _ _ ⟨_,⟨bb,rfl,rfl⟩,rfl⟩;refine Z0<|Zn [8,89] ?_;refine Zx<|AQ<|Zb [8,89] ?_;refine Pq (H0:=_) (R:=_) (I:=(fun pre H=>H=[[(ob,.cells #[GJ (pre.foldl (fun o (x:Nat×Bs)=>JM x.2 o) (Dm q))] 9 (0,0))],[(cu,.cells X 9 o8)],[(2,.cells (Er.map Ct).toArray Tg zg)]])) (asg:=fun x=>[(10,GJ x.2),(91,GJ x.2),(90,I4 ((x.1:Nat):Int))]) rfl Y call279 (V9 (ls:=B.map Dm) (v:=I6 cu ((B++[q]).length -1) cw) (Gj (BS (QE J ((B++[q]).length -1) A1) B4 (by rw [nN,LN];rfl)) (by rw [B8];omega)) bb (by rw [B8];omega)) (fun pre H1 c d h=>by subst h;intro x hx;simp at hx;simp [hx]) Y rfl Wp (rfl) ?ha_13 ?hbd_13 ?hk_13
 case ha_13=>
  intro _ x _ _;refine Zg<|Za Y<|Z0 ?_;exact tJ
 case hbd_13=>
  intro l pre x qx u H1 R1 qj hI;subst hI;refine AQ<|Zg<|Zm Y<|Zl HK Y ?_;refine Xr [_,_] Y call246 Y rfl (Vy x.2 _ (by obtain ⟨y9,_,e9⟩:=C3.1 (z8 (WA qj));rw [<-e9,Lx];omega) (by rw [uo _ _ (Lx q)];omega) Tg zg) ?_;refine Xe (Zs Fo Y Y V) ?_;refine Z0<|A8<|F7 rfl (by rw [Wa])
 intro D1 H2 pg;subst pg;refine Zn [8] ?_;refine A8<|Zx<|A0<|Zl HK Y ?_;refine A4 Y<|AJ<|GR rfl (eZ results195 Y) Wo (by exact ⟨by rw [uq,um,hB.root,<-hf];simp,rfl⟩)
theorem UO:∀(f x:Nat),0<x->x<2^f->Lib.bitLenAux f x=Nat.log2 x+1
 |0,x,h0,h1=>by simp at h1;omega
 |f+1,x,h0,h1=>by
  unfold Lib.bitLenAux;rw [An A1];rw [fm]at h1;rcases E4 x 2 with h|h
  · have e:x=1:=by omega
    subst e;cases f<;>rfl
  · rw [UO f (x/2) A1 A1]
    conv=>rhs;rw [Nat.log2_def,Ax h]
    omega
theorem nK(n:Nat)(g:2<=n)(h2:n<=1000000000000):Lib.bitLen (n -1)=Nat.log2 (n -1)+1:=UO 64 (n -1) A1 A1
def FJ(l:List Bs)(i:Nat):List Bs:=
 if h:2<=l.length then
  if i<Dc l.length then FJ (l.take (Dc l.length)) i++[Dm (l.drop (Dc l.length))]
  else FJ (l.drop (Dc l.length)) (i -Dc l.length)++[Dm (l.take (Dc l.length))]
 else []
termination_by l.length
decreasing_by
 · have:=PT h;rw [CC];omega
 · have:=PS l.length;rw [CD];omega
theorem Vi(h:l.length<=1)(i:Nat):FJ l i=[]:=by rw [FJ,dif_neg A1]
theorem Qz(h:2<=l.length)(hi:i<Dc l.length):FJ l i=FJ (l.take (Dc l.length)) i++[Dm (l.drop (Dc l.length))]:=by rw [FJ,dif_pos h,Ax hi]
theorem P9(h:2<=l.length)(hi:¬i<Dc l.length):FJ l i=FJ (l.drop (Dc l.length)) (i -Dc l.length)++[Dm (l.take (Dc l.length))]:=by rw [FJ,dif_pos h,An hi]
theorem EL.take{p:B6}{cap:Nat}(h:EL M (.slice p ls.length cap) ls)(n:Nat)(hn:n<=ls.length):EL M (.slice p n cap) (ls.take n):=by
 obtain ⟨I,m,e,G,B⟩:=h;injection e with e1 e2 e3
 subst e1 e3;have g:(ls.take n).length=n:=by rw [CC];omega
 refine ⟨p,cap,by rw [g],by rw [g];omega,fun i z hz=>B i z ?_⟩;rw [HJ]at hz;split at hz;· exact hz
 · cases hz
theorem EL.drop{B g cap:Nat}(h:EL M (.slice (some ⟨B,g,none⟩) ls.length cap) ls)(n:Nat)(hn:n<ls.length):EL M (.slice (some ⟨B,g+n,none⟩) (ls.length -n) (cap -n)) (ls.drop n):=by
 obtain ⟨p',O,e,hl,X⟩:=h;injection e with e1 e2 e3
 subst e1 e3;refine ⟨_,_,by rw [CD],by rw [CD];omega,fun i z hz=>?_⟩;rw [Q2]at hz;obtain ⟨Z,U,m,W,J,e2,I,G⟩:=X (n+i) z hz;injection e2 with e2;injection e2 with e3 e4
 subst e3 e4;exact ⟨B,g+n,m,W,J,rfl,I,by rw [kO];exact G⟩
theorem ny{w:AD}{g:Nat}{z:Nat×Nat}(enc:Bs->A3){zs:List Bs}(I:w.heap[g]?=some (.cells cur e z))(O:zs.length<=cur.size)(B:Ik z cur.size)(U:cur.toList.take zs.length=zs.map enc):Go.Sort.Holds enc w g 0 zs.toArray:=by
 intro j J;have m:j<zs.length:=by simpa using J
 have W:=B j A1;have G:(cur.toList.take zs.length)[j]?=(zs.map enc)[j]?:=by rw [U]
 rw [lx m]at G;refine ⟨?_,?_⟩
 · simp only [World.cell?,I,DM]
   simp only [pH,Mn,HO];rw [<-HR,G];simp [m]
 · simp only [World.frozen?,I,DM]
   simp;omega
theorem XT(enc:Bs->A3)(cur:AH)(g:List Bs)(h:g.length<=cur.size):(Go.Sort.putCells enc 0 g.toArray cur).toList.take g.length=g.map enc:=by
 apply Mu;intro j;rw [HJ];by_cases m:j<g.length
 · rw [Ax m,HR]
   unfold Go.Sort.putCells;rw [ov,HQ A1];simp [m]
 · rw [An m,MY I2]
theorem Sat.sorted_enc{u w:AD}{g:Nat}{z:Nat×Nat}{R:Hp}(enc:Bs->A3)(d:Array Bs)(h:Sat u ([(g,.cells cur e z)]::R) w):Sat u ([(g,.cells (Go.Sort.putCells enc 0 d cur) e z)]::R) (Go.Sort.putRow enc (Go.Sort.ahead w n) g 0 d):=by
 have m:=h.get (g,.cells cur e z) B4;refine h.upd (.here _) V rfl V ?_ fun k B=>?_;· simp [Go.Sort.putRow,Go.Sort.mapBlock,Go.Sort.ahead,T7,m,Go.Sort.onCells]
 · have:g≠k:=fun e=>B e.symm
   simp [Go.Sort.putRow,Go.Sort.mapBlock,Go.Sort.ahead,T7,this]
theorem XL(h:Bd 1 9 v ls.length (ls.map GJ) s)(hn:ls.length<=1000000000000):BZ prog 197 #[v] [s] (fun r H'=>r= .tuple #[]/\∃W,Bd 1 9 v ls.length (ls.reverse.map GJ) W/\H'=[W]):=by
 obtain ⟨U,⟨rfl,h0,rfl⟩|⟨g,cap,cur,z,rfl,rfl,O,J,m,G,B⟩⟩:=h
 · intro u R w I
   have e:ls=[]:=MT h0;subst e;exact (Tryz.slices_Reverse_string_empty none 0 w).mono (by
    rintro e w' ⟨rfl,rfl⟩;exact .inl ⟨_,_,V,⟨V,[],Bf 1 _,V⟩,I⟩)
 · intro u R w I
   rw [Mz]at m G;have Z:=I.get (g,.cells cur 9 z) B4
   have X:=ny (w:=w) (g:=g) (e:=9) (z:=z) GJ (zs:=ls) Z A1 B G;refine (Tryz.slices_Reverse_string g 0 cap ls w X A1).mono ?_;rintro e w' ⟨rfl,n,rfl⟩;refine .inl ⟨_,_,V,⟨V,_,⟨by simp,.inr ⟨g,cap,_,z,V,V,O,J,?_,?_,?_⟩⟩,V⟩,Sat.sorted_enc (n:=n) GJ ls.reverse.toArray I⟩;· rw [Mz];simp [Go.Sort.putCells,m]
   · rw [Mz]
     have:=XT GJ cur ls.reverse (by rw [me];omega);rw [me]at this;exact this
   · simpa [Go.Sort.putCells]using B
theorem nJ(n:Nat)(g:2<=n)(h2:n<=1000000000000):BB prog 196 #[I4 (n:Int)] [] (I4 ((Dc n:Nat):Int)):=by
 have B:=nK n g h2;have G:=PT g
 unfold Dc at G;have I:(n -1).log2<64:=(Nat.log2_lt A1).2 A1
 refine Se func196 ntmps196 [0] ?_;intro u R;refine A0<|A4 Y<|A0<|Zm Y<|BV (CQ (n:=1) Y Y (by first|omega|(rw [R0];omega)) (by first|omega|(rw [R0];omega)))<|BV (M8 CM Wk Y (by first|omega|(rw [R0];omega)))<|Xr [_] Y call108 Y rfl (SK (H:=[]) (Rl:=fun v=>v=I4 ((Lib.bitLen (n -1):Nat):Int)) (fun w _=>(Tryz.bits_Len ((n -1:Nat):Int) w A1 A1).mono (by rintro e J ⟨rfl,rfl⟩;exact ⟨_,rfl,by rw [W8],Below.refl _ _⟩)) (fun v h=>⟨h,rfl⟩)) ?_;rw [B];refine BV (CQ (n:=1) Y Y (by first|omega|(rw [R0];omega)) (by first|omega|(rw [R0];omega)))<|BV (Uo (m:=1) Y Y A1 (by first|omega|(rw [R0];omega)))<|A4 Y<|AJ<|AO rfl results196 Y (by exact ⟨by rw [R0,nq];rfl,rfl⟩)
theorem TD(hv:EL M v ls)(hn:ls.length<=1000000)(hs:∀s∈ls,s.length<=140737488354000)(i:Nat)(hi:i<ls.length)(Tg:AK)(zg:Nat×Nat):
 BZ prog 146 #[v,I4 (i:Int)] [[(2,.cells (Er.map Ct).toArray Tg zg)],M] (fun r H'=>∃vp sp,r= .tuple #[vp,I4 0]/\Bd 1 9 vp (FJ ls i).length ((FJ ls i).map GJ) sp/\H'=[sp,[(2,.cells (Er.map Ct).toArray Tg zg)],M]):=by
 have j3:=mL;obtain ⟨p,cap,rfl,hl,hg⟩:=id hv;refine Se func146 ntmps146 [0,1] ?_;intro u R;refine A0<|Za Y<|A4 Y<|UR ?_;refine Zq<|A0<|Zm Y<|Zv (Au (n:=0) Y Y)<|Zm Y<|Aj (t:=12) Y V (fun h1=>by omega)<|fun h1=>Zf Y Y<|Zf Y Y<|Yg (AY DA Y)<|Yg (G6 Y Y)<|Zv (AL Y Y)<|A5<|Aq Y (fun h2=>by omega)<|fun h2=>AC<|Zx<|A0<|A4 Y<|Zq<|UU<|Zx<|Zq<|AQ<|BX<|Zb [0,1,6] ?_;refine BA (e0:=[(0,_),(1,_),(6,_)]) (fun m e H=>∃(l2:List Bs) (i2:Nat) (p2:B6) (cap2:Nat) (o:List Bs) (vo:A3) (so:List A9),m=0+l2.length/\(EL M (.slice p2 l2.length cap2) l2/\i2<l2.length/\(∀s∈l2,s.length<=140737488354000)/\FJ ls i=FJ l2 i2++o.reverse/\Bd 1 9 vo o.length (o.map GJ) so/\o.length+l2.length<=ls.length)/\e=[(0,.slice p2 l2.length cap2),(1,I4 (i2:Int)),(6,vo)]/\H=[so]) (by exact ⟨ls,i,p,cap,[],.slice none 0 0,[],V,⟨hv,hi,hs,by simp,Bf 1 _,by simp⟩,V,V⟩) Wp ?_;rintro _ _ _ ⟨l2,i2,p2,cap2,o,vo,so,rfl,⟨U,gm,J,B,I,j5⟩,rfl,rfl⟩;obtain ⟨qo,co,rfl⟩:=I.form;refine AQ<|Zq<|A0<|Zm Y<|Zv (AY DA Y)<|Zv (CR (n:=1) Y Y)<|A5<|Aq Y (fun h1=>?_) (fun h1=>?_);·
  rw [Vi (l:=l2) A1,Ln]at B;refine Ay<|Zt<|Av V<|Zt<|AR<|Zx<|A0<|Zm Y<|Zc [_] Y call197 Y V (XL I A1) ?_;rintro _ _ ⟨_,⟨rfl,bn,W,rfl⟩,rfl⟩;refine A5<|A0<|Zm Y<|Za Y<|A4 Y<|AJ<|L6 ?_;refine Cv rfl results146 Y Y (by exact ⟨_,bn,rfl,BS W (by rw [B,me]) (by rw [B]),rfl⟩)
 have h9:2<=l2.length:=by omega
 have ax:=PT h9;have gq:=PS l2.length
 have g:(l2.take (Dc l2.length)).length=Dc l2.length:=by rw [CC];omega
 obtain ⟨p8,cu,e8,gy,af⟩:=id U;injection e8 with e81 e82 e83
 subst e81 e83;obtain ⟨g8,d9,cO,T8,kv,rfl,ic,ek⟩:=af 0 _ (B7 A1);have Z:=U.take (Dc l2.length) A1
 have X:=U.drop (Dc l2.length) ax;refine AC<|Zx<|A0<|Zm Y<|Zv (AY DA Y)<|Xr [_] Y call196 Y V (nJ l2.length h9 A1) ?_;refine A4 Y<|Zq<|Az (n:=8) (0::0::3::0::0::24::7::127::[]) 0 AE AE V<|A2 0 V (AP Y)<|A2 1 V (AP Y)<|A2 2 V (Bu DA Fo Y Y A1)<|A2 3 V (AP Y)<|A2 4 V (AP Y) ?_
 (refine Dr (D':=63) 5 (NK DA Fo Y Y ?_ ?_) ?_;(focus (omega));(focus (omega)))
 refine A2 6 V (Aw Y)<|A2 7 V (Aw Y)<|Ag<|Zn [1,6,7,8,9] ?_;refine Zx<|Zq<|A0<|Zm Y<|Zm Y<|Zv (G6 Y Y)<|A5<|Aq Y (fun O=>?_) (fun O=>?_);·
  have O:¬i2<Dc l2.length:=by omega
  refine Zg<|Zm Y<|Zm Y<|Zm Y<|Zm Y<|Yb Y Y<|Za Y<|Za Y<|A4 Y<|A0<|Zm Y<|Zm Y<|Xr [_] Y call195 Y rfl (QG Z (by rw [g];omega) (fun s h=>J s (Pc h)) Tg zg) ?_;refine Ze (Ai (vs:=[_]) (cs:=[_]) DA Fo Hs Y V rfl V rfl V)<|AG fun b1=>Ze (E8 (by_:=16) (sz:=1) (news:=[_]) DA (V:Tryz.prog.info? 9=some Tryz.t9) V rfl V rfl Y I Y Wo Wh As V GP AW A1 A1) ?_;rintro _ _ ⟨sw,G,rfl⟩;obtain ⟨gw,cw,rfl⟩:=G.form;refine AN Y<|Zn [1,6,8] ?_;refine Zx<|Zg<|Zm Y<|AN Y<|A8<|Zn [0,1,6] ?_;refine Ab (e':=[(0,_),(1,_),(6,_)]) (by exact ⟨l2.drop (Dc l2.length),i2 -Dc l2.length,_,_,o++[Dm (l2.take (Dc l2.length))],_,_,(by rw [CD]),⟨(by rw [CD];exact X),by rw [CD];omega,fun s h=>J s (KB h),by rw [B,P9 h9 O,mS,D3];rfl,BS G B4 (by simp;rfl),by rw [BW,CD];simp;omega⟩,(by rw [CD]),rfl⟩)
 refine AC<|Zx<|A0<|Zm Y<|Zm Y<|Xr [_] Y call195 Y rfl (QG X (by rw [CD];omega) (fun s h=>J s (KB h)) Tg zg) ?_;refine Ze (Ai (vs:=[_]) (cs:=[_]) DA Fo Hs Y V rfl V rfl V)<|AG fun b3=>Ze (E8 (by_:=16) (sz:=1) (news:=[_]) DA (V:Tryz.prog.info? 9=some Tryz.t9) V rfl V rfl Y I Y Wo Wh As V GP AW A1 A1) ?_;rintro _ _ ⟨sw,G,rfl⟩;obtain ⟨gw,cw,rfl⟩:=G.form;refine A4 Y<|Zg<|Zm Y<|AN Y<|A8<|Zn [0,1,6] ?_;refine Ab (e':=[(0,_),(1,_),(6,_)]) (by exact ⟨l2.take (Dc l2.length),i2,_,_,o++[Dm (l2.drop (Dc l2.length))],_,_,(by rw [g]),⟨(by rw [g];exact Z),by rw [g];omega,fun s h=>J s (Pc h),by rw [B,Qz h9 A1,mS,D3];rfl,BS G B4 (by simp;rfl),by rw [BW,g];simp;omega⟩,(by rw [g]),rfl⟩)
def yr(s:Bs):Bool:=!decide (s.length=32)
def nr(s:Bs):Nat->Nat->List Bs->Option Bs
 |n,_,[]=>if n<=1 then some (aD s)else none
 |n,i,x::rp=>if n<=1 then none else if i<Dc n then(nr s (Dc n) i rp).map (fun v=>JM v x)else(nr s (n -Dc n) (i -Dc n) rp).map (fun v=>JM x v)
def yb(root:Bs)(n i:Nat)(s:Bs)(pf:List Bs):Bool:=!(pf.any yr)&&decide (nr s n i pf.reverse=some root)
def Qf(r:AX):Bs:=Hz [r.t,r.k]++Hz [r.v.a,r.v.b,r.v.c]
theorem XH(h:r.ok):(∀n∈[r.t,r.k],-4611686018427387903<=n/\n<=4611686018427387903)/\(∀n∈[r.v.a,r.v.b,r.v.c],-4611686018427387903<=n/\n<=4611686018427387903):=by
 obtain ⟨⟨g,h2,m⟩,B,G⟩:=h;unfold inV at g h2 m;constructor
 · intro n hn
   simp only [DB,RR,PF]at hn;rcases hn with rfl|rfl<;>omega
 · intro n hn
   simp only [DB,RR,PF]at hn;rcases hn with rfl|rfl|rfl<;>omega
theorem iM(h:r.ok):(Qf r).length<=45:=by
 have g:=Hy _ (XH h).1;have h2:=Hy _ (XH h).2
 unfold Qf;rw [BW];simp only [Dd,LI]at g h2;omega
theorem uR(a b:Int):LW #[I4 a,I4 b] 0 [a,b]:=by
 intro i n h;rcases i with _|_|i
 · simp at h;subst h;rfl
 · simp at h;subst h;rfl
 · simp at h
theorem yU(r:AX):LW r.A97 2 [r.v.a,r.v.b,r.v.c]:=by
 intro i n h;rcases i with _|_|_|i
 · simp at h;subst h;rfl
 · simp at h;subst h;rfl
 · simp at h;subst h;rfl
 · simp at h
theorem lL(r:AX)(B:r.ok):BB prog 192 #[.agg r.A97] [] (.tuple #[.string (str (Qf r)),I4 0]):=by
 have hn:=XH B;have g:=Hy _ hn.1
 have m:=Hy _ hn.2;simp only [Dd,LI]at g m;refine Se func192 ntmps192 [0] ?_;intro u R;refine A0<|Ze (Bx #[_,_,_,_,_])<|AG fun G=>Za Y<|A4 Y<|Zq<|A0<|Zo Wh (Pa #[_,_,_,_,_] D0 B0 Y)<|Xr [_] Y call207 Y V (Sb r) ?_;rw [DE B];refine Zv (Br Y)<|A5<|AU Y (fun hv=>by cases hv)<|fun hv=>AC<|Zx<|Zq<|Az (n:=12) (0::1::0::4::15::31::0::64::255::511::1023::2047::[]) 304 AE AE V<|A2 0 V (AB (off:=0) G0 V rfl A6 Y)<|B9 1 V AF Y<|A2 2 V (AB (off:=1) G0 V rfl A6 Y)<|B9 3 V AF Y<|A2 6 V (AB (off:=2) G0 V rfl DO Y)<|A2 7 V (Io Hh A6 Y)<|Zz (l:=[4])<|B5 [false,false] [] V rfl (Ai (vs:=[_,_]) (cs:=[_,_]) DH A6 HG Y V rfl V rfl V) ?_ (fun _ _ h=>h.elim) Ah;rintro _ _ ⟨gb,rfl,rfl⟩;refine BT<|Yw 5 255 V (Zu [_] Y call242 Y V (qd gb 0 2 _ _ _ [r.t,r.k] (uR r.t r.k) B4 hn.1))<|D4<|Yw 8 511 V (Zu [_] Y call242 Y V (qd G 2 3 _ _ _ [r.v.a,r.v.b,r.v.c] (yU r) B4 hn.2))<|D4<|A2 9 rfl (N7 Y Y (by rw [Gt,Gt];omega))<|A2 10 rfl (Aw Y)<|A2 11 rfl (Aw Y)<|Ag<|Zn [2,3] ?_;refine Zx<|AJ<|Cv rfl results192 Y Y (by exact ⟨by rw [Rk];rfl,rfl⟩)
def BI(rs:List AX)(t:Int)(c:Nat):List AX:=Dt rs t c (-1000000000) 1000000000
theorem JL(g:BQ rs)(t:Int)(c:Nat):(BI rs t c).length<=rs.length:=by
 unfold BI;rw [(ET rs t c _ _).length_eq];exact ON _ _
theorem Ml{t:Int}{c:Nat}{lo hi:Int}(h:r∈Dt rs t c lo hi):r∈rs:=(FF.1 ((ET rs t c lo hi).mem_iff.1 h)).1
def OB(l:List AX):List Bs:=l.map Qf
theorem GX(l:List AX):(OB l).length=l.length:=B8 ..
theorem vM{l:List AX}(h:l[i]?=some x):(OB (l.take (i+1))).map GJ=(OB (l.take i)).map GJ++[.string (str (Qf x))]:=by
 rw [Bn h];unfold OB;rw [C2,C2];rfl
def wQ(l:List AX)(vr ve:A3)(sr se:List A9):Prop:=Bd 5 72 vr (l).length (Af (l)) sr/\Bd 1 9 ve l.length ((OB l).map GJ) se
theorem TY(v:A3)(p:Int)(rs:List AX)(s:List A9)(hv:Rh v p rs s)(hs:BQ rs)(hn:rs.length<=2000)(ax:∀r∈rs,r.ok)(t:Int)(c:Nat)(hc:c<=3):
 BZ prog 138 #[v,I4 t,I4 (c:Int)] [s] (fun r H'=>∃vr O X J,r= .agg #[vr,O]/\wQ (BI rs t c) vr O X J/\H'=[X,J,s]):=by
 have gq:=mL;have gm:=JL hs t c
 refine Se func138 ntmps138 [0,1,2] ?_;intro u R;refine A0<|Ze (Al hQ #[_,_])<|AG fun qb=>A5<|A0<|Zm Y<|Zm Y<|Zm Y<|Zc [_,_,_,_,_] Y call85 Y V (YY v p rs s hv t c (-1000000000) 1000000000 hc) ?_;rintro _ _ ⟨_,⟨X,G,rfl⟩,rfl⟩;change Bd 5 72 _ (BI rs t c).length (Af (BI rs t c)) X at G;obtain ⟨qr,cr,rfl⟩:=G.form;have Z:=DY G A1
 obtain ⟨p9,cu,e9,gy,hg⟩:=id Z;injection e9 with e91 e92 e93
 subst e91 e93;refine Zv (BL (vs:=[(0,_)]) (cs:=#[_,_]) Y (AZ (pl:=#[(0,1),(1,1)]) hQ Nd (fun _=>by kernel_rfl) V))<|Ze (Al hQ #[_,_])<|AG fun ob=>Xe (BM ew Y Y (by(simp [Value.oneCell',Value.cells];done)) Wu (by exact (rfl:_=(#[.slice qr (BI rs t c).length cr,.slice none 0 0]:AH))) Fc AW (by exact BC _))<|A5<|Zq<|A0<|Zh 0 Nd rfl rfl CI Y<|Zl Fm Y<|Zv (AY BE Y)<|Zm Y<|A5<|AQ<|BX<|Zb [20,6,7,18,19] ?_;refine BA (e0:=[(20,_)]) (fun m e H=>∃(i:Nat) (O:A3) (J:List A9),m=(BI rs t c).length -i/\(i<=(BI rs t c).length/\Bd 1 9 O i ((OB ((BI rs t c).take i)).map GJ) J)/\e=[(20,I4 (i:Int))]/\H=[[(ob,.cells #[.slice qr (BI rs t c).length cr,O] 238 (0,0))],J]) (by exact ⟨0,.slice none 0 0,[],V,⟨C5 _,Bf 1 _⟩,V,V⟩) Wp ?_;rintro _ _ _ ⟨i,O,J,rfl,⟨hi,B⟩,rfl,rfl⟩;obtain ⟨qe,ce,rfl⟩:=B.form;refine A0<|Zv (Au Y Y)<|A5<|Zq<|Aq Y (fun W=>?_) (fun W=>?_);·
  obtain ⟨x,hx⟩:∃x,(BI rs t c)[i]?=some x:=⟨_,B7 W⟩;obtain ⟨g,off,cur,T,zz,rfl,af,cO,U⟩:=hg i x hx;have bn:=ax x (Ml (Dg hx))
  refine AC<|Zx<|Zq<|AQ<|A0<|BV (Ad BE B0 Y Y A1)<|CG (cs:=[(g,.cells cur T zz)]) (by simp [af]) (AA (cs:=x.A97) D0 B0 Y A1 U) V rfl<|Ze (Al F0 #[_,_,_,_,_])<|AG fun xb=>Xe (Xw B0 x.A97)<|A5<|A0<|Zo Wh (Pa #[_,_,_,_,_] D0 B0 Y)<|Xr [_] Y call192 Y V (lL x bn)<|Zm Y<|Zd Y V<|Zd Y V<|Za Y<|A4 Y<|Zg<|Zh 1 Nd V rfl HI Y<|Zl I3 Y<|Zm Y<|Ze (Ai (vs:=[_]) (cs:=[_]) DA Fo Hs Y V rfl V rfl V)<|AG fun b4=>Ze (E8 (by_:=16) (sz:=1) (news:=[_]) DA (V:Tryz.prog.info? 9=some Tryz.t9) V rfl V rfl Y B Y Wo Wh As V GP AW A1 A1) ?_;rintro _ _ ⟨ic,I,rfl⟩;obtain ⟨ek,d9,rfl⟩:=I.form;refine Zh 1 Nd V rfl HI Y<|Xe (Zs HI Y Y V (hc:=by exact (V:_=(#[.slice _ (BI rs t c).length cr,_]:AH))) (hi:=by(simp;done)))<|Z0<|Zn [6,7,18,19,20] ?_;refine A8<|Zx<|Zg<|Ya (n:=1) Y Y<|Zm Y<|Z0<|Zn [20,6,7,18,19] ?_;refine Ab (e':=[(20,_)]) (by exact ⟨i+1,_,_,rfl,⟨by omega,BS I rfl (by rw [vM hx])⟩,rfl,rfl⟩)
 have ei:i=(BI rs t c).length:=by omega
 subst ei;rw [GS]at B;refine Ay<|Zt<|Zt<|AR<|Zx<|A0<|Zo Wh (AA (cs:=#[_,_]) isAgg238 ew Y B1 As)<|Xe (BM ew Y Y (by(simp [Value.oneCell',Value.cells];done)) Wu (by exact (rfl:_=(#[.slice qr (BI rs t c).length cr,.slice qe _ ce]:AH))) Fc AW (by exact BC _))<|A5<|AJ<|Cs rfl results138 Y Wh (Am isAgg238 ew Wn (rfl)) (by exact ⟨.slice qr _ cr,.slice qe _ ce,X,J,rfl,⟨G,B⟩,rfl⟩)
theorem ZT(v:A3)(p:Int)(rs:List AX)(s:List A9)(hv:Rh v p rs s)(J:BQ rs)(hn:rs.length<=2000)(I:∀r∈rs,r.ok)(t:Int)(c:Nat)(hc:c<=3):
 BZ prog 138 #[v,I4 t,I4 (c:Int)] [s] (fun r H'=>∃G B m g,r= .agg #[G,B]/\wQ (BI rs t c) G B m g/\H'=[m++g,s]):=by
 refine H6 (TY v p rs s hv J hn I t c hc) V ?_;rintro r H' ⟨G,B,m,g,rfl,h,rfl⟩;exact ⟨_,⟨G,B,m,g,V,h,V⟩,by simp⟩
def tcs:List (Nat×Nat):=(List.range 4).flatMap fun t=>(List.range 4).map fun c=>(t,c)
theorem w4:∀t,t<4->∀c,c<4->tcs[4*t+c]?=some (t,c):=by decide
def nt(rs:List AX)(x:Nat×Nat):Bs:=UI ((BI rs (x.1:Int) x.2).length:Int)++Dm (OB (BI rs (x.1:Int) x.2))
def dY(rs:List AX):List Bs:=tcs.map (nt rs)
def zx(rs:List AX)(x:Nat×Nat)(vs:AH)(sx:List A9):Prop:=∃vr ve sr se,vs=#[.agg #[vr,ve]]/\wQ (BI rs (x.1:Int) x.2) vr ve sr se/\sx=sr++se
theorem Xx{l:List AX}(h:∀r∈l,r.ok):∀s∈OB l,s.length<=45:=by
 intro s m;obtain ⟨r,g,rfl⟩:=C3.1 m;exact iM (h r g)
theorem ZQ(q:B6):BZ prog 193 #[.pointer q] [] (fun r H'=>∃b,r= .func (.func 243) #[] #[I5 b]/\H'=[[(b,.cells #[.pointer q] 98 (0,0))]]):=by
 refine Se func193 ntmps193 [0] ?_;intro u R;refine A0<|Ze (Bx #[_])<|AG fun b=>A4 Y<|A0<|Zv (Bh (vs:=[]) (us:=[_]) Y Y)<|A4 Y<|AJ<|AO V results193 Y (by exact ⟨_,V,V⟩)
theorem ZR(v:A3)(p:Int)(rs:List AX)(s:List A9)(hv:Rh v p rs s)(hs:BQ rs)(hn:rs.length<=2000)(X:∀r∈rs,r.ok)(b:Nat):
 Ws prog 243 #[I5 b] [[(b,.cells #[v] 98 (0,0))]] [s] (zx rs) tcs:=by
 have af:=mL;intro l J hy s0 hJ;refine Se func243 ntmps243 [0,1] ?_;intro u R;refine A0<|Zm Y<|A5<|AQ<|Zb [5,0,1] ?_;refine BA (e0:=[(5,_)]) (fun m e H=>∃(t:Nat) (s2:List A9),m=4 -t/\(t<=4/\J (tcs.take (4*t)) s2)/\e=[(5,I4 (t:Int))]/\H=[s2]) (by exact ⟨0,s0,V,⟨by omega,hJ⟩,V,V⟩) Wp ?_;rintro _ _ _ ⟨t,s2,rfl,⟨ht,g⟩,rfl,rfl⟩;refine A0<|Zv (Au (n:=4) Y Y)<|A5<|Zq<|Aq Y (fun I=>?_) (fun I=>?_);·
  refine AC<|Zx<|Zq<|AQ<|A0<|Zm Y<|A4 Y<|A0<|Zm Y<|A5<|AQ<|Zb [8,0,1,3,5] ?_;refine BA (e0:=[(8,_)]) (fun m e H=>∃(c:Nat) (O:List A9),m=4 -c/\(c<=4/\J (tcs.take (4*t+c)) O)/\e=[(8,I4 (c:Int))]/\H=[O]) (by exact ⟨0,s2,V,⟨by omega,g⟩,V,V⟩) Wp ?_;rintro _ _ _ ⟨c,O,rfl,⟨hc,B⟩,rfl,rfl⟩;refine A0<|Zv (Au (n:=4) Y Y)<|A5<|Zq<|Aq Y (fun G=>?_) (fun G=>?_);·
   have hx:=w4 t I c G;refine AC<|Zx<|Zq<|AQ<|A0<|Zm Y<|A4 Y<|A0<|Zm Y<|Zl isAgg98 Y<|Zm Y<|Zm Y<|Zc [_,_,_] Y call138 Y V (ZT v p rs s hv hs hn X (t:Int) c A1) ?_;rintro _ _ ⟨_,⟨vr,ve,sr,se,rfl,hO,rfl⟩,rfl⟩;have Z:=hy _ _ _ O #[.agg #[vr,ve]] (sr++se) (Od hx) B ⟨vr,ve,sr,se,rfl,hO,rfl⟩
   refine Ze (Ga (vs:=[_]) Y Y (Z) Wp) ?_;rintro _ _ ⟨_,⟨s4,rfl,rfl,W⟩,rfl⟩;refine Zv (Br Y)<|A5<|AU Y (fun hb=>by cases hb)<|fun hb=>AC<|A8<|Zx<|Zg<|Ya (n:=1) Y Y<|Zm Y<|Z0<|Zn [8,0,1,3,5] ?_;refine Ab (e':=[(8,_)]) (by exact ⟨c+1,s4,rfl,⟨by omega,by rw [<-kO,Bn hx];exact W⟩,rfl,rfl⟩)
  refine Ay<|Zt<|Zt<|AR<|A8<|Zx<|Zg<|Ya (n:=1) Y Y<|Zm Y<|Z0<|Zn [5,0,1] ?_;refine Ab (e':=[(5,_)]) (by exact ⟨t+1,O,rfl,⟨by omega,by rw [Nat.mul_add,Mz];have U:c=4:=A1;subst U;exact B⟩,rfl,rfl⟩)
 have U:t=4:=by omega
 subst U;refine Ay<|Zt<|Zt<|AR<|Cw V results243 (by exact ⟨s2,V,g⟩)
theorem VM(v:A3)(p:Int)(rs:List AX)(s:List A9)(hv:Rh v p rs s)(hs:BQ rs)(hn:rs.length<=2000)(U:∀r∈rs,r.ok)(X:AK)(zg:Nat×Nat):
 BZ prog 145 #[v] [[(2,.cells (Er.map Ct).toArray X zg)],s] (fun r H'=>∃so,Bd 1 9 r 16 ((dY rs).map GJ) so/\H'=[so,[(2,.cells (Er.map Ct).toArray X zg)],s]):=by
 have j5:=mL;obtain ⟨l9,l8,ic,gq,l5,rfl,d9⟩:=id hv;refine DT func145 V ntmps145 V ?_;intro u R;refine Zb [0] ?_;refine A0<|A4 Y<|A0<|Ze (Al W4 #[_])<|AG fun ob=>A5<|Zq<|A0<|Zm Y<|Zc [_] Y call193 Y V (ZQ _) ?_;rintro _ _ ⟨_,⟨bb,rfl,rfl⟩,rfl⟩;refine A5<|AQ<|Zb [3,8] ?_;refine BX<|YC (H0:=_) (R:=_) (I:=(fun pre H=>∃v2 s2,H=[[(ob,.cells #[v2] 45 (0,0))],s2,[(2,.cells (Er.map Ct).toArray X zg)]]/\Bd 1 9 v2 pre.length ((pre.map (nt rs)).map GJ) s2)) (E:=fun x vs sx e Hn=>∃Z J G,vs=#[.agg #[J,G]]/\e=[(4,I5 Z),(9,.agg #[J,G])]/\Hn=[[(Z,.cells #[J,G] 238 (0,0))]]) rfl Y call243 (ZR _ p rs s hv hs hn U bb) (fun x vs sx h=>by obtain ⟨J,G,sr,se,rfl,_⟩:=h;rfl) rfl Wp (⟨_,[],rfl,Bf 1 _⟩) ?ha_2 ?hbd_2 ?hk_2
 case ha_2=>
  intro _ x vs sx _ _ g;obtain ⟨J,G,sr,se,rfl,O,rfl⟩:=g;refine Zg<|Ze (Al hQ #[_,_])<|AG fun Z=>Xe (BM ew Y Y (by obtain ⟨q1,c1,rfl⟩:=O.1.form;obtain ⟨q2,c2,rfl⟩:=O.2.form;simp [Value.oneCell',Value.cells]) Wu (by exact (rfl:_=(#[J,G]:AH))) Fc AW (by exact BC _)) ?_;refine Z0<|MG (e:=[(4,_),(9,_)]) (Hn:=[[(_,_)]]) ?_;exact ⟨_,_,_,V,V,V⟩
 case hbd_2=>
  intro l pre x ek u vs sx e9 gm H1 R1 cO hI g af;obtain ⟨J,G,sr,se,rfl,O,rfl⟩:=g;obtain ⟨Z,p8,o9,W,rfl,rfl⟩:=af;simp at W;obtain ⟨rfl,rfl⟩:=W;obtain ⟨v2,s2,rfl,m⟩:=hI;obtain ⟨qe,ce,rfl⟩:=O.2.form;obtain ⟨q2,c2,rfl⟩:=m.form;have cu:=congrArg List.length cO
  rw [BW,Dd,show tcs.length=16 from rfl]at cu;have kv:=JL hs (x.1:Int) x.2
  have bn:EL (sr++se) (.slice qe (BI rs (x.1:Int) x.2).length ce) (OB (BI rs (x.1:Int) x.2)):=(Gj (BS O.2 (GX _).symm rfl) (by rw [GX];omega)).mono (fun c h=>GB _ h);refine AQ<|A0<|Zh 1 Nd V rfl HI Y<|Zl I3 Y ?_;refine Zv (AY DA Y)<|Xr [_] Y call194 Y V (Qy _ A1 A1) ?_;refine Zm Y<|Zd Y V<|Zd Y V<|Za Y<|A4 Y<|Az (n:=9) (0::0::0::4::12::30::62::127::255::[]) 464 AE AE V<|B9 0 V I3 Y ?_;refine A2 1 V (AP Y)<|A2 2 V (AB (off:=1) Nd V rfl HI Y)<|B9 3 V I3 Y ?_;refine Yz 4 12 31 [3,0] [false,true] [(0,(_,_))] rfl Y rfl rfl rfl rfl (Zu [_] Y call195 Y rfl (QG bn (by rw [GX];omega) (fun s h=>by have:=Xx (fun r hr=>U r (Ml hr)) s h;omega) X zg))<|D4<|BT<|A2 5 rfl (N7 Y Y (by rw [Gt,Gt,Lx];have:=Ph ((BI rs (x.1:Int) x.2).length:Int) A1 A1;omega))<|Yz 6 62 127 [0] [true] [(0,(_,_))] rfl Y rfl rfl rfl rfl (Ai (vs:=[_]) (cs:=[_]) DA Fo Hs Y rfl rfl rfl rfl rfl)<|AG fun b3=>BT<|Yw 7 255 V (E8 (by_:=16) (sz:=1) (news:=[_]) DA (V:Tryz.prog.info? 9=some Tryz.t9) V rfl V rfl Y m Y Wo Wh As V GP AW A1 A1) ?_;rintro _ _ ⟨o8,B,rfl⟩;obtain ⟨j3,gy,rfl⟩:=B.form;refine Yw 8 511 V (Zs HI Y Y V (hi:=by(simp;done)))<|D4<|Ag<|Zn [] ?_;refine A8<|F7 V (by exact ⟨_,_,V,BS B B4 (by simp [nt,GJ,Rk])⟩)
 intro D1 H2 ax;obtain ⟨v2,s2,rfl,m⟩:=ax;refine Zn [3] ?_;refine A8<|Zx<|A0<|Zl I3 Y ?_;refine A4 Y<|AJ<|GR V (eZ results145 Y) Wo (by exact ⟨s2,m,V⟩)
end Go.Proofs.YtfhjaegddfehhabGreatDoor
