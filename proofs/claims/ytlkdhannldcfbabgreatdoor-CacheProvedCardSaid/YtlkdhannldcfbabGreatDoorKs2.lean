/- The program's layer 3: put. -/
import Derived.Test.YtlkdhannldcfbabGreatDoorLg5
set_option linter.unusedVariables false
set_option linter.unusedSimpArgs false
namespace Go.Proofs.YtlkdhannldcfbabGreatDoor
open Go.Proofs.Tryz
open Go Go.RowKit Gw
set_option maxRecDepth 100000
attribute [local irreducible] Gw.At Gw.Nx Gw.Ops
def El(ls:List Int):List UInt8:=ls.flatMap R6
theorem ES:∀(ls:List Int),(∀n∈ls,-4611686018427387903<=n/\n<=4611686018427387903)->(El ls).length<=ls.length*9
 |[],_=>by simp [El]
 |n::ls,h=>by
  have B:=ES ls (fun m g=>h m (by simp [g]));have h2:=Kq n (h n B7).1 (h n B7).2
  unfold El at*;rw [Hv,C0,F2];omega
theorem aX(ls:List Int)(n:Int):El (ls++[n])=El ls++R6 n:=by simp [El]
theorem TR(g off cap:Nat)(cur:AN)(T:AM)(z:Nat×Nat)(ls:List Int)(I:Ji cur off ls)(hn:ls.length<=1073741824)(K:∀n∈ls,-4611686018427387903<=n/\n<=4611686018427387903):
 Au prog 204 #[.slice (some ⟨g,off,none⟩) ls.length cap] [[(g,.cells cur T z)]] (.string (str (El ls))):=by
 have W:=mL;refine Se func204 ntmps204 [0] ?_;intro u R;refine A3<|AH Y<|A3<|AH Y<|B8 Y<|Zv (AR DP Y)<|Zm Y<|A4<|AQ<|Zb [3,10,8,9] ?_;refine Aw (e0:=[(3,_),(10,_)]) (fun m e H=>∃(i:Nat),m=ls.length -i/\(i<=ls.length)/\e=[(3,.string (str (El (ls.take i)))),(10,I4 (i:Int))]/\H=[]) (by exact ⟨0,V,CM _,V,V⟩) Wp ?_;rintro _ _ _ ⟨i,rfl,hi,rfl,rfl⟩;refine A3<|Zv (Ap Y Y)<|A4<|Zq<|Ak Y (fun G=>?_) (fun G=>?_);·
  obtain ⟨x,hx⟩:∃x,ls[i]?=some x:=⟨_,BT G⟩;have B:=K x (Ek hx)
  have J:ls.take (i+1)=ls.take i++[x]:=by rw [S1,hx];rfl
  have X:=ES (ls.take i) (fun m U=>K m (RW U));have Z:(ls.take i).length<=i:=List.length_take_le ..
  have O:=Kq x B.1 B.2;refine B3<|Zq<|AQ<|A3<|BX (Bg DP A6 Y Y A0)<|Zl AE Y (hv:=by exact I i x hx)<|AH Y<|AK Y<|Xr [_] Y call83 Y rfl (MX x B.1 B.2)<|Zm Y<|Zd Y rfl<|Zd Y rfl<|Za Y<|AH Y<|Zg<|Zm Y<|Zm Y<|BX (JO Y Y (by rw [D5,D5];omega))<|B2 Y<|Zn [3,8,9,10] ?_;refine AA<|Zx<|Dg Y Y Y<|DG (e:=[(3,_),(10,_)]) (h:=by exact ⟨i+1,rfl,by omega,by rw [J,aX,<-LA],rfl⟩)
 refine BA<|Zt<|Zt<|AX<|Zx<|AK Y<|An Y<|AO rfl results204 Y (by exact ⟨by rw [Kx A0],rfl⟩)
theorem UK(s:List UInt8):Au prog 28 #[.string (str s)] [] (.bool (decide (s.length=32))):=by
 have g:=D5 s;refine Se func28 ntmps28 [0] ?_;intro u R;refine A3<|AH Y<|AK Y<|Zv (GL GW Y)<|Zv (CJ (n:=32) Y Y)<|An Y<|AO rfl results28 Y (by exact ⟨by rw [g],rfl⟩)
theorem Pt(p:Int)(a b:List UInt8):Au prog 119 #[.agg #[I4 p,.string (str a),.string (str b)]] [] (.bool (decide ((0<=p/\p<=10000)/\a.length=32/\b.length=32))):=by
 refine Se func119 ntmps119 [0] ?_;intro u R;refine A3<|Ze (Bx #[_,_,_])<|AF fun I=>AH Y<|A3<|Zh 0 OK V rfl A6 Y<|Zl AE Y<|Zv (Ga Y Y)<|Zm Y<|Af (t:=6) Y V (fun g=>?_) (fun g=>?_);focus
  refine Yf 0 OK V rfl A6 Y<|Yl AE Y<|Yg (Md Y Y)<|C1 Y Y<|Zm Y<|Af (t:=11) Y V (fun h2=>?_) (fun h2=>?_);focus
   refine Yf 1 OK V rfl FG Y<|Yl H3 Y<|Xr [_] Y call28 Y V (UK a)<|C1 Y Y<|Zm Y<|Af (t:=16) Y V (fun m=>?_) (fun m=>?_);focus
    refine Yf 2 OK V rfl FG Y<|Yl H3 Y<|Xr [_] Y call28 Y V (UK b)<|Zv (AU Y Y) ?_
   rotate_left
   focus
    refine AG<|C4<|Zv (AJ Y Y) ?_
   all_goals
    refine B2 Y<|Zn [2] ?_;refine Zx<|AL<|AO V results119 Y (by exact ⟨by(simp_all;done),V⟩)
 rotate_left
 focus
  refine AG<|C4<|B9 Y Y<|Zm Y ?_
 all_goals
  refine AG<|C4<|B9 Y Y<|Zm Y<|AG<|C4<|B9 Y Y<|B2 Y<|Zn [2] ?_;refine Zx<|AL<|AO rfl results119 Y (by exact ⟨by rw [DQ (fun B=>by have G:=B.1;omega)],rfl⟩)
structure Cw where
 p:Int
 ch:List UInt8
 st:List UInt8
def Z9(M:List A8)(v:A2)(hs:List Cw):Prop:=∃p cap,v= .slice p hs.length cap/\hs.length<=maxLen/\∀(i:Nat) (h:Cw),hs[i]?=some h->∃g off cur T zz,p=some ⟨g,off,none⟩/\(g,Obj.cells cur T zz)∈M/\off+i*3+3<=cur.size/\cur.extract (off+i*3) (off+i*3+3)=#[I4 h.p,.string (str h.ch),.string (str h.st)]
theorem lg(J:Nat)(v0:A2)(q:BE)(cap:Nat)(m:List Cw)(M:List A8)(U:Z9 M (.slice q m.length cap) m)(i:Nat)(x:Cw)(hx:m[i]?=some x):Au prog 19 #[I5 J,I4 (i:Int)] [[(J,.cells #[v0,.slice q m.length cap] 93 (0,0))],M] (.tuple #[.agg #[I4 x.p,.string (str x.ch),.string (str x.st)],.bool true]):=by
 have af:=mL;obtain ⟨p9,G,K,ax,W⟩:=U;injection K with e91 e92 e93
 subst e91 e93;have X:=(C7.1 hx).1
 obtain ⟨g,off,cur,T,zz,rfl,Z,bn,B⟩:=W i x hx;refine Se func19 ntmps19 [0,1] ?_;intro u R;refine A3<|Ze (Al ON #[_,_,_])<|AF fun b1=>AH Y<|B8 Y<|Zv (Bb underlying28 Y Y)<|Zm Y<|Ad (t:=8) Y V (fun I=>by cases I)<|fun I=>Zf Y Y<|Yg (Ap (n:=0) Y Y)<|B9 Y Y<|Zm Y<|Af (t:=12) Y V (fun h2=>by omega)<|fun h2=>Zf Y Y<|Zf Y Y<|Yg (Ao Y V)<|Yf 1 cN V rfl fh Y<|Yl isAgg91 Y<|Yg (AR aw Y)<|Yg (Ef Y Y)<|B9 Y Y<|Z0<|Zn [0,1,4,20] ?_;refine Zx<|Ak Y (fun O=>by omega)<|fun O=>B3<|AK Y<|Zp Y V<|Zh 1 cN V rfl fh Y<|Zl isAgg91 Y<|Zm Y<|BX (AZ aw HM Y Y A0)<|Bu (cs:=[(g,.cells cur T zz)]) (by simp [Z]) (A9 (cs:=#[I4 x.p,.string (str x.ch),.string (str x.st)]) Lo HM Y A0 B) V rfl<|Xe (Xw HM _)<|An Y<|CS V results19 Y Wh (Av Lo HM Wn (V)) Y (by exact ⟨V,V⟩)
variable{sz:Nat}{e:AM}{v:A2}{xs:List A2}{s:List A8}
theorem H7{k:Nat}(h:BU sz e v k xs s)(i:Nat)(hi:i<k):∃g cap cur z,v=I6 g k cap/\s=[(g,.cells cur e z)]/\i*sz+sz<=cur.size/\(cur.extract (i*sz) (i*sz+sz)).toList=(xs.drop (i*sz)).take sz:=by
 obtain ⟨K,⟨_,h0,_⟩|⟨g,cap,cur,z,rfl,rfl,B,hc,G,m,J⟩⟩:=h;· omega
 · have I:i*sz+sz<=k*sz:=by
    have:=Wk sz (Nat.succ_le_of_lt hi);rw [Nat.succ_mul]at this;exact this
   have h2:k*sz<=cap*sz:=Wk sz B;refine ⟨g,cap,cur,z,V,V,by omega,?_⟩;rw [<-m,sL,rN,ia,Xs];congr 1;omega
def Ae(rs:List AV):List A2:=rs.flatMap (fun r=>[I4 r.t,I4 r.k,I4 r.v.a,I4 r.v.b,I4 r.v.c])
theorem Gi{α:Type}(f:α->List A2)(sz:Nat)(g:∀a,(f a).length=sz):∀(l:List α) (i:Nat) (a:α),l[i]?=some a->((l.flatMap f).drop (i*sz)).take sz=f a
 |x::l,0,a,h=>by
  injection h with h;subst h
  rw [dt,SU,Hv,de (by rw [g];exact D0 _),Kx (by rw [g];exact D0 _)]
 |x::l,i+1,a,h=>by
  have e1:(f x++l.flatMap f).drop sz=l.flatMap f:=by
   have m:=List.drop_left (l₁:=f x) (l₂:=l.flatMap f);rwa [g]at m
  rw [Hv,Nat.succ_mul,Nat.add_comm,<-cG,e1];exact Gi f sz g l i a h
variable{rs:List AV}
theorem Qa(h:BU 5 e v rs.length (Ae rs) s)(hn:rs.length<=maxLen):kX s v rs:=by
 obtain ⟨b,cap,rfl⟩:=h.form;refine ⟨b,cap,V,hn,fun i r G=>?_⟩;obtain ⟨g,B,cur,z,hv,rfl,I,m⟩:=H7 h i (C7.1 G).1;injection hv with hv1 hv2 hv3
 refine ⟨g,0,cur,e,z,hv1,CH.2 V,by omega,?_⟩;rw [Dd];apply J0.1;rw [m];exact Gi _ 5 (fun _=>rfl) rs i r G
def CV(cs:List Chg):List A2:=cs.flatMap (fun c=>[I4 c.t,I4 c.k,.bool c.had,I4 c.o.a,I4 c.o.b,I4 c.o.c,.bool c.has,I4 c.n.a,I4 c.n.b,I4 c.n.c])
theorem RA{rs:List Chg}(h:BU 10 e v rs.length (CV rs) s)(hn:rs.length<=maxLen):CL s v rs:=by
 obtain ⟨b,cap,rfl⟩:=h.form;refine ⟨b,cap,V,hn,fun i r G=>?_⟩;obtain ⟨g,B,cur,z,hv,rfl,I,m⟩:=H7 h i (C7.1 G).1;injection hv with hv1 hv2 hv3
 refine ⟨g,0,cur,e,z,hv1,CH.2 V,by omega,?_⟩;rw [Dd];apply J0.1;rw [m];exact Gi _ 10 (fun _=>rfl) rs i r G
def EQ(hs:List Cw):List A2:=hs.flatMap (fun h=>[I4 h.p,.string (str h.ch),.string (str h.st)])
theorem jZ{rs:List Cw}(h:BU 3 e v rs.length (EQ rs) s)(hn:rs.length<=maxLen):Z9 s v rs:=by
 obtain ⟨b,cap,rfl⟩:=h.form;refine ⟨b,cap,V,hn,fun i r G=>?_⟩;obtain ⟨g,B,cur,z,hv,rfl,I,m⟩:=H7 h i (C7.1 G).1;injection hv with hv1 hv2 hv3
 refine ⟨g,0,cur,e,z,hv1,CH.2 V,by omega,?_⟩;rw [Dd];apply J0.1;rw [m];exact Gi _ 3 (fun _=>rfl) rs i r G
theorem Ma:∀(rs:List AV) (t k:Int),BM rs->∃A B,rs=A++B/\A.length=EA rs t k/\(∀r∈A,r.lt2 t k)/\(∀r∈B,¬r.lt2 t k)
 |[],t,k,_=>⟨[],[],rfl,rfl,by simp,by simp⟩
 |r::rs,t,k,hs=>by
  have g:=SD.1 hs;by_cases h:r.lt2 t k
  · obtain ⟨A,B,m,h2,G,I⟩:=Ma rs t k g.2
    refine ⟨r::A,B,by rw [m];rfl,?_,?_,I⟩
    · unfold EA at*
      rw [S7,Ax (by simpa using h),F2,F2,h2]
    · intro x hx
      rcases DS.1 hx with rfl|hx
      · exact h
      · exact G x hx
  · refine ⟨[],r::rs,rfl,?_,by simp,?_⟩
    · unfold EA
      rw [S7,As (by simpa using h)]
    · intro x hx hc
      rcases DS.1 hx with rfl|hx
      · exact h hc
      · exact h (Qx (g.1 x hx) hc)
variable{k t:Int}
theorem XC{r:AV}(h:r.is t k):¬r.lt2 t k:=by unfold AV.is AV.lt2 at*;omega
theorem Kl{r:AV}(m:BM rs)(K:r∈rs)(h:r.is t k):G8 rs t k=(r,true):=by
 obtain ⟨A,B,g,h2,O,U⟩:=Ma rs t k m;have J:r∈B:=by
  rw [g]at K;rcases CD.1 K with h9|h9
  · exact absurd (O r h9) (XC h)
  · exact h9
 cases B with
 |nil=>cases J
 |cons b B=>
  have X:b=r:=by
   rcases DS.1 J with h9|h9
   · exact h9.symm
   · exfalso
     have G:BM (b::B):=by rw [g]at m;exact (S6.1 m).2.1
     have I:=(SD.1 G).1 r h9;have W:=U b B7
     unfold AV.is at h;rw [h.1,h.2]at I;exact W I
  subst X;have Z:rs[EA rs t k]?=some b:=by rw [<-h2,g,TO (D0 _),W5];rfl
  unfold G8;rw [Z];simp only;rw [Ax h]
theorem R3(h:∀r∈rs,¬r.is t k):G8 rs t k=(AV.zero,false):=by
 unfold G8;split
 · rename_i r hr
   rw [As (h r (Ek hr))]
 · rfl
theorem Jb(h:(G8 rs t k).2=true):∃r∈rs,r.is t k/\rs[EA rs t k]?=some r/\G8 rs t k=(r,true):=by
 unfold G8 at*;split at h
 · rename_i r hr
   split at h
   · rename_i hi
     exact ⟨r,Ek hr,hi,hr,by rw [Ax hi]⟩
   · cases h
 · cases h
def Gd(rs:List AV)(c:Chg):Prop:=(G8 rs c.t c.k).2=c.had/\((G8 rs c.t c.k).2=true->(G8 rs c.t c.k).1.v=c.o)
def OT(c:Chg):List AV:=if c.has then [⟨c.t,c.k,c.n⟩]else []
def ER(rs:List AV)(c:Chg):List AV:=rs.take (EA rs c.t c.k)++OT c++(rs.drop (EA rs c.t c.k)).drop (if c.had then 1 else 0)
variable{c:Chg}
theorem Mi{x:AV}:x∈OT c↔c.has=true/\x=⟨c.t,c.k,c.n⟩:=by
 unfold OT;cases c.has<;>simp
theorem Qj(J:BM rs)(hf:Gd rs c):∃A B,ER rs c=A++OT c++B/\(∀x,x∈rs↔x∈A\/x∈B\/(x∈rs/\x.is c.t c.k))/\BM A/\BM B/\(∀r∈A,r.lt2 c.t c.k)/\(∀r∈B,c.t<r.t\/c.t=r.t/\c.k<r.k)/\rs.length=A.length+B.length+(if c.had then 1 else 0):=by
 obtain ⟨A,B,g,h2,h3,h4⟩:=Ma rs c.t c.k J;have O:BM A:=by rw [g]at J;exact (S6.1 J).1
 have U:BM B:=by rw [g]at J;exact (S6.1 J).2.1
 have af:rs.take (EA rs c.t c.k)=A:=by rw [<-h2,g,J1 rfl]
 have X:rs.drop (EA rs c.t c.k)=B:=by rw [<-h2,g,cF rfl]
 unfold ER;rw [af,X];have G:∀x∈B,¬x.is c.t c.k->c.t<x.t\/c.t=x.t/\c.k<x.k:=fun x hx hn=>by
  have I:=h4 x hx;unfold AV.lt2 at I;unfold AV.is at hn;omega
 cases hh:c.had with
 |false=>
  have Z:∀r∈rs,¬r.is c.t c.k:=fun r K hi=>by
   have I:=hf.1;rw [Kl J K hi,hh]at I;cases I
  refine ⟨A,B,by simp,fun x=>?_,O,U,h3,fun r K=>G r K (Z r (by rw [g];exact HK _ K)),by rw [g];simp⟩;rw [g,CD];constructor
  · rintro (h|h)
    · exact .inl h
    · exact .inr (.inl h)
  · rintro (h|h|⟨h,_⟩)
    · exact .inl h
    · exact .inr h
    · exact h
 |true=>
  obtain ⟨r,K,hi,hp,hg⟩:=Jb (by rw [hf.1,hh]:(G8 rs c.t c.k).2=true);have W:B[0]?=some r:=by rw [<-h2,g,TO (D0 _),W5]at hp;exact hp
  cases B with
  |nil=>cases W
  |cons b B=>
   injection W with W
   subst W;have m:=SD.1 U
   refine ⟨A,B,by simp,fun x=>?_,O,m.2,h3,fun x hx=>?_,by rw [g];simp;omega⟩
   · constructor
     · intro hx
       have ax:=hx;rw [g]at hx;rcases CD.1 hx with h|h
       · exact .inl h
       · rcases DS.1 h with rfl|h
         · exact .inr (.inr ⟨ax,hi⟩)
         · exact .inr (.inl h)
     · rintro (h|h|⟨h,_⟩)
       · rw [g];exact G1 _ h
       · rw [g];exact HK _ (GB _ h)
       · exact h
   · have I:=m.1 x hx
     unfold AV.lt2 at I;unfold AV.is at hi;omega
theorem GM(U:BM rs)(O:Gd rs c)(x:AV):x∈ER rs c↔(x∈rs/\¬x.is c.t c.k)\/(c.has=true/\x=⟨c.t,c.k,c.n⟩):=by
 obtain ⟨A,B,I,h2,_,_,J,K,_⟩:=Qj U O;rw [I,CD,CD,Mi];have m:∀x∈A,¬x.is c.t c.k:=fun x hx hi=>XC hi (J x hx)
 have G:∀x∈B,¬x.is c.t c.k:=fun x hx hi=>by have g:=K x hx;unfold AV.is at hi;omega
 constructor
 · rintro ((h|h)|h)
   · exact .inl ⟨(h2 x).2 (.inl h),m x h⟩
   · exact .inr h
   · exact .inl ⟨(h2 x).2 (.inr (.inl h)),G x h⟩
 · rintro (⟨h,hn⟩|h)
   · rcases (h2 x).1 h with g|g|⟨_,g⟩
     · exact .inl (.inl g)
     · exact .inr g
     · exact absurd g hn
   · exact .inl (.inr h)
theorem JS(X:BM rs)(W:Gd rs c):BM (ER rs c):=by
 obtain ⟨A,B,K,_,O,U,I,J,_⟩:=Qj X W;rw [K];have m:∀a b:AV,a.lt2 c.t c.k->(c.t<b.t\/c.t=b.t/\c.k<b.k)->a.lt2 b.t b.k:=fun a b g G=>by unfold AV.lt2 at*;omega
 refine S6.2 ⟨S6.2 ⟨O,?_,?_⟩,U,?_⟩;· unfold OT;split<;>simp
 · intro a g b G
   obtain ⟨_,rfl⟩:=Mi.1 G;exact I a g
 · intro a g b G
   rcases CD.1 g with g|g
   · exact m a b (I a g) (J b G)
   · obtain ⟨_,rfl⟩:=Mi.1 g
     have:=J b G;unfold AV.lt2;simp only;omega
theorem vd(I:BM rs)(G:Gd rs c):((ER rs c).length:Int)=rs.length+(if c.has then 1 else 0) -(if c.had then 1 else 0):=by
 obtain ⟨A,B,g,_,_,_,_,_,m⟩:=Qj I G;rw [g,m];unfold OT;cases c.has<;>cases c.had<;>simp<;>omega
theorem wQ(B:BM rs)(G:Gd rs c)(I:¬(c.t=t/\c.k=k)):G8 (ER rs c) t k=G8 rs t k:=by
 cases hg:(G8 rs t k).2 with
 |true=>
  obtain ⟨r,m,hi,_,J⟩:=Jb hg;rw [J];exact Kl (JS B G) ((GM B G r).2 (.inl ⟨m,fun h=>by unfold AV.is at h hi;omega⟩)) hi
 |false=>
  have g:∀r∈rs,¬r.is t k:=fun r m hi=>by rw [Kl B m hi]at hg;cases hg
  rw [R3 g];refine R3 fun r m hi=>?_;rcases (GM B G r).1 m with⟨h,_⟩|⟨_,rfl⟩
  · exact g r h hi
  · exact I hi
def DT(rs:List AV)(cs:List Chg):List AV:=cs.foldl ER rs
theorem GJ(rs:List AV)(cs:List Chg)(i:Nat)(c:Chg)(h:cs[i]?=some c):DT rs (cs.take (i+1))=ER (DT rs (cs.take i)) c:=by
 unfold DT;rw [S1,h,X2];rfl
def mw(cs:List Chg):Prop:=∀(i j:Nat) (b c:Chg),i<j->cs[i]?=some b->cs[j]?=some c->b.lt c
theorem rz{a b:Chg}(h:a.lt b)(h2:b.lt c):a.lt c:=by unfold Chg.lt at*;omega
variable{cs:List Chg}
theorem V5(h:∀(i:Nat) (b c:Chg),cs[i]?=some b->cs[i+1]?=some c->b.lt c):mw cs:=by
 intro i j b c g m hc;obtain ⟨d,rfl⟩:∃d,j=i+1+d:=⟨j -(i+1),by omega⟩;clear g;induction d generalizing c with
 |zero=>exact h i b c m hc
 |succ d ih=>
  obtain ⟨x,hx⟩:∃x,cs[i+1+d]?=some x:=by
   have:=(C7.1 hc).1;exact ⟨_,BT A0⟩
  exact rz (ih x hx) (h (i+1+d) x c hx hc)
theorem Km{rs:List AV}{cs:List Chg}(J:BM rs)(G:mw cs)(I:∀c∈cs,Gd rs c):∀i,i<=cs.length->BM (DT rs (cs.take i))/\∀(j:Nat) (c:Chg),i<=j->cs[j]?=some c->Gd (DT rs (cs.take i)) c
 |0,_=>⟨J,fun j c _ hc=>I c (Ek hc)⟩
 |i+1,hi=>by
  obtain ⟨B,h2⟩:=Km J G I i A0;obtain ⟨x,hx⟩:∃x,cs[i]?=some x:=⟨_,BT A0⟩;rw [GJ rs cs i x hx];have g:=h2 i x (D0 _) hx
  refine ⟨JS B g,fun j c O hc=>?_⟩;have m:=G i j x c A0 hx hc
  have K:=h2 j c A0 hc;unfold Gd at*;rw [wQ B g (by unfold Chg.lt at m;omega)];exact K
def Nv(c:Chg):Int:=(if c.has then 1 else 0) -(if c.had then 1 else 0)
def H5(rs:List AV)(cs:List Chg):Int:=cs.foldl (fun n c=>n+Nv c) (rs.length:Int)
theorem IC(rs:List AV)(cs:List Chg)(i:Nat)(c:Chg)(h:cs[i]?=some c):H5 rs (cs.take (i+1))=H5 rs (cs.take i)+Nv c:=by
 unfold H5;rw [S1,h,X2];rfl
theorem A14(c:Chg):-1<=Nv c/\Nv c<=1:=by unfold Nv;split<;>split<;>omega
theorem PT(rs:List AV)(cs:List Chg):∀i,(rs.length:Int) -i<=H5 rs (cs.take i)/\H5 rs (cs.take i)<=rs.length+i
 |0=>by unfold H5;simp
 |i+1=>by
  have m:=PT rs cs i;cases h:cs[i]?with
  |none=>rw [S1,h];simp only [Option.toList,E7];omega
  |some c=>have g:=A14 c;rw [IC rs cs i c h];omega
theorem OV{rs:List AV}{cs:List Chg}(B:BM rs)(g:mw cs)(m:∀c∈cs,Gd rs c):∀i,i<=cs.length->((DT rs (cs.take i)).length:Int)=H5 rs (cs.take i)
 |0,_=>rfl
 |i+1,hi=>by
  obtain ⟨x,hx⟩:∃x,cs[i]?=some x:=⟨_,BT A0⟩;have I:=OV B g m i A0
  obtain ⟨G,h2⟩:=Km B g m i A0;rw [GJ rs cs i x hx,IC rs cs i x hx,vd G (h2 i x (D0 _) hx),I];unfold Nv;omega
structure Ky(rs:List AV)(p rp:Int)(cs:List Chg):Prop where
 ok:Db rp cs
 pos:rp=p+1
 fit:∀c∈cs,Gd rs c
 size:H5 rs cs<=2000
variable{i:Nat}{x:Chg}
theorem Q3(h:∀c∈cs.take i,Gd rs c)(hx:cs[i]?=some x)(g:Gd rs x):∀c∈cs.take (i+1),Gd rs c:=by
 rw [S1,hx];intro c hc;rcases CD.1 hc with h9|h9
 · exact h c h9
 · rw [CH.1 h9];exact g
theorem Bt(a b:List AV):Ae (a++b)=Ae a++Ae b:=by unfold Ae;rw [On]
theorem BG:∀(rs:List AV),(Ae rs).length=rs.length*5
 |[]=>rfl
 |r::rs=>by
  have:=BG rs;unfold Ae at*;rw [Hv,C0,this,F2];simp;omega
theorem EF(rs:List AV)(k:Nat):(Ae rs).take (k*5)=Ae (rs.take k):=by
 rcases Fi rs.length k with h|h
 · rw [Kx (by rw [BG];omega),Kx A0]
 · have e:Ae rs=Ae (rs.take k)++Ae (rs.drop k):=by rw [<-Bt,LO]
   rw [e,J1 (by rw [BG,Cd];omega)]
theorem Dr(rs:List AV)(k:Nat):(Ae rs).drop (k*5)=Ae (rs.drop k):=by
 rcases Fi rs.length k with h|h
 · rw [Vc (by rw [BG];omega),Vc A0];rfl
 · have e:Ae rs=Ae (rs.take k)++Ae (rs.drop k):=by rw [<-Bt,LO]
   rw [e,cF (by rw [BG,Cd];omega)]
theorem CX(rs:List AV):∀u∈Ae rs,u.oneCell'=true:=by
 intro u g;unfold Ae at g;obtain ⟨r,_,h⟩:=Tr.1 g;simp only [DS,PA,PF]at h;rcases h with rfl|rfl|rfl|rfl|rfl<;>rfl
theorem BZ{n n':Nat}{xs':List A2}(h:BU sz e v n xs s)(hn:n=n')(hx:xs=xs'):BU sz e v n' xs' s:=by subst hn hx;exact h
theorem Eo{b:BE}{n c:Nat}(h:BU sz e (.slice b n c) n xs s):n<=c:=by
 obtain ⟨_,⟨hv,h0,_⟩|⟨_,_,_,_,hv,_,h2,_⟩⟩:=h;· omega
 · injection hv with _ _ hv3;omega
theorem Vz(sz:Nat)(b:BE)(c:Nat):Lr sz (.slice b 0 c) 0 [] []:=⟨by simp,.inl ⟨rfl,b,c,rfl⟩⟩
theorem Cu(sz g k c:Nat)(e:AM)(z:Nat×Nat)(xs:List A2)(h:xs.length=k*sz):Lr sz (I6 g k c) k xs [(g,.cells xs.toArray e z)]:=
 ⟨h,.inr ⟨g,0,c,xs.toArray,e,z,rfl,rfl,by unfold Bq;rw [SU];simp⟩⟩
theorem YG(h:c.has=true):OT c=[⟨c.t,c.k,c.n⟩]:=Ax h
theorem YH(h:c.has=false):OT c=[]:=As (by rw [h];decide)
theorem tm(hx:cs[i]?=some x)(g:x.had=true)(h2:x.has=true):H5 rs (cs.take (i+1))=H5 rs (cs.take i) -1+1:=by rw [IC rs cs i x hx];unfold Nv;rw [Ax h2,Ax g];omega
theorem tp(hx:cs[i]?=some x)(g:x.had=true)(h2:x.has=false):H5 rs (cs.take (i+1))=H5 rs (cs.take i) -1:=by rw [IC rs cs i x hx];unfold Nv;rw [As (by rw [h2];decide),Ax g];omega
theorem tq(hx:cs[i]?=some x)(g:x.had=false)(h2:x.has=true):H5 rs (cs.take (i+1))=H5 rs (cs.take i)+1:=by rw [IC rs cs i x hx];unfold Nv;rw [Ax h2,As (by rw [g];decide)];omega
theorem tr(hx:cs[i]?=some x)(g:x.had=false)(h2:x.has=false):H5 rs (cs.take (i+1))=H5 rs (cs.take i):=by rw [IC rs cs i x hx];unfold Nv;rw [As (by rw [h2];decide),As (by rw [g];decide)];omega
theorem A32(sp:Nat)(p rp:Int)(v:A2)(rs:List AV)(sv M:List A8)(q:BE)(ax:Nat)(cs:List Chg)(gm:BU 5 83 v rs.length (Ae rs) sv)(hO:CL M (.slice q cs.length ax) cs)(hs:BM rs)(hn:rs.length<=2000)(hp:0<=p/\p<=10000):
 BS prog 27 #[I5 sp,.agg #[I4 rp,.slice q cs.length ax]] [[(sp,.cells #[v,I4 p] 87 (0,0))],sv,M] (fun r H'=>(Ky rs p rp cs/\∃v' p8,r=I4 0/\BU 5 83 v' (DT rs cs).length (Ae (DT rs cs)) p8/\H'=[[(sp,.cells #[v',I4 rp] 87 (0,0))],p8,M])\/(¬Ky rs p rp cs/\r=I4 40/\H'=[[(sp,.cells #[v,I4 p] 87 (0,0))],sv,M])):=by
 have qx:=mL;obtain ⟨qv,l5,rfl⟩:=gm.form;have pg:=Qa gm A0
 obtain ⟨p9,qh,e9,qz,hg⟩:=id hO;injection e9 with e91 e92 e93
 subst e91 e93;refine Se func27 ntmps27 [0,1] ?_;intro u R;refine A3<|Ze (Bx #[_,_])<|AF fun rb=>AH Y<|A3<|Zo Wh (Pa #[_,_] HN E0 Y) ?_;refine Xr [_] Y call72 Y V (oD rp q ax cs M hO) ?_;refine CT Y<|Zq<|Ay (n:=12) (0::1::3::7::15::7::39::103::231::487::1023::2047::[]) 0 AD AD V<|A1 0 V (AP Y)<|A1 1 V (CG Y)<|A1 2 V (AP Y)<|Cs (t:=23) Y (fun hv=>?_) (fun hv=>?_);·
  rw [DE hv];refine AW 3 V<|AW 4 V<|AW 5 V<|AW 6 V<|AW 7 V<|AW 8 V<|AW 9 V<|AW 10 V<|A1 11 V (AU Y Y)<|Aq<|Zn [0,3,32] ?_;refine Zx<|Cy Y<|A3<|An Y<|Zt<|AO V jx Y (by exact .inr ⟨fun h=>hv h.ok,V,V⟩)
 rw [DQ hv];refine B4 3 V (AB (off:=0) GS V rfl A6 Y)<|FF 4 V Wh (BK AE Y B1) ?_;refine B4 5 V (AP Y)<|B4 6 V (Ao Y V)<|B4 7 V (AB (off:=1) Mz V rfl A6 Y)<|FF 8 V Wh (BK AE Y B1) ?_
 (refine B4 9 rfl (J6 Y Y (IntWalk.i64_in _ ?_)) ?_;(focus (omega)))
 refine B4 10 V (I8 Y Y)<|A1 11 V (AJ Y Y)<|Aq<|Zn [0,3,32] ?_;refine Zx<|Ak Y (fun ek=>?_) (fun ek=>?_);·
  refine A3<|An Y<|Zt<|AO V jx Y (by exact .inr ⟨fun h=>ek h.pos,V,V⟩)
 refine B3<|Zq ?_;have kv:=HP.1 hv
 have qa:=HP.1 ek;have qj:=kv.len
 have ic:=V5 kv.ord;refine Zg<|Zm Y<|Zp Y V<|Zh 0 Mz V rfl E3 Y<|Zl GP Y ?_;refine Zv (AR C2 Y)<|CT Y<|A3<|AH Y<|AQ<|Zb [6,7,0,3] ?_;refine Aw (e0:=[(6,_),(7,_)]) (fun m e H=>∃(i:Nat),m=cs.length -i/\(i<=cs.length/\(∀c∈cs.take i,Gd rs c))/\e=[(6,I4 (H5 rs (cs.take i))),(7,I4 (i:Int))]/\H=[]) (by exact ⟨0,V,⟨CM _,by simp⟩,V,V⟩) Wp ?_;rintro _ _ _ ⟨i,rfl,⟨hi,K⟩,rfl,rfl⟩;have o8:=PT rs cs i
 refine B8 Y<|Zh 1 GS V rfl Kf Y<|Zl MA Y ?_;refine Zv (AR GO Y)<|Zv (Ap Y Y)<|A4<|Ak Y (fun cO=>?_) (fun cO=>?_);·
  refine B3<|Zq<|AQ<|Zq ?_;obtain ⟨x,hx⟩:∃x,cs[i]?=some x:=⟨_,BT cO⟩;obtain ⟨g,off,cur,T,zz,rfl,hm,qb,j5⟩:=hg i x hx;refine Zg<|Zh 1 GS V rfl Kf Y<|Zl MA Y ?_;refine Zm Y<|BX (AZ GO Cl Y Y A0)<|Bu (cs:=[(g,.cells cur T zz)]) (by simp [hm]) (A9 (cs:=x.BM3) HD Cl Y A0 j5) V rfl ?_;refine Ze (Al N1 #[_,_,_,_,_,_,_,_,_,_])<|AF fun cb=>Xe (Xw Cl x.BM3) ?_;refine A4<|AK Y<|Zh 0 CC V rfl A6 Y<|Zl AE Y ?_;refine Zh 1 CC V rfl A6 Y<|Zl AE Y ?_;refine Xr [_,_,_] Y call26 Y V (ut sp qv l5 p x.t x.k rs sv pg A0 hs) ?_;obtain ⟨gr,cu⟩:∃gr,gr=G8 rs x.t x.k:=⟨_,rfl⟩;rw [<-cu];refine Zm Y<|Zd Y V<|Zd Y V<|Ze (Al Ft #[_,_,_,_,_])<|AF fun xb=>Xe (Xw B6 #[I4 gr.1.t,I4 gr.1.k,I4 gr.1.v.a,I4 gr.1.v.b,I4 gr.1.v.c]) ?_;refine B2 Y<|Zn [0,3,6,7,8,9,10] ?_;refine Zx<|B8 Y<|Zh 2 CC V rfl F1 Y<|Zl G0 Y ?_;refine Zv (LH N6 Y Y)<|Zm Y<|Af (t:=63) Y V (fun gq=>?_) (fun gq=>?_);·
   refine AG<|AG<|AG<|AG<|C1 Y Y<|Z0<|Zn [0,3,6,7,8,72] ?_;refine Zx<|Cy Y<|A3<|An Y<|Zt<|Ag<|Zt<|Zt<|Ag<|Zt<|AO rfl jx Y (by exact .inr ⟨fun h=>by have h9:=(h.fit x (Ek hx)).1;rw [<-cu]at h9;exact gq h9,rfl,rfl⟩)
  refine Zf Y Y<|Zf Y Y ?_;refine Ad (t:=65) Y V (fun gy=>?_) (fun gy=>?_);focus
   refine Yf 2 HC V rfl E4 Y<|D6 Y Wh (Pa #[_,_,_] Hb E4 Y) V rfl ?_;refine Yf 3 CC V rfl E4 Y<|D6 Y Wh (A9 (cs:=#[_,_,_]) Hb E4 Y B5 B1) V rfl ?_;refine Yg (LJ AD K1 D3 AE A6 Y Y) ?_;refine Yg (AU Y Y)<|B9 Y Y<|Z0<|Zn [0,3,6,7,8,72] ?_;refine Zx<|Ak Y (fun j3=>?_) (fun j3=>?_);·
    refine A3<|An Y<|Zt<|Ag<|Zt<|Zt<|Ag<|Zt<|AO rfl jx Y (by exact .inr ⟨fun h=>by have h9:=(h.fit x (Ek hx)).2;rw [<-cu]at h9;exact j3 (h9 gy),rfl,rfl⟩)
   focus
    refine B3<|Zq<|Zq ?_;have X:Gd rs x:=by
     unfold Gd;rw [<-cu];refine ⟨by simpa using gq,fun h=>?_⟩;exact HP.1 j3
  rotate_left
  focus
   refine AG<|AG<|C4<|Yg (AJ Y Y)<|B9 Y Y<|Z0<|Zn [0,3,6,7,8,72] ?_;refine Zx<|Df Y<|B3<|Zq<|Zq ?_;have X:Gd rs x:=by
    unfold Gd;rw [<-cu];refine ⟨by simpa using gq,fun h=>?_⟩
    (rw [h]at gy;cases gy)
  all_goals
   refine Zg<|Zh 2 CC V rfl F1 Y<|Zl G0 Y ?_;refine A4<|AY Y (fun G=>?_) (fun G=>?_);·
    refine Zg<|Zm Y ?_
    (refine BX (GZ Y Y (IntWalk.i64_in _ ?_)) ?_;(focus (omega)))
    refine AH Y<|A3<|Zh 6 CC V rfl F1 Y<|Zl G0 Y ?_;refine A4<|AY Y (fun B=>?_) (fun B=>?_);·
     refine Zg<|Zm Y<|Yi Y Y<|B2 Y<|AA<|Zx<|Zg<|Zm Y<|Ya (n:=1) Y Y<|B2 Y<|DG (e:=[(6,_),(7,_)]) (h:=by exact ⟨i+1,rfl,⟨by omega,Q3 K hx X⟩,by rw [tm hx G B],rfl⟩)
    refine AC<|AA<|Zx<|Zg<|Zm Y<|Ya (n:=1) Y Y<|B2 Y<|DG (e:=[(6,_),(7,_)]) (h:=by exact ⟨i+1,rfl,⟨by omega,Q3 K hx X⟩,by rw [tp hx G B],rfl⟩)
   refine AC<|C6<|Zh 6 CC V rfl F1 Y<|Zl G0 Y ?_;refine A4<|AY Y (fun B=>?_) (fun B=>?_);·
    refine Zg<|Zm Y<|Yi Y Y<|B2 Y<|AA<|Zx<|Zg<|Zm Y<|Ya (n:=1) Y Y<|B2 Y<|DG (e:=[(6,_),(7,_)]) (h:=by exact ⟨i+1,rfl,⟨by omega,Q3 K hx X⟩,by rw [tq hx G B],rfl⟩)
   refine AC<|AA<|Zx<|Zg<|Zm Y<|Ya (n:=1) Y Y<|B2 Y<|DG (e:=[(6,_),(7,_)]) (h:=by exact ⟨i+1,rfl,⟨by omega,Q3 K hx X⟩,by rw [tr hx G B],rfl⟩)
 have ei:i=cs.length:=by omega
 subst ei;rw [HE]at K o8⊢;refine BA<|Zt<|Zt<|AX<|Zx<|B8 Y<|Zv (F4 Y Y)<|A4<|Ak Y (fun l8=>?_) (fun l8=>?_);·
  refine A3<|An Y<|Zt<|AO V jx Y (by exact .inr ⟨fun h=>by have h9:=h.size;omega,V,V⟩)
 refine B3<|Zq<|A3<|AH Y<|AQ<|Zb [11,0,3] ?_;refine Aw (e0:=[(11,_)]) (fun m e H=>∃(i:Nat) (w:A2) (sw:List A8),m=cs.length -i/\(i<=cs.length/\BU 5 83 w (DT rs (cs.take i)).length (Ae (DT rs (cs.take i))) sw)/\e=[(11,I4 (i:Int))]/\H=[[(sp,.cells #[w,I4 p] 87 (0,0))],sw]) (by exact ⟨0,_,sv,V,⟨CM _,gm⟩,V,V⟩) Wp ?_;rintro _ _ _ ⟨i,w,sw,rfl,⟨hi,J⟩,rfl,rfl⟩;obtain ⟨o9,l9⟩:=Km hs ic K i hi;have q9:=OV hs ic K i hi
 have o8:=PT rs cs i;obtain ⟨qs,gQ⟩:∃qs,qs=DT rs (cs.take i):=⟨_,rfl⟩;rw [<-gQ]at J o9 q9 l9;obtain ⟨qw,bn,rfl⟩:=J.form;have ql:=Eo J
 have pq:=Qa J A0;refine B8 Y<|Zh 1 GS V rfl Kf Y<|Zl MA Y ?_;refine Zv (AR GO Y)<|Zv (Ap Y Y)<|A4<|Ak Y (fun cO=>?_) (fun cO=>?_);·
  refine B3<|Zq<|AQ<|Zq ?_;obtain ⟨x,hx⟩:∃x,cs[i]?=some x:=⟨_,BT cO⟩;obtain ⟨g,off,cur,T,zz,rfl,hm,qb,j5⟩:=hg i x hx;have X:=l9 i x (D0 _) hx
  have d9:=Wd qs x.t x.k;have I:ER qs x=qs.take (EA qs x.t x.k)++OT x++(qs.drop (EA qs x.t x.k)).drop (if x.had then 1 else 0):=rfl
  obtain ⟨k,hk⟩:∃k,k=EA qs x.t x.k:=⟨_,rfl⟩;have pz:x.had=true->k<qs.length:=fun h=>by
   obtain ⟨r,_,_,h9,_⟩:=Jb (by rw [X.1,h]:(G8 qs x.t x.k).2=true);rw [<-hk]at h9;exact (C7.1 h9).1
  rw [<-hk]at d9 I;refine Zg<|Zh 1 GS V rfl Kf Y<|Zl MA Y ?_;refine Zm Y<|BX (AZ GO Cl Y Y A0)<|Bu (cs:=[(g,.cells cur T zz)]) (by simp [hm]) (A9 (cs:=x.BM3) HD Cl Y A0 j5) V rfl ?_;refine Ze (Al N1 #[_,_,_,_,_,_,_,_,_,_])<|AF fun cb=>Xe (Xw Cl x.BM3) ?_;refine A4<|AK Y<|Zh 0 CC V rfl A6 Y<|Zl AE Y ?_;refine Zh 1 CC V rfl A6 Y<|Zl AE Y ?_;refine Xr [_,_,_] Y call71 Y V (aS sp qw bn p x.t x.k qs sw pq A0 o9) ?_;rw [<-hk];refine B2 Y<|Zn [0,3,11,12,13] ?_;refine Zx<|AK Y<|Zp Y V<|Zh 0 Mz V rfl E3 Y<|Zl GP Y ?_;refine Zm Y<|BX (Bz C2 B6 Y Y A0)<|CT Y<|A3<|Zh 2 CC V rfl F1 Y<|Zl G0 Y ?_;refine A4<|AY Y (fun G=>?_) (fun G=>?_);focus
   have qo:=pz G;refine Zg<|Zm Y<|BX (Bz (l:=1) C2 B6 Y Y A0)<|AH Y<|A3<|B2 Y<|Zn [0,3,11,12,13,14,15] ?_;refine C6<|Zo Wh (Pa #[_,_,_,_,_,_,_,_,_,_] HD Cl Y) ?_;refine Xr [_] Y call73 Y V (Tj x) ?_;refine Zm Y<|Zd Y V<|Zd Y V<|Ze (Al Ft #[_,_,_,_,_])<|AF fun xb=>Xe (Xw B6 x.after.BM4) ?_;refine AH Y<|B8 Y<|A4<|AY Y (fun B=>?_) (fun B=>?_);focus
    refine Zg<|Zo Wh (Pa #[_,_,_,_,_] DM B6 Y) ?_;refine Ze (Ah (vs:=[_]) (cs:=[_,_,_,_,_]) C2 B6 Ft Y V rfl V rfl V)<|AF fun gb=>AH Y<|A3<|B2 Y<|Zn [0,3,11,13,14,15,18] ?_;refine Zx<|Zq<|Bc<|Zg<|Zm Y<|Zm Y<|Zp Y V<|Zh 0 Mz V rfl E3 Y<|Zl GP Y ?_;refine Zm Y<|BX (Bn C2 B6 Y Y A0)<|Ze (BP (by_:=40) (sz:=5) C2 (V:Tryz.prog.info? 83=some Tryz.t83) V rfl V rfl Y (Bh 5 _) Y (KQ J k _ d9) Wo Wo (by exact fun u Z=>CX qs u (RW Z)) A0 A0) ?_;rintro _ _ ⟨sa,O,rfl⟩;obtain ⟨ga,ca,rfl⟩:=O.form;refine Zm Y<|Ze (BP (by_:=40) (sz:=5) C2 (V:Tryz.prog.info? 83=some Tryz.t83) V rfl V rfl Y (O) Y (Cu 5 gb 1 1 83 (0,0) (Ae [x.after]) V) Wo Wo (by exact CX _) A0 A0) ?_;rintro _ _ ⟨sb,U,rfl⟩;obtain ⟨gb,cb,rfl⟩:=U.form;refine Zm Y<|Ze (BP (by_:=40) (sz:=5) C2 (V:Tryz.prog.info? 83=some Tryz.t83) V rfl V rfl Y (U) Y (ZQ (KR J k (qs.length -k) (bn -k) A0) 1 (qs.length -k -1) _ A0 A0) Wo Wo (by exact fun u Z=>CX qs u (MT (MT Z))) A0 A0) ?_;rintro _ _ ⟨sc,W,rfl⟩;have af:=BZ W (n':=(ER qs x).length) (xs':=Ae (ER qs x)) (by rw [I,YG B,Ax G,C0,C0,Cd,Cp,Cp];simp only [F2,MY];omega) (by rw [I,YG B,Ax G,Bt,Bt,<-EF,<-Dr (qs.drop k) 1,<-Dr];rw [KC B];rfl)
   rotate_left
   focus
    refine Bc<|AC<|C6<|CT Y<|Bc<|Zg<|Zm Y<|Zm Y<|Zp Y V<|Zh 0 Mz V rfl E3 Y<|Zl GP Y ?_;refine Zm Y<|BX (Bn C2 B6 Y Y A0)<|Ze (BP (by_:=40) (sz:=5) C2 (V:Tryz.prog.info? 83=some Tryz.t83) V rfl V rfl Y (Bh 5 _) Y (KQ J k _ d9) Wo Wo (by exact fun u Z=>CX qs u (RW Z)) A0 A0) ?_;rintro _ _ ⟨sa,O,rfl⟩;obtain ⟨ga,ca,rfl⟩:=O.form;refine Zm Y<|Ze (BP (by_:=40) (sz:=5) C2 (V:Tryz.prog.info? 83=some Tryz.t83) V rfl V rfl Y (O) Y (Vz 5 none 0) Wo Wo B7 A0 A0) ?_;rintro _ _ ⟨sb,U,rfl⟩;obtain ⟨gb,cb,rfl⟩:=U.form;refine Zm Y<|Ze (BP (by_:=40) (sz:=5) C2 (V:Tryz.prog.info? 83=some Tryz.t83) V rfl V rfl Y (U) Y (ZQ (KR J k (qs.length -k) (bn -k) A0) 1 (qs.length -k -1) _ A0 A0) Wo Wo (by exact fun u Z=>CX qs u (MT (MT Z))) A0 A0) ?_;rintro _ _ ⟨sc,W,rfl⟩;have af:=BZ W (n':=(ER qs x).length) (xs':=Ae (ER qs x)) (by rw [I,YH B,Ax G,C0,C0,Cd,Cp,Cp];simp only [F2,MY];omega) (by rw [I,YH B,Ax G,Bt,Bt,<-EF,<-Dr (qs.drop k) 1,<-Dr];rfl)
  rotate_left 2
  focus
   refine AC<|C6<|AH Y<|A3<|Zo Wh (Pa #[_,_,_,_,_,_,_,_,_,_] HD Cl Y) ?_;refine Xr [_] Y call73 Y V (Tj x) ?_;refine Zm Y<|Zd Y V<|Zd Y V<|Ze (Al Ft #[_,_,_,_,_])<|AF fun xb=>Xe (Xw B6 x.after.BM4) ?_;refine B2 Y<|Zn [0,3,11,13,14,15,16,17] ?_;refine Zx<|B8 Y<|A4<|AY Y (fun B=>?_) (fun B=>?_);focus
    refine Zg<|Zo Wh (Pa #[_,_,_,_,_] DM B6 Y) ?_;refine Ze (Ah (vs:=[_]) (cs:=[_,_,_,_,_]) C2 B6 Ft Y V rfl V rfl V)<|AF fun gb=>AH Y<|A3<|CT Y<|Bc<|Zg<|Zm Y<|Zm Y<|Zp Y V<|Zh 0 Mz V rfl E3 Y<|Zl GP Y ?_;refine Zm Y<|BX (Bn C2 B6 Y Y A0)<|Ze (BP (by_:=40) (sz:=5) C2 (V:Tryz.prog.info? 83=some Tryz.t83) V rfl V rfl Y (Bh 5 _) Y (KQ J k _ d9) Wo Wo (by exact fun u Z=>CX qs u (RW Z)) A0 A0) ?_;rintro _ _ ⟨sa,O,rfl⟩;obtain ⟨ga,ca,rfl⟩:=O.form;refine Zm Y<|Ze (BP (by_:=40) (sz:=5) C2 (V:Tryz.prog.info? 83=some Tryz.t83) V rfl V rfl Y (O) Y (Cu 5 gb 1 1 83 (0,0) (Ae [x.after]) V) Wo Wo (by exact CX _) A0 A0) ?_;rintro _ _ ⟨sb,U,rfl⟩;obtain ⟨gb,cb,rfl⟩:=U.form;refine Zm Y<|Ze (BP (by_:=40) (sz:=5) C2 (V:Tryz.prog.info? 83=some Tryz.t83) V rfl V rfl Y (U) Y (KR J k (qs.length -k) _ A0) Wo Wo (by exact fun u Z=>CX qs u (MT Z)) A0 A0) ?_;rintro _ _ ⟨sc,W,rfl⟩;have af:=BZ W (n':=(ER qs x).length) (xs':=Ae (ER qs x)) (by rw [I,YG B,As (by rw [G];decide),C0,C0,Cd,Cp,Cp];simp only [F2,MY];omega) (by rw [I,YG B,As (by rw [G];decide),Bt,Bt,<-EF,<-Dr (qs.drop k) 0,<-Dr,dt,SU];rw [KC B];rfl)
   rotate_left
   focus
    refine Bc<|AC<|C6<|CT Y<|Bc<|Zg<|Zm Y<|Zm Y<|Zp Y V<|Zh 0 Mz V rfl E3 Y<|Zl GP Y ?_;refine Zm Y<|BX (Bn C2 B6 Y Y A0)<|Ze (BP (by_:=40) (sz:=5) C2 (V:Tryz.prog.info? 83=some Tryz.t83) V rfl V rfl Y (Bh 5 _) Y (KQ J k _ d9) Wo Wo (by exact fun u Z=>CX qs u (RW Z)) A0 A0) ?_;rintro _ _ ⟨sa,O,rfl⟩;obtain ⟨ga,ca,rfl⟩:=O.form;refine Zm Y<|Ze (BP (by_:=40) (sz:=5) C2 (V:Tryz.prog.info? 83=some Tryz.t83) V rfl V rfl Y (O) Y (Vz 5 none 0) Wo Wo B7 A0 A0) ?_;rintro _ _ ⟨sb,U,rfl⟩;obtain ⟨gb,cb,rfl⟩:=U.form;refine Zm Y<|Ze (BP (by_:=40) (sz:=5) C2 (V:Tryz.prog.info? 83=some Tryz.t83) V rfl V rfl Y (U) Y (KR J k (qs.length -k) _ A0) Wo Wo (by exact fun u Z=>CX qs u (MT Z)) A0 A0) ?_;rintro _ _ ⟨sc,W,rfl⟩;have af:=BZ W (n':=(ER qs x).length) (xs':=Ae (ER qs x)) (by rw [I,YH B,As (by rw [G];decide),C0,C0,Cd,Cp,Cp];simp only [F2,MY];omega) (by rw [I,YH B,As (by rw [G];decide),Bt,Bt,<-EF,<-Dr (qs.drop k) 0,<-Dr,dt,SU];rfl)
  all_goals
   obtain ⟨gc,cc,rfl⟩:=W.form;refine B2 Y<|Zn [0,3,11,18] ?_;refine Zx<|Zg<|Zm Y<|Zm Y<|Zp Y V<|Zh 0 Mz V rfl E3 Y<|Xe (Zs E3 Y Y V) ?_;refine Z0<|AA<|Zx<|Zg<|Zm Y<|Ya (n:=1) Y Y<|B2 Y<|DG (e:=[(11,_)]) (h:=by exact ⟨i+1,_,_,rfl,⟨by omega,by rw [GJ rs cs i x hx,<-gQ];exact af⟩,rfl,rfl⟩)
 have ei:i=cs.length:=by omega
 subst ei;rw [HE]at gQ;refine BA<|Zt<|Zt<|AX<|Zx<|AK Y<|Zh 0 GS V rfl A6 Y<|Zl AE Y ?_;refine Zp Y V<|Zh 1 Mz V rfl A6 Y<|Xe (Zs A6 Y Y V) ?_;refine A4<|A3<|An Y<|AO rfl jx Y (by exact .inl ⟨⟨kv,qa,K,by omega⟩,_,sw,rfl,by rw [<-gQ];exact J,rfl⟩)
structure BF where
 p:Int
 q:BE
 cap:Nat
 cs:List Chg
def Da(l:List BF):List A2:=l.flatMap (fun r=>[I4 r.p,.slice r.q r.cs.length r.cap])
def Dx(M:List A8)(v:A2)(l:List BF):Prop:=∃p cap,v= .slice p l.length cap/\(l.length<=maxLen/\l.length<=cap)/\∀(i:Nat) (r:BF),l[i]?=some r->CL M (.slice r.q r.cs.length r.cap) r.cs/\∃g off cur T zz,p=some ⟨g,off,none⟩/\(g,Obj.cells cur T zz)∈M/\off+i*2+2<=cur.size/\cur.extract (off+i*2) (off+i*2+2)=#[I4 r.p,.slice r.q r.cs.length r.cap]
def BQ(l:List BF):List AV:=l.foldl (fun rs r=>DT rs r.cs) []
theorem Gt(l:List BF)(r:BF):BQ (l++[r])=DT (BQ l) r.cs:=by unfold BQ;rw [X2];rfl
def EY(l:List BF):Prop:=∀(i:Nat) (r:BF),l[i]?=some r->Ky (BQ (l.take i)) (i:Int) r.p r.cs/\r.cs.length<=3
theorem kS{p rp:Int}(B:BM rs)(h:Ky rs p rp cs):BM (DT rs cs)/\(DT rs cs).length<=2000:=by
 have m:=V5 h.ok.ord;obtain ⟨g,_⟩:=Km B m h.fit cs.length (D0 _);have h2:=OV B m h.fit cs.length (D0 _)
 rw [HE]at g h2;exact ⟨g,by have:=h.size;omega⟩
theorem EY.rows{l:List BF}(h:EY l):∀i,i<=l.length->BM (BQ (l.take i))/\(BQ (l.take i)).length<=2000
 |0,_=>⟨List.Pairwise.nil,CM _⟩
 |i+1,hi=>by
  obtain ⟨r,g⟩:∃r,l[i]?=some r:=⟨_,BT A0⟩;have m:=EY.rows h i A0
  rw [S1,g];show BM (BQ (l.take i++[r]))/\_
  rw [show(some r).toList=[r] from rfl,Gt];exact kS m.1 (h i r g).1
theorem EY.all{l:List BF}(h:EY l):BM (BQ l)/\(BQ l).length<=2000:=by
 have:=h.rows l.length (D0 _);rwa [HE]at this
theorem EY.snoc{l:List BF}(h:EY l){r:BF}(B:Ky (BQ l) (l.length:Int) r.p r.cs)(m:r.cs.length<=3):EY (l++[r]):=by
 intro i x hx;rw [sB]at hx;split at hx
 · rename_i hi
   rw [de A0];exact h i x hx
 · rename_i hi
   have g:=(C7.1 hx).1;simp only [GC]at g;have e:i=l.length:=by omega
   subst e;rw [W5]at hx;injection hx with hx
   subst hx;rw [J1 rfl];exact ⟨B,m⟩
theorem FR:∀(cs:List Chg),(CV cs).length=cs.length*10
 |[]=>rfl
 |c::cs=>by
  have:=FR cs;unfold CV at*;rw [Hv,C0,this,F2];simp;omega
theorem JG(a b:List Chg):CV (a++b)=CV a++CV b:=by unfold CV;rw [On]
theorem Vf(cs:List Chg)(k:Nat):(CV cs).take (k*10)=CV (cs.take k):=by
 rcases Fi cs.length k with h|h
 · rw [Kx (by rw [FR];omega),Kx A0]
 · have e:CV cs=CV (cs.take k)++CV (cs.drop k):=by rw [<-JG,LO]
   rw [e,J1 (by rw [FR,Cd];omega)]
theorem Vg(cs:List Chg)(k:Nat):(CV cs).drop (k*10)=CV (cs.drop k):=by
 rcases Fi cs.length k with h|h
 · rw [Vc (by rw [FR];omega),Vc A0];rfl
 · have e:CV cs=CV (cs.take k)++CV (cs.drop k):=by rw [<-JG,LO]
   rw [e,cF (by rw [FR,Cd];omega)]
theorem Q8(cs:List Chg):∀u∈CV cs,u.oneCell'=true:=by
 intro u g;unfold CV at g;obtain ⟨r,_,h⟩:=Tr.1 g;simp only [DS,PA,PF]at h;rcases h with rfl|rfl|rfl|rfl|rfl|rfl|rfl|rfl|rfl|rfl<;>rfl
theorem yP{cur:AN}{j:Nat}{y:Chg}(h:Bq cur 0 (CV cs))(hy:cs[j]?=some y):cur[j*10]?=some (I4 y.t)/\cur[j*10+1]?=some (I4 y.k):=by
 have m:=Gi (fun c:Chg=>[I4 c.t,I4 c.k,.bool c.had,I4 c.o.a,I4 c.o.b,I4 c.o.c,.bool c.has,I4 c.n.a,I4 c.n.b,I4 c.n.c]) 10 (fun _=>rfl) cs j y hy;have e:∀q,((CV cs).drop (j*10)).take 10=[I4 y.t,I4 y.k,.bool y.had,I4 y.o.a,I4 y.o.b,I4 y.o.c,.bool y.has,I4 y.n.a,I4 y.n.b,I4 y.n.c]->q<10->(CV cs)[j*10+q]?=([I4 y.t,I4 y.k,.bool y.had,I4 y.o.a,I4 y.o.b,I4 y.o.c,.bool y.has,I4 y.n.a,I4 y.n.b,I4 y.n.c]:List A2)[q]?:=fun q B G=>by
  rw [<-B,HR,Ax G,Pc]
 have a0:=h.get (j*10+0) _ ((e 0 m A0).trans rfl);have g:=h.get (j*10+1) _ ((e 1 m A0).trans rfl)
 rw [Dd]at a0 g;exact ⟨a0,g⟩
theorem K7{M:List A8}(h:CL M v cs)(s:List A8):CL (M++s) v cs:=by
 obtain ⟨p,cap,hv,I,G⟩:=h;refine ⟨p,cap,hv,I,fun i c hc=>?_⟩;obtain ⟨g,off,cur,T,zz,m,h2,B⟩:=G i c hc;exact ⟨g,off,cur,T,zz,m,G1 _ h2,B⟩
theorem Ho{M:List A8}(h:CL M v cs)(s:List A8):CL (s++M) v cs:=by
 obtain ⟨p,cap,hv,I,G⟩:=h;refine ⟨p,cap,hv,I,fun i c hc=>?_⟩;obtain ⟨g,off,cur,T,zz,m,h2,B⟩:=G i c hc;exact ⟨g,off,cur,T,zz,m,HK _ h2,B⟩
def XX(M:List A8)(v:A2)(xs:List (List Int)):Prop:=∃p cap,v= .slice p xs.length cap/\(xs.length<=maxLen/\xs.length<=cap)/\∀(i:Nat) (z:List Int),xs[i]?=some z->z.length=6/\(∀n∈z,-9223372036854775808<=n/\n<=9223372036854775807)/\∃g off cur T zz,p=some ⟨g,off,none⟩/\(g,Obj.cells cur T zz)∈M/\∀(j:Nat) (n:Int),z[j]?=some n->cur[off+i*6+j]?=some (I4 n)
theorem KU{l:List BF}{G:List A8}(h:BU 2 55 v l.length (Da l) s)(hn:l.length<=maxLen)(J:∀r∈l,CL G (.slice r.q r.cs.length r.cap) r.cs):Dx (s++G) v l:=by
 obtain ⟨b,cap,rfl⟩:=h.form;refine ⟨b,cap,V,⟨hn,Eo h⟩,fun i r B=>⟨Ho (J r (Ek B)) s,?_⟩⟩;obtain ⟨g,I,cur,z,hv,rfl,K,m⟩:=H7 h i (C7.1 B).1;injection hv with hv1 hv2 hv3
 refine ⟨g,0,cur,55,z,hv1,G1 _ (CH.2 V),by omega,?_⟩;rw [Dd];apply J0.1;rw [m];exact Gi _ 2 (fun _=>rfl) l i r B
theorem JD(a b:List BF):Da (a++b)=Da a++Da b:=by unfold Da;rw [On]
theorem xT:BS prog 25 #[] [] (fun r H'=>∃g,r=I5 g/\H'=[[(g,.cells #[.slice none 0 0,I4 0] 87 (0,0))]]):=by
 refine Se func25 ntmps25 [] ?_;intro u R;refine A3<|AH Y<|A3<|Zv (BN (vs:=[]) (cs:=#[_,_]) Y (Aa (pl:=#[(0,1),(1,1)]) zeroValue87 Mz (fun _=>by kernel_rfl) V))<|Ze (Bx #[_,_])<|AF fun g=>An Y<|AO V results25 Y (by exact ⟨g,V,V⟩)
def K2(k:Int×Int):A2:= .agg #[I4 k.1,I4 k.2]
def KD(k:Int×Int):Prop:=(Lit.int .i64 k.1).wf=true/\(Lit.int .i64 k.2).wf=true
def TW(r:AV):A2:= .agg r.BM4
theorem zB:∀a b,K2 a=K2 b->a=b:=by
 rintro ⟨a,b⟩ ⟨c,d⟩ h;unfold K2 at h;simp only [Value.agg.injEq,tX,o4,Value.int.injEq,ka,db]at h;rw [h.1,h.2]
theorem Pv(P:Program)(d:Nat)(a:Int){t:AM}(g:P.underlying t=some (.int .i64))(h:(Lit.int .i64 a).wf=true):P.keyLits (d+1) t [.int .i64 a]=some [.int .i64 a]:=by
 unfold Program.keyLits;rw [g];simp [h]
theorem xL:GD prog 224 K2 KD:=GD.ofLaw (deep_law (m:=3) (by decide) (by kernel_rfl) (by kernel_rfl) (by kernel_rfl)) (by
 rintro ⟨a,b⟩ ⟨G,I⟩;have B:Tryz.prog.types.size+1=(Tryz.prog.types.size -1)+1+1:=by
  have:0<Tryz.prog.types.size:=IH AD;omega
 have hc:Tryz.prog.cellsOf 3=1:=by kernel_rfl
 have g:Tryz.prog.cellsOf 224=2:=by kernel_rfl
 have O:Tryz.prog.keyType 224=true:=by kernel_rfl
 have K:(K2 (a,b)).formed prog 224=true:=by
  unfold Value.formed K2;rw [lx];simp [g]
 unfold keyOf;rw [lx];simp only [O,K,Bool.and_self,KK];obtain ⟨d,J⟩:∃d,Tryz.prog.types.size+1=d+1+1:=⟨_,B⟩;rw [J];unfold Program.keyLits;rw [lx];have U:=Pv prog d a D3 G
 have W:=Pv prog d b D3 I;simp [K2,Value.cells,hc,g,U,W]) zB
structure Hw(l:List ((Int×Int)×A2))(rs:List AV):Prop where
 mem:∀p,p∈l↔∃r∈rs,p=((r.t,r.k),TW r)
 kd:∀r∈rs,KD (r.t,r.k)
theorem bG:Hw [] []:=⟨fun p=>by simp,fun r h=>by cases h⟩
variable{l:List ((Int×Int)×A2)}
theorem Hw.keys(h:Hw l rs):∀p∈l,KD p.1:=fun p g=>by
 obtain ⟨r,m,rfl⟩:=(h.mem p).1 g;exact h.kd r m
theorem aK{a b:AV}(h:TW a=TW b):a=b:=by
 obtain ⟨t,k,⟨x,y,z⟩⟩:=a;obtain ⟨m,g,⟨B,G,I⟩⟩:=b;unfold TW at h;simp only [Value.agg.injEq,tX,o4,Value.int.injEq,ka,db]at h;obtain ⟨rfl,rfl,rfl,rfl,rfl⟩:=h;rfl
theorem Hw.len{es:Array MapEntry}{ck:Nat}(G:Co K2 es ck l)(h:Hw l rs)(J:BM rs):l.length=rs.length:=by
 have B:l.Nodup:=by
  have:=G.keys;rw [cT,X1]at this;rw [cT];exact this.imp (fun g e=>g (by rw [e]))
 have h2:(rs.map (fun r=>((r.t,r.k),TW r))).Nodup:=by
  rw [cT,X1];refine J.imp (fun{a b} hab e=>?_);have e2:=aK (Prod.mk.inj e).2
  subst e2;unfold AV.lt2 at hab;omega
 have I:l.Perm (rs.map (fun r=>((r.t,r.k),TW r))):=by
  rw [T7 B h2];intro p;rw [h.mem p,CI];constructor;· rintro ⟨r,m,rfl⟩;exact ⟨r,m,rfl⟩
  · rintro ⟨r,m,rfl⟩;exact ⟨r,m,rfl⟩
 rw [I.length_eq,Bk]
theorem Hw.get{es:Array MapEntry}{ck:Nat}(I:Co K2 es ck l)(h:Hw l rs)(K:BM rs)(t k:Int):
 (EM (t,k) l).getD (TW AV.zero)=TW (G8 rs t k).1/\(EM (t,k) l).isSome=(G8 rs t k).2:=by
 cases hg:(G8 rs t k).2 with
 |true=>
  obtain ⟨r,m,hi,_,G⟩:=Jb hg;have B:((t,k),TW r)∈l:=(h.mem _).2 ⟨r,m,by rw [show t=r.t from hi.1.symm,show k=r.k from hi.2.symm]⟩
  rw [D8 I.keys B,G];exact ⟨V,V⟩
 |false=>
  have g:∀r∈rs,¬r.is t k:=fun r m hi=>by rw [Kl K m hi]at hg;cases hg
  have hn:EM (t,k) l=none:=DY (fun p J e=>by
   obtain ⟨r,m,rfl⟩:=(h.mem p).1 J;injection e with e1 e2
   exact g r m ⟨e1,e2⟩)
  rw [hn,R3 g];exact ⟨V,V⟩
theorem Hw.put{I:List ((Int×Int)×A2)}(h:Hw l rs)(G:BM rs)(B:Gd rs c)(J:c.has=true)(K:KD (c.t,c.k))(O:∀p,p∈I↔p=((c.t,c.k),TW ⟨c.t,c.k,c.n⟩)\/(p∈l/\p.1≠(c.t,c.k))):Hw I (ER rs c):=by
 refine ⟨fun p=>?_,fun r m=>?_⟩
 · rw [O p]
   constructor
   · rintro (rfl|⟨g,h2⟩)
     · exact ⟨_,(GM G B _).2 (.inr ⟨J,rfl⟩),rfl⟩
     · obtain ⟨r,m,rfl⟩:=(h.mem p).1 g
       exact ⟨r,(GM G B _).2 (.inl ⟨m,fun hi=>h2 (by rw [show r.t=c.t from hi.1,show r.k=c.k from hi.2])⟩),rfl⟩
   · rintro ⟨r,m,rfl⟩
     rcases (GM G B _).1 m with⟨g,h2⟩|⟨_,rfl⟩
     · exact .inr ⟨(h.mem _).2 ⟨r,g,rfl⟩,fun e=>h2 (by injection e with e1 e2;exact ⟨e1,e2⟩)⟩
     · exact .inl rfl
 · rcases (GM G B _).1 m with⟨g,_⟩|⟨_,rfl⟩
   · exact h.kd r g
   · exact K
theorem Hw.drop{J:List ((Int×Int)×A2)}(h:Hw l rs)(G:BM rs)(B:Gd rs c)(I:c.has=false)(K:∀p,p∈J↔p∈l/\p.1≠(c.t,c.k)):Hw J (ER rs c):=by
 refine ⟨fun p=>?_,fun r m=>?_⟩
 · rw [K p]
   constructor
   · rintro ⟨g,h2⟩
     obtain ⟨r,m,rfl⟩:=(h.mem p).1 g;exact ⟨r,(GM G B _).2 (.inl ⟨m,fun hi=>h2 (by rw [show r.t=c.t from hi.1,show r.k=c.k from hi.2])⟩),rfl⟩
   · rintro ⟨r,m,rfl⟩
     rcases (GM G B _).1 m with⟨g,h2⟩|⟨h9,_⟩
     · exact ⟨(h.mem _).2 ⟨r,g,rfl⟩,fun e=>h2 (by injection e with e1 e2;exact ⟨e1,e2⟩)⟩
     · rw [I]at h9;cases h9
 · rcases (GM G B _).1 m with⟨g,_⟩|⟨h9,_⟩
   · exact h.kd r g
   · rw [I]at h9;cases h9
theorem Vq{n:Int}(h:-9223372036854775808<=n/\n<=9223372036854775807):(Lit.int .i64 n).wf=true:=by
 simp [Lit.wf,IntKind.min,IntKind.max,IntKind.signed,IntKind.bits];omega
theorem yO(h:c.ok):KD (c.t,c.k):=by
 obtain ⟨g,h2,_,_⟩:=h;have m:(0<=c.t/\c.t<=3)/\(1<=c.k/\c.k<=1000000):=by
  cases hh:c.had with
  |true=>
   have:c.before.ok:=Wg (fun hn=>h2 (.inl ⟨hh,hn⟩));rw [N9 hh]at this;exact this.2
  |false=>
   cases hs:c.has with
   |true=>
    have:c.after.ok:=Wg (fun hn=>h2 (.inr ⟨hs,hn⟩));rw [KC hs]at this;exact this.2
   |false=>exact absurd (.inl ⟨by rw [hh];decide,by rw [hs];decide⟩) g
 exact ⟨Vq (by show _<=c.t/\c.t<=_;omega),Vq (by show _<=c.k/\c.k<=_;omega)⟩
theorem PY(c:Chg):Au prog 103 #[.agg c.BM3] [] (.tuple #[.agg #[I4 (EW c c.has c.n).t,I4 (EW c c.has c.n).k,I4 (EW c c.has c.n).v.a,I4 (EW c c.has c.n).v.b,I4 (EW c c.has c.n).v.c],.bool c.has]):=by
 refine Se func103 ntmps103 [0] ?_;intro u R;refine A3<|Ze (Bx #[_,_,_,_,_,_,_,_,_,_])<|AF fun g=>Ze (Al Ft #[_,_,_,_,_])<|AF fun m=>AH Y<|A3<|Zo Wh (A9 (cs:=#[_,_,_,_,_,_,_,_,_,_]) HD Cl Y B5 B1)<|Zh 6 CC V rfl F1 Y<|Zl G0 Y<|Zh 7 CC V rfl E4 Y<|Zo Wh (A9 (cs:=#[_,_,_]) Hb E4 Y B5 B1)<|Xr [_,_,_] Y call179 Y V (Xy c c.has c.n)<|Zd Y V<|Zd Y V<|Xe (Xw B6 _)<|B2 Y<|Zn [2,3] ?_;refine Zx<|AL<|CS V results103 Y Wh (Av DM B6 Wn (V)) Y (by exact ⟨V,V⟩)
theorem uK:BS prog 8 #[] [] (fun r H'=>∃g mb,r=I5 g/\H'=[[(g,.cells #[.map (some mb),I4 0] 100 (0,0))],[(mb,.map #[] 0)]]):=by
 refine Se func8 ntmps8 [] ?_;intro u R;refine A3<|AH Y<|A3<|Ze (DV)<|AF fun mb=>Zv (BN (vs:=[(0,_)]) (cs:=#[_,_]) Y (Aa (pl:=#[(0,1),(1,1)]) zeroValue98 dd (fun _=>by kernel_rfl) V))<|Zv (BN (vs:=[(0,_)]) (cs:=#[_,_]) Y (Aa (pl:=#[(0,2)]) zeroValue100 dc (fun _=>by kernel_rfl) V))<|Ze (Bx #[_,_])<|AF fun g=>An Y<|AO V results8 Y (by exact ⟨g,mb,V,V⟩)
theorem uv(sp mb:Nat)(p rp:Int)(es:Array MapEntry)(ck:Nat)(lm:List ((Int×Int)×A2))(rs:List AV)(M:List A8)(q:BE)(cap:Nat)(cs:List Chg)(hm:Co K2 es ck lm)(hR:Hw lm rs)(hO:CL M (.slice q cs.length cap) cs)(hs:BM rs)(hn:rs.length<=2000)(hA:Ky rs p rp cs):
 Au prog 102 #[I5 sp,.agg #[I4 rp,.slice q cs.length cap]] [[(sp,.cells #[.map (some mb),I4 p] 100 (0,0))],[(mb,.map es ck)],M] (.bool true):=by
 have ic:=mL;obtain ⟨p9,gq,e9,j3,hg⟩:=id hO;injection e9 with e91 e92 e93
 subst e91 e93;have I:=hA.ok
 have j5:=hA.pos;have gQ:=I.len
 have kv:=I.pos;have gy:=V5 I.ord
 have cO:=hR.len hm hs;refine Se func102 ntmps102 [0,1] ?_;intro u R;refine A3<|Ze (Bx #[_,_])<|AF fun b1=>CT Y<|Zq<|Ay (n:=14) (0::1::3::7::15::31::15::79::207::463::975::1999::4095::8191::[]) 2 AD AD V<|G3 0 V Wh (A9 (cs:=#[_,_]) HN E0 Y B5 B1)<|Yw 1 3 V (Zu [_] Y call42 Y V (KT rp q cap cs M hO)) ?_;rintro _ _ ⟨rfl,rfl⟩;rw [DE I];refine A1 2 V (Bo Y)<|A1 3 V (AP Y)<|DK (t:=13) Y (fun h1=>?_) (fun h1=>?_);·
  rw [h1];cases h1
 rw [h1];refine B4 4 V (AB (off:=0) GS V rfl A6 Y)<|FF 5 V Wh (BK AE Y B1)<|B4 6 V (AP Y)<|B4 7 V (Ao Y V)<|B4 8 V (AB (off:=0) dc V rfl fj Y)<|B4 9 V (Ar (off:=1) dd V rfl A6 Y)<|FF 10 V Wh (BK AE Y B1)<|B4 11 V (J6 Y Y (IntWalk.i64_in _ A0))<|B4 12 V (I8 Y Y)<|A1 13 V (AJ Y Y)<|Aq<|Zn [0,3,23] ?_;refine Zx<|Ak Y (fun h2=>?_) (fun h2=>?_);·
  exfalso;contradiction
 refine B3<|AK Y<|Zp Y V<|Zh 0 dc V rfl fj Y<|Zv (Ar (off:=0) dd V rfl sizeOf96 Y)<|Zl isAgg96 Y<|Zo Wh (Qt mA hm Y)<|CT Y<|A3<|Zh 1 GS V rfl Kf Y<|Zl MA Y<|Zv (AR GO Y)<|Zm Y<|A4<|AQ<|Zb [5,33,0,31,32] ?_;refine Aw (e0:=[(5,_),(33,_)]) (fun m e H=>∃(i:Nat),m=cs.length -i/\(i<=cs.length)/\e=[(5,I4 (H5 rs (cs.take i))),(33,I4 (i:Int))]/\H=[]) (by exact ⟨0,rfl,CM _,by rw [cO];rfl,rfl⟩) Wp ?_;rintro _ _ _ ⟨i,rfl,hi,rfl,rfl⟩;have ek:=PT rs cs i
 refine A3<|Zv (Ap Y Y)<|A4<|Zq<|Ak Y (fun Z=>?_) (fun Z=>?_);·
  obtain ⟨x,hx⟩:∃x,cs[i]?=some x:=⟨_,BT Z⟩;obtain ⟨g,off,cur,T,zz,rfl,d9,l5,ax⟩:=hg i x hx;have gm:=I.all i x hx
  have cu:=yO gm;obtain ⟨bn,W⟩:=hA.fit x (Ek hx);have J:=hR.get hm hs x.t x.k
  obtain ⟨K,X⟩:∃K,K=G8 rs x.t x.k:=⟨_,rfl⟩;rw [<-X]at J bn W;clear X;refine B3<|Zq<|AQ<|A3<|BX (AZ GO Cl Y Y A0)<|Bu (cs:=[(g,.cells cur T zz)]) (by simp [d9]) (A9 (cs:=x.BM3) HD Cl Y A0 ax) V rfl<|Ze (Al N1 #[_,_,_,_,_,_,_,_,_,_])<|AF fun cb=>Xe (Xw Cl x.BM3)<|A4<|Zq<|Ay (n:=17) (0::1::3::7::15::0::32::0::128::480::1023::2047::4095::4095::0::24575::65535::[]) 49152 AD AD V<|A1 0 V (AP Y)<|A1 1 V (Ao Y V)<|A1 2 V (AB (off:=0) dc V rfl fj Y)<|A1 3 V (Ar (off:=0) dd V rfl sizeOf96 Y)<|Bm 4 V isAgg96 Y<|A1 5 V (AB (off:=0) CC V rfl A6 Y)<|Bm 6 V AE Y<|A1 7 V (AB (off:=1) CC V rfl A6 Y)<|Bm 8 V AE Y<|A1 9 V (BN (vs:=[(0,_),(1,_)]) (cs:=#[_,_]) Y (Aa (pl:=#[(0,1),(1,1)]) zeroValue224 lx (fun _=>by kernel_rfl) V))<|G3 10 V Wh (EO xL mA Ft hm hR.keys (cu) (J) Y Y)<|A1 11 V (AP Y)<|A1 12 V (C9 Y V)<|A1 13 V (C9 Y V)<|Zz (l:=[14])<|BW [true,true,true,true] [(10,(_,_)),(8,(_,_)),(6,(_,_)),(4,(_,_))] V rfl (Al Ft #[_,_,_,_,_]) ?_ (fun _ _ h=>h.elim) Aj;rintro _ _ ⟨ob,rfl,rfl⟩;refine C3<|Yw 15 65535 V (Xw B6 #[I4 K.1.t,I4 K.1.k,I4 K.1.v.a,I4 K.1.v.b,I4 K.1.v.c])<|F0<|A1 16 V (BC Y)<|Aq<|Zn [0,5,7,8,9,31,32,33] ?_;refine Zx<|B8 Y<|Zh 2 CC V rfl F1 Y<|Zl G0 Y<|Zv (LH N6 Y Y)<|Zm Y<|Af (t:=55) Y V (fun af=>?_) (fun af=>?_);·
   exfalso;contradiction
  refine Zf Y Y<|Zf Y Y<|Ad (t:=57) Y V (fun O=>?_) (fun O=>?_);focus
   refine Yf 2 HC V rfl E4 Y<|D6 Y Wh (A9 (cs:=#[_,_,_]) Hb E4 Y B5 B1) V rfl<|Yf 3 CC V rfl E4 Y<|D6 Y Wh (A9 (cs:=#[_,_,_]) Hb E4 Y B5 B1) V rfl<|Yg (LJ AD K1 D3 AE A6 Y Y) ?_;refine Yg (AU Y Y)<|B9 Y Y<|Z0<|Zn [0,5,7,31,32,33,64] ?_;refine Zx<|Ak Y (fun U=>?_) (fun U=>?_);exfalso;exact U (W O)
  rotate_left
  focus
   refine AG<|AG<|C4<|Yg (AJ Y Y)<|B9 Y Y<|Z0<|Zn [0,5,7,31,32,33,64] ?_;refine Zx<|Df Y ?_
  all_goals
   refine B3<|Zq<|A3<|Zh 2 CC V rfl F1 Y<|Zl G0 Y<|A4<|AY Y (fun G=>?_) (fun G=>?_);·
    refine Zg<|Zm Y<|BX (GZ Y Y (IntWalk.i64_in _ A0))<|AH Y<|A3<|Zh 6 CC V rfl F1 Y<|Zl G0 Y<|A4<|AY Y (fun B=>?_) (fun B=>?_);·
     refine Zg<|Zm Y<|Yi Y Y<|B2 Y<|AA<|Zx<|Dg Y Y Y<|DG (e:=[(5,_),(33,_)]) (h:=by exact ⟨i+1,rfl,by omega,by rw [tm hx G B],rfl⟩)
    refine AC<|AA<|Zx<|Dg Y Y Y<|DG (e:=[(5,_),(33,_)]) (h:=by exact ⟨i+1,rfl,by omega,by rw [tp hx G B],rfl⟩)
   refine AC<|C6<|Zh 6 CC V rfl F1 Y<|Zl G0 Y<|A4<|AY Y (fun B=>?_) (fun B=>?_);·
    refine Zg<|Zm Y<|Yi Y Y<|B2 Y<|AA<|Zx<|Dg Y Y Y<|DG (e:=[(5,_),(33,_)]) (h:=by exact ⟨i+1,rfl,by omega,by rw [tq hx G B],rfl⟩)
   refine AC<|AA<|Zx<|Dg Y Y Y<|DG (e:=[(5,_),(33,_)]) (h:=by exact ⟨i+1,rfl,by omega,by rw [tr hx G B],rfl⟩)
 have ei:i=cs.length:=by omega
 subst ei;rw [HE]at ek⊢;refine BA<|Zt<|Zt<|AX<|Zx<|AK Y<|Zv (Md Y Y)<|An Y<|AO rfl results102 Y (by exact ⟨by rw [DE hA.size],rfl⟩)
theorem A13(sp mb:Nat)(p rp:Int)(es:Array MapEntry)(ck:Nat)(lm:List ((Int×Int)×A2))(rs:List AV)(M:List A8)(q:BE)(cap:Nat)(cs:List Chg)(hm:Co K2 es ck lm)(hR:Hw lm rs)(hO:CL M (.slice q cs.length cap) cs)(hs:BM rs)(hn:rs.length<=2000)(hA:Ky rs p rp cs):
 BS prog 41 #[I5 sp,.agg #[I4 rp,.slice q cs.length cap]] [[(sp,.cells #[.map (some mb),I4 p] 100 (0,0))],[(mb,.map es ck)],M] (fun r H'=>r=I4 0/\∃X U ek,Co K2 X U ek/\Hw ek (DT rs cs)/\H'=[[(sp,.cells #[.map (some mb),I4 rp] 100 (0,0))],[(mb,.map X U)],M]):=by
 have l8:=mL;obtain ⟨p9,kv,e9,l9,hg⟩:=id hO;injection e9 with e91 e92 e93
 subst e91 e93;have G:=hA.ok
 have o8:=hA.pos;have l5:=G.len
 have o9:=G.pos;have ax:=V5 G.ord
 refine Se func41 ntmps41 [0,1] ?_;intro u R;refine A3<|Ze (Bx #[_,_])<|AF fun b1=>CT Y<|AQ<|AK Y<|Zv (Bb mB Y Y)<|AH Y<|AY Y (fun h1=>by cases h1)<|fun h1=>AK Y<|Zo Wh (A9 (cs:=#[_,_]) HN E0 Y B5 B1) ?_;refine Xr [_,_] Y call102 Y V (uv sp mb p rp es ck lm rs M q cap cs hm hR hO hs hn hA) ?_;refine Zv (Bo Y)<|AH Y<|AY Y (fun h2=>by cases h2)<|fun h2=>AC<|AA<|Zx<|Zq<|A3<|Zh 1 GS V rfl Kf Y<|Zl MA Y ?_;refine Zv (AR GO Y)<|Zm Y<|Z0<|Zn [0,3,19,20,21] ?_;refine Zx<|AQ<|Zb [21,0,3,19,20] ?_;refine Aw (e0:=[(21,_)]) (fun m e H=>∃(i:Nat) (es:Array MapEntry) (ck:Nat) (lm:List ((Int×Int)×A2)),m=cs.length -i/\(i<=cs.length/\Co K2 es ck lm/\Hw lm (DT rs (cs.take i)))/\e=[(21,I4 (i:Int))]/\H=[[(mb,.map es ck)]]) (by exact ⟨0,es,ck,lm,rfl,⟨CM _,hm,by rw [JT];exact hR⟩,rfl,rfl⟩) Wp ?_;rintro _ _ _ ⟨i,gq,gm,j5,rfl,⟨hi,K,B⟩,rfl,rfl⟩;refine A3<|Zv (Ap Y Y)<|A4<|Zq<|Ak Y (fun cu=>?_) (fun cu=>?_);·
  obtain ⟨x,hx⟩:∃x,cs[i]?=some x:=⟨_,BT cu⟩;obtain ⟨g,off,cur,T,zz,rfl,ic,p8,gy⟩:=hg i x hx;have j3:=G.all i x hx
  have J:=yO j3;obtain ⟨d9,gQ⟩:=Km hs ax hA.fit i hi;have bn:=gQ i x (D0 _) hx
  refine B3<|Zq<|AQ<|A3<|BX (AZ GO Cl Y Y A0)<|Bu (cs:=[(g,.cells cur T zz)]) (by simp [ic]) (A9 (cs:=x.BM3) HD Cl Y A0 gy) V rfl ?_;refine Ze (Al N1 #[_,_,_,_,_,_,_,_,_,_])<|AF fun cb=>Xe (Xw Cl x.BM3) ?_;refine A4<|A3<|Zh 0 CC V rfl A6 Y<|Zl AE Y ?_;refine Zh 1 CC V rfl A6 Y<|Zl AE Y ?_;refine Zv (BN (vs:=[(0,_),(1,_)]) (cs:=#[_,_]) Y (Aa (pl:=#[(0,1),(1,1)]) zeroValue224 lx (fun _=>by kernel_rfl) V))<|Ze (Al zeroValue224 #[_,_])<|AF fun kb=>Xe (BJ sizeOf224 Y Y (by(simp [Value.oneCell',Value.cells];done)) Wu (by exact (rfl:_=(#[I4 x.t,I4 x.k]:AN))) G4 B0 (by exact BB _)) ?_;refine A4<|A3<|Zo Wh (A9 (cs:=#[_,_,_,_,_,_,_,_,_,_]) HD Cl Y B5 B1) ?_;refine Xr [_] Y call103 Y V (PY x) ?_;refine Zm Y<|Zd Y V<|Zd Y V<|Ze (Al Ft #[_,_,_,_,_])<|AF fun xb=>Xe (Xw B6 #[I4 (EW x x.has x.n).t,I4 (EW x x.has x.n).k,I4 (EW x x.has x.n).v.a,I4 (EW x x.has x.n).v.b,I4 (EW x x.has x.n).v.c]) ?_;refine B2 Y<|Zn [0,3,7,8,9,19,20,21] ?_;refine Zx<|AK Y<|A4<|AY Y (fun hh=>?_) (fun hh=>?_);focus
   rw [xN hh];refine Ay (n:=8) (0::1::3::7::15::0::0::127::[]) 128 AD AD V<|A1 0 V (AP Y)<|A1 1 V (Ao Y V)<|A1 2 V (AB (off:=0) dc V rfl fj Y)<|A1 3 V (Ar (off:=0) dd V rfl sizeOf96 Y)<|Bm 4 V isAgg96 Y ?_;refine G3 5 V Wh (A9 (cs:=#[_,_]) isAgg224 sizeOf224 Y B5 B1) ?_;refine G3 6 V Wh (A9 (cs:=#[_,_,_,_,_]) DM B6 Y B5 B1) ?_;refine Yw 7 255 V (FK xL mA K B.keys (J) Y Y Y Wo) ?_;rintro _ _ ⟨rfl,Z,W,I,cO,O,rfl⟩;have af:Hw I (DT rs (cs.take (i+1))):=by rw [GJ rs cs i x hx];exact B.put d9 bn hh J O
  rotate_left
  focus
   refine Ay (n:=7) (0::1::3::7::15::0::63::[]) 64 AD AD V<|A1 0 V (AP Y)<|A1 1 V (Ao Y V)<|A1 2 V (AB (off:=0) dc V rfl fj Y)<|A1 3 V (Ar (off:=0) dd V rfl sizeOf96 Y)<|Bm 4 V isAgg96 Y ?_;refine G3 5 V Wh (A9 (cs:=#[_,_]) isAgg224 sizeOf224 Y B5 B1) ?_;refine Yw 6 127 V (M4 xL mA K B.keys (J) Y Y Wo) ?_;rintro _ _ ⟨rfl,Z,W,I,cO,O,rfl⟩;have af:Hw I (DT rs (cs.take (i+1))):=by rw [GJ rs cs i x hx];exact B.drop d9 bn hh O
  all_goals
   refine Aq<|AA<|Zx<|Dg Y Y Y<|HJ (by exact ⟨i+1,Z,W,I,V,⟨by omega,cO,af⟩,V,V⟩)
 have ei:i=cs.length:=by omega
 subst ei;rw [HE]at B;refine BA<|Zt<|Zt<|AX<|Zx<|AK Y<|Zh 0 GS V rfl A6 Y<|Zl AE Y ?_;refine Zp Y V<|Zh 0 dc V rfl fj Y<|Zv (Ar (off:=1) dd V rfl A6 Y)<|Xe (Zs A6 Y Y V (hc:=by exact (V:_=(#[.map (some mb),I4 rp]:AN))) (hi:=by(simp;done))) ?_;refine A4<|A3<|An Y<|AO V results41 Y (by exact ⟨V,gq,gm,j5,K,B,V⟩)
end Go.Proofs.YtlkdhannldcfbabGreatDoor
