/- The program's layer 3: ValidChange. -/
/- The program's layer 3: put. -/
/- Rows of several cells, read. -/
/- Sorted lists of rows: what a change does to them. -/
/- The reference of layer 4: Apply. -/
import Derived.Test.YteaiajghbkenoaaGreatDoorEz
import Derived.Test.YteaiajghbkenoaaGreatDoorLg4
import Derived.Test.YteaiajghbkenoaaGreatDoorEx36
set_option linter.unusedVariables false
set_option linter.unusedSimpArgs false
namespace Go.Proofs.YteaiajghbkenoaaGreatDoor
open Go.Proofs.Tryz
open Go Go.RowKit Gw
set_option maxRecDepth 100000
attribute [local irreducible] Gw.At Gw.Nx Gw.Ops
def yR(c:Chg):Bool:=if c.had then decide c.before.ok else decide (c.o=V3.zero)
def yS(c:Chg):Bool:=if c.has then decide c.after.ok else decide (c.n=V3.zero)
theorem Rw(c:Chg):BJ prog 125 #[.agg c.A15,.bool c.had,.agg #[I4 c.o.a,I4 c.o.b,I4 c.o.c]] [] (.bool (yR c)):=YC c c.had c.o
theorem Rx(c:Chg):BJ prog 125 #[.agg c.A15,.bool c.has,.agg #[I4 c.n.a,I4 c.n.b,I4 c.n.c]] [] (.bool (yS c)):=YC c c.has c.n
variable{c:Chg}
theorem Kn(g:c.had≠c.has\/(c.had=true/\c.o≠c.n)):decide c.ok=(yR c&&yS c):=by
 unfold yR yS;cases h1:c.had<;>cases h2:c.has<;>simp_all [Chg.ok]
 all_goals (by_cases m:c.before.ok<;>by_cases B:c.after.ok<;>by_cases G:c.o=V3.zero<;>by_cases I:c.n=V3.zero<;>simp_all)
theorem uE(h:c.had=c.has)(h2:c.had=true->c.o=c.n):decide c.ok=false:=by
 cases h1:c.had<;>simp_all [Chg.ok]
 all_goals (rw [<-h]at*;simp_all)
set_option maxHeartbeats 4000000 in
theorem Uw(c:Chg):BJ prog 67 #[.agg c.A15] [] (.bool (decide c.ok)):=by
 refine Se func67 ntmps67 [0] ?_;intro u R;refine A0<|Ze (Bx #[_,_,_,_,_,_,_,_,_,_])<|AD fun K=>A3 Y<|A0<|Zh 2 B8 V rfl CD Y<|Zl E4 Y ?_;refine Zh 6 B8 V rfl CD Y<|Zl E4 Y ?_;refine Zv (KX Pu Y Y)<|Zm Y<|Ao (t:=9) Y V (fun g=>?_) (fun g=>?_)
 ·
  repeat refine A7 Y rfl ?_
  refine Zv (AX Y Y)<|AG Y<|Zn [1,3] ?_;refine Zx<|A0<|Zm Y<|Zm Y<|E5 Y Wh (Pa #[_,_,_,_,_,_,_,_,_,_] Fk C1 Y) V rfl ?_;refine Yf 2 B8 V rfl CD Y<|Yl E4 Y ?_;refine Yf 3 B8 V rfl DB Y<|E5 Y Wh (Pa #[_,_,_] HB DB Y) V rfl ?_;refine Xr [_,_,_] Y call125 Y V (Rw c) ?_;refine Zv (AX Y Y)<|Zm Y<|Af (t:=29) Y V (fun G=>?_) (fun G=>?_)
  ·
   refine E5 Y Wh (Pa #[_,_,_,_,_,_,_,_,_,_] Fk C1 Y) V rfl ?_;refine Yf 6 B8 V rfl CD Y<|Yl E4 Y ?_;refine Yf 7 B8 V rfl DB Y<|E5 Y Wh (Pa #[_,_,_] HB DB Y) V rfl ?_;refine Xr [_,_,_] Y call125 Y V (Rx c) ?_;refine Zv (AX Y Y)<|AG Y<|Zn [2] ?_;refine Zx<|AJ<|AO rfl er Y (by exact ⟨by rw [Kn (.inl g),G,Rg],rfl⟩)
  repeat refine A7 Y rfl ?_
  refine Zv (AL Y Y)<|AG Y<|Zn [2] ?_;refine Zx<|AJ<|AO rfl er Y (by exact ⟨by rw [Kn (.inl g),G,Bool.false_and],rfl⟩)
 refine Yf 2 B8 V rfl CD Y<|Yl E4 Y ?_;refine Zf Y Y ?_;refine Af (t:=12) Y V (fun m=>?_) (fun m=>?_)
 ·
  refine Yf 3 B8 V rfl DB Y<|E5 Y Wh (Pa #[_,_,_] HB DB Y) V rfl ?_;refine Yf 7 B8 V rfl DB Y<|E5 Y Wh (Pa #[_,_,_] HB DB Y) V rfl ?_;refine Yg (KY A6 Hj Cl AE A5 Y Y) ?_;refine Yg (AX Y Y)<|Zv (AL Y Y)<|AG Y<|Zn [1,3] ?_;refine Zx<|A0<|Zm Y<|Zm Y<|Ao (t:=21) Y V (fun B=>?_) (fun B=>?_)
  ·
   refine E5 Y Wh (Pa #[_,_,_,_,_,_,_,_,_,_] Fk C1 Y) V rfl ?_;refine Yf 2 B8 V rfl CD Y<|Yl E4 Y ?_;refine Yf 3 B8 V rfl DB Y<|E5 Y Wh (Pa #[_,_,_] HB DB Y) V rfl ?_;refine Xr [_,_,_] Y call125 Y V (Rw c) ?_;refine Zv (AX Y Y)<|Zm Y<|Af (t:=29) Y V (fun I=>?_) (fun I=>?_)
   ·
    refine E5 Y Wh (Pa #[_,_,_,_,_,_,_,_,_,_] Fk C1 Y) V rfl ?_;refine Yf 6 B8 V rfl CD Y<|Yl E4 Y ?_;refine Yf 7 B8 V rfl DB Y<|E5 Y Wh (Pa #[_,_,_] HB DB Y) V rfl ?_;refine Xr [_,_,_] Y call125 Y V (Rx c) ?_;refine Zv (AX Y Y)<|AG Y<|Zn [2] ?_;refine Zx<|AJ<|AO rfl er Y (by exact ⟨by rw [Kn (.inr ⟨m,B⟩),I,Rg],rfl⟩)
   repeat refine A7 Y rfl ?_
   refine Zv (AL Y Y)<|AG Y<|Zn [2] ?_;refine Zx<|AJ<|AO rfl er Y (by exact ⟨by rw [Kn (.inr ⟨m,B⟩),I,Bool.false_and],rfl⟩)
  repeat first|refine A7 Y rfl ?_|refine Zv (AL Y Y)<|Zm Y ?_
  refine Zv (AL Y Y)<|AG Y<|Zn [2] ?_;refine Zx<|AJ<|AO rfl er Y (by exact ⟨by rw [uE (HS.1 g) (fun _=>HS.1 B)],rfl⟩)
 repeat refine A7 Y rfl ?_
 refine Yg (AL Y Y)<|Zv (AL Y Y)<|AG Y<|Zn [1,3] ?_;refine Zx<|A0<|Zm Y<|Zm Y ?_;repeat first|refine A7 Y rfl ?_|refine Zv (AL Y Y)<|Zm Y ?_
 refine Zv (AL Y Y)<|AG Y<|Zn [2] ?_;refine Zx<|AJ<|AO rfl er Y (by exact ⟨by rw [uE (HS.1 g) (fun J=>by rw [m]at J;cases J)],rfl⟩)
theorem qn(h:c.ok):0<=c.t:=by
 obtain ⟨B,h2,_,_⟩:=h;have I:c.had=true->c.before.ok:=fun g=>a7 fun m=>h2 (.inl ⟨g,m⟩)
 have G:c.has=true->c.after.ok:=fun g=>a7 fun m=>h2 (.inr ⟨g,m⟩);cases e1:c.had with
 |true=>have:=(I e1).2.1.1;rw [PK e1]at this;exact this
 |false=>
  cases e2:c.has with
  |true=>have:=(G e2).2.1.1;rw [Kr e2]at this;exact this
  |false=>exact absurd (.inl ⟨by simp [e1],by simp [e2]⟩) B
variable{cs:List Chg}{i:Nat}{x:Chg}
theorem X9{p:Int}{y:Chg}(B:i=0/\y.t=-1\/0<i/\cs[i -1]?=some y)(h:EG p cs)(m:cs[i]?=some x):y.lt x:=by
 rcases B with⟨h0,g⟩|⟨h0,g⟩
 · left;have:=qn (h.all i x m);omega
 · exact h.ord (i -1) y x g (by rw [show i -1+1=i by omega];exact m)
theorem il{y:Chg}(m:i=0/\y.t=-1\/0<i/\cs[i -1]?=some y)(h:y.lt x):i=0\/∃y,cs[i -1]?=some y/\y.lt x:=by
 rcases m with⟨h0,g⟩|⟨h0,g⟩
 · exact .inl h0
 · exact .inr ⟨y,g,h⟩
theorem Pf(p:Int)(q:Option Addr)(cap:Nat)(cs:List Chg)(M:List A9)(hO:Ck M (.slice q cs.length cap) cs):BJ prog 51 #[.agg #[I4 p,.slice q cs.length cap]] [M] (.bool (decide (EG p cs))):=by
 have bn:=mL;obtain ⟨p9,ax,e9,cu,hg⟩:=hO;injection e9 with e91 e92 e93
 subst e91 e93;refine Se func51 ntmps51 [0] ?_;intro u R;refine A0<|Ze (Bx #[_,_])<|AD fun b1=>A3 Y<|Zq<|A0<|Zh 0 GF V rfl A5 Y<|Zl AE Y ?_;refine Ze (Ah (vs:=[_]) (cs:=[_]) Cd A5 Gk Y V rfl V rfl V)<|AD fun b2=>Xr [_,_,_] Y call107 Y V (KT _ 0 1 _ _ _ _ _ p V) ?_;refine Zv (DD Y)<|Zm Y<|Ao (t:=11) Y V (fun hp=>?_) (fun hp=>?_)
 ·
  repeat refine A7 Y rfl ?_
  refine Zv (AX Y Y)<|Z0<|Zn [1,18] ?_;refine Zx<|Cn Y<|A0<|A3 Y<|AJ<|Zt<|AO rfl ew Y (by exact ⟨by rw [CI (fun h9:EG p cs=>by have G:=h9.pos;have J:=h9.len;exact hp G)],rfl⟩)
 refine Yf 1 GF V rfl Ks Y<|Yl Lq Y ?_;refine Yg (Ab G3 Y)<|Ze (Ah (vs:=[_]) (cs:=[_]) Cd A5 Gk Y V rfl V rfl V)<|AD fun b3=>Xr [_,_,_] Y call107 Y V (KT _ 0 1 _ _ _ _ _ (cs.length:Int) V) ?_;refine Yg (DD Y)<|Zv (AL Y Y)<|Z0<|Zn [1,18] ?_;refine Zx<|Av Y (fun hl=>?_) (fun hl=>?_)
 ·
  refine A0<|A3 Y<|AJ<|Zt<|AO rfl ew Y (by exact ⟨by rw [CI (fun h9:EG p cs=>by have G:=h9.pos;have J:=h9.len;(apply hl;omega))],rfl⟩)
 refine AC<|Zx<|A0<|Zv (BK (vs:=[(0,_)]) (cs:=#[_,_,_,_,_,_,_,_,_,_]) Y (AY (pl:=#[(0,1),(1,1),(2,1),(3,3),(6,1),(7,3)]) LI B8 (fun _=>by kernel_rfl) V))<|Ze (Al LI #[_,_,_,_,_,_,_,_,_,_])<|AD fun lb=>Xe (BM C1 Y Y (by(simp [Value.oneCell',Value.cells];done)) Wu AM E7 Wn (by exact BA _)) ?_;refine A4<|Zq<|A0<|Zh 1 GF V rfl Ks Y<|Zl Lq Y ?_;refine Zv (Ab G3 Y)<|Zm Y<|A4<|AP<|Zb [23,3,21,22] ?_;refine BB (e0:=[(23,_)]) (fun m e H=>∃(i:Nat) (y:Chg),m=cs.length -i/\(i<=cs.length/\(∀(j:Nat) (c:Chg),j<i->cs[j]?=some c->c.ok)/\(∀(j:Nat) (b c:Chg),j+1<i->cs[j]?=some b->cs[j+1]?=some c->b.lt c)/\(i=0/\y.t=-1\/0<i/\cs[i -1]?=some y))/\e=[(23,I4 (i:Int))]/\H=[[(lb,.cells y.A15 69 (0,0))]]) (by exact ⟨0,⟨-1,0,false,V3.zero,false,V3.zero⟩,V,⟨by omega,by intro j c hj;omega,by intro j b c hj;omega,.inl ⟨V,V⟩⟩,V,V⟩) Wp ?_;rintro _ _ _ ⟨i,y,rfl,⟨hi,K,O,B⟩,rfl,rfl⟩;refine A0<|Zv (Au Y Y)<|A4<|Zq<|Av Y (fun W=>?_) (fun W=>?_)
 ·
  obtain ⟨x,I⟩:∃x,cs[i]?=some x:=⟨_,B4 W⟩;obtain ⟨g,off,cur,T,zz,rfl,hm,cO,X⟩:=hg i x I;refine AC<|Zx<|Zq<|AP<|A0<|BX (Ad G3 C1 Y Y A1)<|CO (cs:=[(g,.cells cur T zz)]) (by simp [hm]) (AA (cs:=x.A15) Fk C1 Y A1 X) V rfl ?_;refine Ze (Al LI #[_,_,_,_,_,_,_,_,_,_])<|AD fun b5=>Xe (Xw C1 _) ?_;refine A4<|Zq<|A0<|Zo Wh (Pa #[_,_,_,_,_,_,_,_,_,_] Fk C1 Y) ?_;refine Xr [_] Y call67 Y V (Uw x) ?_;refine Zv (DD Y)<|Zm Y<|Ao (t:=30) Y V (fun U=>?_) (fun U=>?_)
  ·
   repeat refine A7 Y rfl ?_
   refine Zv (AX Y Y)<|Zm Y ?_;repeat refine A7 Y rfl ?_
   refine Zv (AX Y Y)<|Z0<|Zn [3,5,21,22,23,50] ?_;refine Zx<|Cn Y<|A0<|A3 Y<|AJ<|Zt<|Ac<|Zt<|Zt<|Ac<|Zt<|AO rfl ew Y (by exact ⟨by rw [CI (fun h9:EG p cs=>by have G:=X9 B h9 I;have J:=h9.all i x I;unfold Chg.lt at G;exact U J)],rfl⟩)
  refine Yf 0 B8 V rfl A5 Y<|Yl AE Y ?_;refine Yf 0 B8 V rfl A5 Y<|Yl AE Y ?_;refine Yg (Dq Y Y)<|Zv (AL Y Y)<|Zm Y<|Ao (t:=37) Y V (fun Z=>?_) (fun Z=>?_)
  ·
   repeat refine A7 Y rfl ?_
   refine Zv (AX Y Y)<|Z0<|Zn [3,5,21,22,23,50] ?_;refine Zx<|Cn Y<|A0<|A3 Y<|AJ<|Zt<|Ac<|Zt<|Zt<|Ac<|Zt<|AO rfl ew Y (by exact ⟨by rw [CI (fun h9:EG p cs=>by have G:=X9 B h9 I;have J:=h9.all i x I;unfold Chg.lt at G;omega)],rfl⟩)
  refine Yf 0 B8 V rfl A5 Y<|Yl AE Y ?_;refine Yf 0 B8 V rfl A5 Y<|Yl AE Y ?_;refine Yg (CP Y Y)<|Zf Y Y ?_;refine Ao (t:=43) Y V (fun af=>?_) (fun af=>?_)
  ·
   refine Yf 1 B8 V rfl A5 Y<|Yl AE Y ?_;refine Yf 1 B8 V rfl A5 Y<|Yl AE Y ?_;refine Yg (Le Y Y)<|Yg (AX Y Y)<|Zv (AL Y Y)<|Z0<|Zn [3,5,21,22,23,50] ?_;refine Zx<|Av Y (fun ho=>?_) (fun ho=>?_)
   ·
    refine A0<|A3 Y<|AJ<|Zt<|Ac<|Zt<|Zt<|Ac<|Zt<|AO rfl ew Y (by exact ⟨by rw [CI (fun h9:EG p cs=>by have G:=X9 B h9 I;have J:=h9.all i x I;unfold Chg.lt at G;omega)],rfl⟩)
   refine AC<|Zx<|Zg<|Zo Wh (Pa x.A15 Fk C1 Y) ?_;refine Xe (Xw C1 _) ?_;refine Z0<|A8<|Zx<|Zg<|Ya (n:=1) Y Y<|Zm Y<|Z0<|Zn [23,3,21,22] ?_;refine Aa (e':=[(23,_)]) (by exact ⟨i+1,x,V,⟨by omega,M7 K I (HS.1 U),Lg O I (il B (by unfold Chg.lt;omega)),.inr ⟨by omega,I⟩⟩,V,V⟩)
  repeat refine A7 Y rfl ?_
  refine Yg (AL Y Y)<|Zv (AL Y Y)<|Z0<|Zn [3,5,21,22,23,50] ?_;refine Zx<|D5 Y<|AC<|Zx<|Zg<|Zo Wh (Pa x.A15 Fk C1 Y) ?_;refine Xe (Xw C1 _) ?_;refine Z0<|A8<|Zx<|Zg<|Ya (n:=1) Y Y<|Zm Y<|Z0<|Zn [23,3,21,22] ?_;refine Aa (e':=[(23,_)]) (by exact ⟨i+1,x,V,⟨by omega,M7 K I (HS.1 U),Lg O I (il B (by unfold Chg.lt;omega)),.inr ⟨by omega,I⟩⟩,V,V⟩)
 refine Ay<|Zt<|Zt<|AR<|Zx<|A0<|A3 Y<|AJ<|AO rfl ew Y (by exact ⟨by rw [DA (⟨by omega,by omega,fun j c hc=>K j c (by have:=(BE.1 hc).1;omega) hc,fun j b c hb hc=>O j b c (by have:=(BE.1 hc).1;omega) hb hc⟩:EG p cs)],rfl⟩)
def Hl(ls:List Int):List UInt8:=ls.flatMap Tv
theorem Hg:∀(ls:List Int),(∀n∈ls,-4611686018427387903<=n/\n<=4611686018427387903)->(Hl ls).length<=ls.length*9
 |[],_=>by simp [Hl]
 |n::ls,h=>by
  have B:=Hg ls (fun m g=>h m (by simp [g]));have h2:=PH n (h n B0).1 (h n B0).2
  unfold Hl at*;rw [HH,B7,DE];omega
theorem YS(ls:List Int)(n:Int):Hl (ls++[n])=Hl ls++Tv n:=by simp [Hl]
theorem oU(g off cap:Nat)(cur:Array Value)(T:TypeId)(z:Nat×Nat)(ls:List Int)(I:Kt cur off ls)(hn:ls.length<=1073741824)(O:∀n∈ls,-4611686018427387903<=n/\n<=4611686018427387903):
 BJ prog 273 #[.slice (some ⟨g,off,none⟩) ls.length cap] [[(g,.cells cur T z)]] (.string (str (Hl ls))):=by
 have X:=mL;refine Se func273 ntmps273 [0] ?_;intro u R;refine A0<|A3 Y<|A0<|A3 Y<|Zq<|A0<|Zm Y<|Zv (Ab Cd Y)<|Zm Y<|A4<|AP<|Zb [3,10,8,9] ?_;refine BB (e0:=[(3,_),(10,_)]) (fun m e H=>∃(i:Nat),m=ls.length -i/\(i<=ls.length)/\e=[(3,.string (str (Hl (ls.take i)))),(10,I4 (i:Int))]/\H=[]) (by exact ⟨0,V,C0 _,V,V⟩) Wp ?_;rintro _ _ _ ⟨i,rfl,hi,rfl,rfl⟩;refine A0<|Zv (Au Y Y)<|A4<|Zq<|Av Y (fun G=>?_) (fun G=>?_)
 ·
  obtain ⟨x,K⟩:∃x,ls[i]?=some x:=⟨_,B4 G⟩;have B:=O x (DG K)
  have J:ls.take (i+1)=ls.take i++[x]:=by rw [P0,K];rfl
  have Z:=Hg (ls.take i) (fun m W=>O m (Nd W));have af:(ls.take i).length<=i:=List.length_take_le ..
  have U:=PH x B.1 B.2;refine AC<|Zx<|Zq<|AP<|A0<|BX (CW Cd A5 Y Y A1)<|Zl AE Y (hv:=by exact I i x K) ?_;refine A3 Y<|A0<|Zm Y<|Xr [_] Y call231 Y V (QX x B.1 B.2) ?_;refine Zm Y<|Zd Y rfl<|Zd Y rfl<|Za Y<|A3 Y<|Zg<|Zm Y<|Zm Y<|BX (MZ Y Y (by rw [Gj,Gj];omega))<|AG Y<|Zn [3,8,9,10] ?_;refine A8<|Zx<|Zg<|Ya (n:=1) Y Y<|Zm Y<|Z0<|Zn [3,10,8,9] ?_;refine Aa (e':=[(3,_),(10,_)]) (by exact ⟨i+1,rfl,by omega,by rw [J,YS,<-RD],rfl⟩)
 refine Ay<|Zt<|Zt<|AR<|Zx<|A0<|Zm Y<|A3 Y<|AJ<|AO rfl results273 Y (by exact ⟨by rw [Hi A1],rfl⟩)
structure Ik where
 p:Int
 ch:List UInt8
 st:List UInt8
variable{sz:Nat}{e:TypeId}{v:Value}{xs:List Value}{s:List A9}
theorem Ju{k:Nat}(h:Bc sz e v k xs s)(i:Nat)(hi:i<k):∃g cap cur z,v=I6 g k cap/\s=[(g,.cells cur e z)]/\i*sz+sz<=cur.size/\(cur.extract (i*sz) (i*sz+sz)).toList=(xs.drop (i*sz)).take sz:=by
 obtain ⟨K,⟨_,h0,_⟩|⟨g,cap,cur,z,rfl,rfl,B,hc,G,m,J⟩⟩:=h
 · omega
 · have I:i*sz+sz<=k*sz:=by
    have:=T6 sz (Nat.succ_le_of_lt hi);rw [Nat.succ_mul]at this;exact this
   have h2:k*sz<=cap*sz:=T6 sz B;refine ⟨g,cap,cur,z,V,V,by omega,?_⟩;rw [<-m,Array.toList_extract,pH,eC,TX];congr 1;omega
def Ae(rs:List AU):List Value:=rs.flatMap (fun r=>[I4 r.t,I4 r.k,I4 r.v.a,I4 r.v.b,I4 r.v.c])
theorem Iq{α:Type}(f:α->List Value)(sz:Nat)(g:∀a,(f a).length=sz):∀(l:List α) (i:Nat) (a:α),l[i]?=some a->((l.flatMap f).drop (i*sz)).take sz=f a
 |x::l,0,a,h=>by
  injection h with h;subst h
  rw [eI,PC,HH,a6 (by rw [g];exact CT _),Hi (by rw [g];exact CT _)]
 |x::l,i+1,a,h=>by
  have e1:(f x++l.flatMap f).drop sz=l.flatMap f:=by
   have m:=List.drop_left (l₁:=f x) (l₂:=l.flatMap f);rwa [g]at m
  rw [HH,Nat.succ_mul,Nat.add_comm,<-XS,e1];exact Iq f sz g l i a h
variable{rs:List AU}
theorem Pi(h:Bc 5 e v rs.length (Ae rs) s)(I:rs.length<=maxLen):gV s v rs:=by
 obtain ⟨b,cap,rfl⟩:=h.form;refine ⟨b,cap,V,I,fun i r G=>?_⟩;obtain ⟨g,B,cur,z,hv,rfl,J,m⟩:=Ju h i (BE.1 G).1;injection hv with hv1 hv2 hv3
 refine ⟨g,0,cur,e,z,hv1,BT.2 V,by omega,?_⟩;rw [D2];apply HI.1;rw [m];exact Iq _ 5 (fun _=>rfl) rs i r G
def Cg(cs:List Chg):List Value:=cs.flatMap (fun c=>[I4 c.t,I4 c.k,.bool c.had,I4 c.o.a,I4 c.o.b,I4 c.o.c,.bool c.has,I4 c.n.a,I4 c.n.b,I4 c.n.c])
theorem QH{rs:List Chg}(h:Bc 10 e v rs.length (Cg rs) s)(I:rs.length<=maxLen):Ck s v rs:=by
 obtain ⟨b,cap,rfl⟩:=h.form;refine ⟨b,cap,V,I,fun i r G=>?_⟩;obtain ⟨g,B,cur,z,hv,rfl,J,m⟩:=Ju h i (BE.1 G).1;injection hv with hv1 hv2 hv3
 refine ⟨g,0,cur,e,z,hv1,BT.2 V,by omega,?_⟩;rw [D2];apply HI.1;rw [m];exact Iq _ 10 (fun _=>rfl) rs i r G
theorem Lc:∀(rs:List AU) (t k:Int),BP rs->∃A B,rs=A++B/\A.length=Dw rs t k/\(∀r∈A,r.lt2 t k)/\(∀r∈B,¬r.lt2 t k)
 |[],t,k,_=>⟨[],[],rfl,rfl,by simp,by simp⟩
 |r::rs,t,k,hs=>by
  have m:=On.1 hs;by_cases h:r.lt2 t k
  · obtain ⟨A,B,G,h2,I,J⟩:=Lc rs t k m.2
    refine ⟨r::A,B,by rw [G];rfl,?_,?_,J⟩
    · unfold Dw at*
      rw [ON,AK (by simpa using h),DE,DE,h2]
    · intro x g
      rcases D0.1 g with rfl|g
      · exact h
      · exact I x g
  · refine ⟨[],r::rs,rfl,?_,by simp,?_⟩
    · unfold Dw
      rw [ON,AH (by simpa using h)]
    · intro x g hc
      rcases D0.1 g with rfl|g
      · exact h hc
      · exact h (Q8 (m.1 x g) hc)
variable{k t:Int}
theorem Vg{r:AU}(h:r.is t k):¬r.lt2 t k:=by unfold AU.is AU.lt2 at*;omega
theorem KE{r:AU}(m:BP rs)(K:r∈rs)(h:r.is t k):Fg rs t k=(r,true):=by
 obtain ⟨A,B,g,h2,O,U⟩:=Lc rs t k m;have J:r∈B:=by
  rw [g]at K;rcases B9.1 K with h9|h9
  · exact absurd (O r h9) (Vg h)
  · exact h9
 cases B with
 |nil=>cases J
 |cons b B=>
  have X:b=r:=by
   rcases D0.1 J with h9|h9
   · exact h9.symm
   · exfalso
     have G:BP (b::B):=by rw [g]at m;exact (O2.1 m).2.1
     have I:=(On.1 G).1 r h9;have W:=U b B0
     unfold AU.is at h;rw [h.1,h.2]at I;exact W I
  subst X;have Z:rs[Dw rs t k]?=some b:=by rw [<-h2,g,SJ (CT _),W1];rfl
  unfold Fg;rw [Z];simp only;rw [AK h]
theorem QB(h:∀r∈rs,¬r.is t k):Fg rs t k=(AU.zero,false):=by
 unfold Fg;split
 · rename_i r hr
   rw [AH (h r (DG hr))]
 · rfl
theorem JF(h:(Fg rs t k).2=true):∃r∈rs,r.is t k/\rs[Dw rs t k]?=some r/\Fg rs t k=(r,true):=by
 unfold Fg at*;split at h
 · rename_i r hr
   split at h
   · rename_i hi
     exact ⟨r,DG hr,hi,hr,by rw [AK hi]⟩
   · cases h
 · cases h
def GK(rs:List AU)(c:Chg):Prop:=(Fg rs c.t c.k).2=c.had/\((Fg rs c.t c.k).2=true->(Fg rs c.t c.k).1.v=c.o)
def Na(c:Chg):List AU:=if c.has then [⟨c.t,c.k,c.n⟩]else []
def EH(rs:List AU)(c:Chg):List AU:=rs.take (Dw rs c.t c.k)++Na c++(rs.drop (Dw rs c.t c.k)).drop (if c.had then 1 else 0)
theorem Lm{x:AU}:x∈Na c↔c.has=true/\x=⟨c.t,c.k,c.n⟩:=by
 unfold Na;cases c.has<;>simp
theorem Pq(K:BP rs)(hf:GK rs c):∃A B,EH rs c=A++Na c++B/\(∀x,x∈rs↔x∈A\/x∈B\/(x∈rs/\x.is c.t c.k))/\BP A/\BP B/\(∀r∈A,r.lt2 c.t c.k)/\(∀r∈B,c.t<r.t\/c.t=r.t/\c.k<r.k)/\rs.length=A.length+B.length+(if c.had then 1 else 0):=by
 obtain ⟨A,B,g,h2,h3,h4⟩:=Lc rs c.t c.k K;have U:BP A:=by rw [g]at K;exact (O2.1 K).1
 have W:BP B:=by rw [g]at K;exact (O2.1 K).2.1
 have ax:rs.take (Dw rs c.t c.k)=A:=by rw [<-h2,g,HJ rfl]
 have Z:rs.drop (Dw rs c.t c.k)=B:=by rw [<-h2,g,W0 rfl]
 unfold EH;rw [ax,Z];have G:∀x∈B,¬x.is c.t c.k->c.t<x.t\/c.t=x.t/\c.k<x.k:=fun x I hn=>by
  have J:=h4 x I;unfold AU.lt2 at J;unfold AU.is at hn;omega
 cases hh:c.had with
 |false=>
  have af:∀r∈rs,¬r.is c.t c.k:=fun r O hi=>by
   have J:=hf.1;rw [KE K O hi,hh]at J;cases J
  refine ⟨A,B,by simp,fun x=>?_,U,W,h3,fun r O=>G r O (af r (by rw [g];exact G1 _ O)),by rw [g];simp⟩;rw [g,B9];constructor
  · rintro (h|h)
    · exact .inl h
    · exact .inr (.inl h)
  · rintro (h|h|⟨h,_⟩)
    · exact .inl h
    · exact .inr h
    · exact h
 |true=>
  obtain ⟨r,O,hi,hp,hg⟩:=JF (by rw [hf.1,hh]:(Fg rs c.t c.k).2=true);have X:B[0]?=some r:=by rw [<-h2,g,SJ (CT _),W1]at hp;exact hp
  cases B with
  |nil=>cases X
  |cons b B=>
   injection X with X
   subst X;have m:=On.1 W
   refine ⟨A,B,by simp,fun x=>?_,U,m.2,h3,fun x I=>?_,by rw [g];simp;omega⟩
   · constructor
     · intro I
       have bn:=I;rw [g]at I;rcases B9.1 I with h|h
       · exact .inl h
       · rcases D0.1 h with rfl|h
         · exact .inr (.inr ⟨bn,hi⟩)
         · exact .inr (.inl h)
     · rintro (h|h|⟨h,_⟩)
       · rw [g];exact DS _ h
       · rw [g];exact G1 _ (E3 _ h)
       · exact h
   · have J:=m.1 x I
     unfold AU.lt2 at J;unfold AU.is at hi;omega
theorem Fy(W:BP rs)(U:GK rs c)(x:AU):x∈EH rs c↔(x∈rs/\¬x.is c.t c.k)\/(c.has=true/\x=⟨c.t,c.k,c.n⟩):=by
 obtain ⟨A,B,J,h2,_,_,K,O,_⟩:=Pq W U;rw [J,B9,B9,Lm];have G:∀x∈A,¬x.is c.t c.k:=fun x m hi=>Vg hi (K x m)
 have I:∀x∈B,¬x.is c.t c.k:=fun x m hi=>by have g:=O x m;unfold AU.is at hi;omega
 constructor
 · rintro ((h|h)|h)
   · exact .inl ⟨(h2 x).2 (.inl h),G x h⟩
   · exact .inr h
   · exact .inl ⟨(h2 x).2 (.inr (.inl h)),I x h⟩
 · rintro (⟨h,hn⟩|h)
   · rcases (h2 x).1 h with g|g|⟨_,g⟩
     · exact .inl (.inl g)
     · exact .inr g
     · exact absurd g hn
   · exact .inl (.inr h)
theorem J8(X:BP rs)(W:GK rs c):BP (EH rs c):=by
 obtain ⟨A,B,K,_,O,U,I,J,_⟩:=Pq X W;rw [K];have m:∀a b:AU,a.lt2 c.t c.k->(c.t<b.t\/c.t=b.t/\c.k<b.k)->a.lt2 b.t b.k:=fun a b g G=>by unfold AU.lt2 at*;omega
 refine O2.2 ⟨O2.2 ⟨O,?_,?_⟩,U,?_⟩
 · unfold Na;split<;>simp
 · intro a g b G
   obtain ⟨_,rfl⟩:=Lm.1 G;exact I a g
 · intro a g b G
   rcases B9.1 g with g|g
   · exact m a b (I a g) (J b G)
   · obtain ⟨_,rfl⟩:=Lm.1 g
     have:=J b G;unfold AU.lt2;simp only;omega
theorem wL(I:BP rs)(G:GK rs c):((EH rs c).length:Int)=rs.length+(if c.has then 1 else 0) -(if c.had then 1 else 0):=by
 obtain ⟨A,B,g,_,_,_,_,_,m⟩:=Pq I G;rw [g,m];unfold Na;cases c.has<;>cases c.had<;>simp<;>omega
theorem xB(B:BP rs)(G:GK rs c)(I:¬(c.t=t/\c.k=k)):Fg (EH rs c) t k=Fg rs t k:=by
 cases hg:(Fg rs t k).2 with
 |true=>
  obtain ⟨r,m,hi,_,J⟩:=JF hg;rw [J];exact KE (J8 B G) ((Fy B G r).2 (.inl ⟨m,fun h=>by unfold AU.is at h hi;omega⟩)) hi
 |false=>
  have g:∀r∈rs,¬r.is t k:=fun r m hi=>by rw [KE B m hi]at hg;cases hg
  rw [QB g];refine QB fun r m hi=>?_;rcases (Fy B G r).1 m with⟨h,_⟩|⟨_,rfl⟩
  · exact g r h hi
  · exact I hi
def DL(rs:List AU)(cs:List Chg):List AU:=cs.foldl EH rs
theorem EL(rs:List AU)(cs:List Chg)(i:Nat)(c:Chg)(h:cs[i]?=some c):DL rs (cs.take (i+1))=EH (DL rs (cs.take i)) c:=by
 unfold DL;rw [P0,h,X2];rfl
def xh(cs:List Chg):Prop:=∀(i j:Nat) (b c:Chg),i<j->cs[i]?=some b->cs[j]?=some c->b.lt c
theorem nH{a b:Chg}(h:a.lt b)(h2:b.lt c):a.lt c:=by unfold Chg.lt at*;omega
theorem U7(h:∀(i:Nat) (b c:Chg),cs[i]?=some b->cs[i+1]?=some c->b.lt c):xh cs:=by
 intro i j b c g B hc;obtain ⟨d,rfl⟩:∃d,j=i+1+d:=⟨j -(i+1),by omega⟩;clear g;induction d generalizing c with
 |zero=>exact h i b c B hc
 |succ d ih=>
  obtain ⟨x,m⟩:∃x,cs[i+1+d]?=some x:=by
   have:=(BE.1 hc).1;exact ⟨_,B4 A1⟩
  exact nH (ih x m) (h (i+1+d) x c m hc)
theorem KF{rs:List AU}{cs:List Chg}(K:BP rs)(I:xh cs)(J:∀c∈cs,GK rs c):∀i,i<=cs.length->BP (DL rs (cs.take i))/\∀(j:Nat) (c:Chg),i<=j->cs[j]?=some c->GK (DL rs (cs.take i)) c
 |0,_=>⟨K,fun j c _ hc=>J c (DG hc)⟩
 |i+1,hi=>by
  obtain ⟨G,h2⟩:=KF K I J i A1;obtain ⟨x,B⟩:∃x,cs[i]?=some x:=⟨_,B4 A1⟩;rw [EL rs cs i x B];have g:=h2 i x (CT _) B
  refine ⟨J8 G g,fun j c U hc=>?_⟩;have m:=I i j x c A1 B hc
  have O:=h2 j c A1 hc;unfold GK at*;rw [xB G g (by unfold Chg.lt at m;omega)];exact O
def Mv(c:Chg):Int:=(if c.has then 1 else 0) -(if c.had then 1 else 0)
def Gm(rs:List AU)(cs:List Chg):Int:=cs.foldl (fun n c=>n+Mv c) (rs.length:Int)
theorem HV(rs:List AU)(cs:List Chg)(i:Nat)(c:Chg)(h:cs[i]?=some c):Gm rs (cs.take (i+1))=Gm rs (cs.take i)+Mv c:=by
 unfold Gm;rw [P0,h,X2];rfl
theorem oK(c:Chg):-1<=Mv c/\Mv c<=1:=by unfold Mv;split<;>split<;>omega
theorem OJ(rs:List AU)(cs:List Chg):∀i,(rs.length:Int) -i<=Gm rs (cs.take i)/\Gm rs (cs.take i)<=rs.length+i
 |0=>by unfold Gm;simp
 |i+1=>by
  have m:=OJ rs cs i;cases h:cs[i]?with
  |none=>rw [P0,h];simp only [Option.toList,Cp];omega
  |some c=>have g:=oK c;rw [HV rs cs i c h];omega
theorem Nc{rs:List AU}{cs:List Chg}(G:BP rs)(m:xh cs)(B:∀c∈cs,GK rs c):∀i,i<=cs.length->((DL rs (cs.take i)).length:Int)=Gm rs (cs.take i)
 |0,_=>rfl
 |i+1,hi=>by
  obtain ⟨x,g⟩:∃x,cs[i]?=some x:=⟨_,B4 A1⟩;have J:=Nc G m B i A1
  obtain ⟨I,h2⟩:=KF G m B i A1;rw [EL rs cs i x g,HV rs cs i x g,wL I (h2 i x (CT _) g),J];unfold Mv;omega
structure KN(rs:List AU)(p rp:Int)(cs:List Chg):Prop where
 ok:EG rp cs
 pos:rp=p+1
 fit:∀c∈cs,GK rs c
 size:Gm rs cs<=2000
theorem IQ(h:∀c∈cs.take i,GK rs c)(m:cs[i]?=some x)(g:GK rs x):∀c∈cs.take (i+1),GK rs c:=by
 rw [P0,m];intro c hc;rcases B9.1 hc with h9|h9
 · exact h c h9
 · rw [BT.1 h9];exact g
theorem Bi(a b:List AU):Ae (a++b)=Ae a++Ae b:=by unfold Ae;rw [OK]
theorem BF:∀(rs:List AU),(Ae rs).length=rs.length*5
 |[]=>rfl
 |r::rs=>by
  have:=BF rs;unfold Ae at*;rw [HH,B7,this,DE];simp;omega
theorem EA(rs:List AU)(k:Nat):(Ae rs).take (k*5)=Ae (rs.take k):=by
 rcases EV rs.length k with h|h
 · rw [Hi (by rw [BF];omega),Hi A1]
 · have e:Ae rs=Ae (rs.take k)++Ae (rs.drop k):=by rw [<-Bi,Hx]
   rw [e,HJ (by rw [BF,C2];omega)]
theorem De(rs:List AU)(k:Nat):(Ae rs).drop (k*5)=Ae (rs.drop k):=by
 rcases EV rs.length k with h|h
 · rw [SO (by rw [BF];omega),SO A1];rfl
 · have e:Ae rs=Ae (rs.take k)++Ae (rs.drop k):=by rw [<-Bi,Hx]
   rw [e,W0 (by rw [BF,C2];omega)]
theorem CR(rs:List AU):∀u∈Ae rs,u.oneCell'=true:=by
 intro u g;unfold Ae at g;obtain ⟨r,_,h⟩:=RT.1 g;simp only [D0,RM,SD]at h;rcases h with rfl|rfl|rfl|rfl|rfl<;>rfl
theorem BR{n n':Nat}{xs':List Value}(h:Bc sz e v n xs s)(g:n=n')(m:xs=xs'):Bc sz e v n' xs' s:=by subst g m;exact h
theorem Es{b:Option Addr}{n c:Nat}(h:Bc sz e (.slice b n c) n xs s):n<=c:=by
 obtain ⟨_,⟨hv,h0,_⟩|⟨_,_,_,_,hv,_,h2,_⟩⟩:=h
 · omega
 · injection hv with _ _ hv3;omega
theorem Ur(sz:Nat)(b:Option Addr)(c:Nat):NI sz (.slice b 0 c) 0 [] []:=⟨by simp,.inl ⟨rfl,b,c,rfl⟩⟩
theorem DJ(sz g k c:Nat)(e:TypeId)(z:Nat×Nat)(xs:List Value)(h:xs.length=k*sz):NI sz (I6 g k c) k xs [(g,.cells xs.toArray e z)]:=
 ⟨h,.inr ⟨g,0,c,xs.toArray,e,z,rfl,rfl,by unfold Bz;rw [PC];simp⟩⟩
theorem X3(h:c.has=true):Na c=[⟨c.t,c.k,c.n⟩]:=AK h
theorem X4(h:c.has=false):Na c=[]:=AH (by rw [h];decide)
theorem iB(m:cs[i]?=some x)(g:x.had=true)(h2:x.has=true):Gm rs (cs.take (i+1))=Gm rs (cs.take i) -1+1:=by rw [HV rs cs i x m];unfold Mv;rw [AK h2,AK g];omega
theorem iC(m:cs[i]?=some x)(g:x.had=true)(h2:x.has=false):Gm rs (cs.take (i+1))=Gm rs (cs.take i) -1:=by rw [HV rs cs i x m];unfold Mv;rw [AH (by rw [h2];decide),AK g];omega
theorem iD(m:cs[i]?=some x)(g:x.had=false)(h2:x.has=true):Gm rs (cs.take (i+1))=Gm rs (cs.take i)+1:=by rw [HV rs cs i x m];unfold Mv;rw [AK h2,AH (by rw [g];decide)];omega
theorem iE(m:cs[i]?=some x)(g:x.had=false)(h2:x.has=false):Gm rs (cs.take (i+1))=Gm rs (cs.take i):=by rw [HV rs cs i x m];unfold Mv;rw [AH (by rw [h2];decide),AH (by rw [g];decide)];omega
theorem pM(sp:Nat)(p rp:Int)(v:Value)(rs:List AU)(sv M:List A9)(q:Option Addr)(bn:Nat)(cs:List Chg)(gq:Bc 5 83 v rs.length (Ae rs) sv)(hO:Ck M (.slice q cs.length bn) cs)(hs:BP rs)(hn:rs.length<=2000)(hp:0<=p/\p<=10000):
 Ba prog 33 #[I5 sp,.agg #[I4 rp,.slice q cs.length bn]] [[(sp,.cells #[v,I4 p] 87 (0,0))],sv,M] (fun r H'=>(KN rs p rp cs/\∃v' pg,r=I4 0/\Bc 5 83 v' (DL rs cs).length (Ae (DL rs cs)) pg/\H'=[[(sp,.cells #[v',I4 rp] 87 (0,0))],pg,M])\/(¬KN rs p rp cs/\r=I4 40/\H'=[[(sp,.cells #[v,I4 p] 87 (0,0))],sv,M])):=by
 have r9:=mL;obtain ⟨qv,l8,rfl⟩:=gq.form;have pq:=Pi gq A1
 obtain ⟨p9,ql,e9,sj,hg⟩:=id hO;injection e9 with e91 e92 e93
 subst e91 e93;refine Se func33 ntmps33 [0,1] ?_;intro u R;refine A0<|Ze (Bx #[_,_])<|AD fun rb=>A3 Y<|A0<|Zo Wh (Pa #[_,_] Hc F2 Y) ?_;refine Xr [_] Y call79 Y V (jy rp q bn cs M hO) ?_;refine A3 Y<|Zq<|Zq<|Az (n:=12) (0::1::3::7::15::7::39::103::231::487::1023::2047::[]) 0 A6 A6 V<|A2 0 V (AQ Y)<|A2 1 V (DD Y)<|A2 2 V (AQ Y)<|Db (t:=23) Y (fun hv=>?_) (fun hv=>?_)
 ·
  rw [DA hv];refine AF 3 V<|AF 4 V<|AF 5 V<|AF 6 V<|AF 7 V<|AF 8 V<|AF 9 V<|AF 10 V<|A2 11 V (AX Y Y)<|Ai<|Zn [0,3,32] ?_;refine Zx<|Cn Y<|A0<|A3 Y<|AJ<|Zt<|AO V ey Y (by exact .inr ⟨fun h=>hv h.ok,V,V⟩)
 rw [CI hv];refine An 3 V (AB (off:=0) GF V rfl A5 Y)<|DQ 4 V Wh (BO AE Y AM) ?_;refine An 5 V (AQ Y)<|An 6 V (Ap Y V)<|An 7 V (AB (off:=1) Hs V rfl A5 Y)<|DQ 8 V Wh (BO AE Y AM) ?_
 (refine An 9 rfl (H6 Y Y (IntWalk.i64_in _ ?_)) ?_;(focus (omega)))
 refine An 10 V (Kw Y Y)<|A2 11 V (AL Y Y)<|Ai<|Zn [0,3,32] ?_;refine Zx<|Av Y (fun gm=>?_) (fun gm=>?_)
 ·
  refine A0<|A3 Y<|AJ<|Zt<|AO V ey Y (by exact .inr ⟨fun h=>gm h.pos,V,V⟩)
 refine AC<|Zx<|Zq ?_;have l5:=HS.1 hv
 have qb:=HS.1 gm;have qo:=l5.len
 have j3:=U7 l5.ord;refine Zg<|Zm Y<|Zp Y V<|Zh 0 Hs V rfl C5 Y<|Zl Fl Y ?_;refine Zv (Ab B6 Y)<|A3 Y<|Zq<|A0<|A3 Y<|AP<|Zb [6,7,0,3] ?_;refine BB (e0:=[(6,_),(7,_)]) (fun m e H=>∃(i:Nat),m=cs.length -i/\(i<=cs.length/\(∀c∈cs.take i,GK rs c))/\e=[(6,I4 (Gm rs (cs.take i))),(7,I4 (i:Int))]/\H=[]) (by exact ⟨0,V,⟨C0 _,by simp⟩,V,V⟩) Wp ?_;rintro _ _ _ ⟨i,rfl,⟨hi,I⟩,rfl,rfl⟩;have o9:=OJ rs cs i
 refine Zq<|A0<|Zm Y<|Zh 1 GF V rfl Ks Y<|Zl Lq Y ?_;refine Zv (Ab G3 Y)<|Zv (Au Y Y)<|A4<|Av Y (fun d9=>?_) (fun d9=>?_)
 ·
  refine AC<|Zx<|Zq<|AP<|Zq ?_;obtain ⟨x,O⟩:∃x,cs[i]?=some x:=⟨_,B4 d9⟩;obtain ⟨g,off,cur,T,zz,rfl,hm,qj,kv⟩:=hg i x O;refine Zg<|Zh 1 GF V rfl Ks Y<|Zl Lq Y ?_;refine Zm Y<|BX (Ad G3 C1 Y Y A1)<|CO (cs:=[(g,.cells cur T zz)]) (by simp [hm]) (AA (cs:=x.A15) Fk C1 Y A1 kv) V rfl ?_;refine Ze (Al LI #[_,_,_,_,_,_,_,_,_,_])<|AD fun cb=>Xe (Xw C1 x.A15) ?_;refine A4<|A0<|Zm Y<|Zh 0 B8 V rfl A5 Y<|Zl AE Y ?_;refine Zh 1 B8 V rfl A5 Y<|Zl AE Y ?_;refine Xr [_,_,_] Y call32 Y V (pK sp qv l8 p x.t x.k rs sv pq A1 hs) ?_;obtain ⟨gr,cO⟩:∃gr,gr=Fg rs x.t x.k:=⟨_,rfl⟩;rw [<-cO];refine Zm Y<|Zd Y V<|Zd Y V<|Ze (Al DP #[_,_,_,_,_])<|AD fun xb=>Xe (Xw AW #[I4 gr.1.t,I4 gr.1.k,I4 gr.1.v.a,I4 gr.1.v.b,I4 gr.1.v.c]) ?_;refine AG Y<|Zn [0,3,6,7,8,9,10] ?_;refine Zx<|Zq<|A0<|Zm Y<|Zh 2 B8 V rfl CD Y<|Zl E4 Y ?_;refine Zv (KX Pu Y Y)<|Zm Y<|Ao (t:=63) Y V (fun gy=>?_) (fun gy=>?_)
  ·
   repeat refine A7 Y rfl ?_
   refine Zv (AX Y Y)<|Z0<|Zn [0,3,6,7,8,72] ?_;refine Zx<|Cn Y<|A0<|A3 Y<|AJ<|Zt<|Ac<|Zt<|Zt<|Ac<|Zt<|AO rfl ey Y (by exact .inr ⟨fun h=>by have h9:=(h.fit x (DG O)).1;rw [<-cO]at h9;exact gy h9,rfl,rfl⟩)
  refine Zf Y Y<|Zf Y Y ?_;refine Af (t:=65) Y V (fun ic=>?_) (fun ic=>?_)
  ·
   refine Yf 2 Fi V rfl DB Y<|E5 Y Wh (Pa #[_,_,_] HB DB Y) V rfl ?_;refine Yf 3 B8 V rfl DB Y<|E5 Y Wh (AA (cs:=#[_,_,_]) HB DB Y As AM) V rfl ?_;refine Yg (KY A6 Hj Cl AE A5 Y Y) ?_;refine Yg (AX Y Y)<|Zv (AL Y Y)<|Z0<|Zn [0,3,6,7,8,72] ?_;refine Zx<|Av Y (fun j5=>?_) (fun j5=>?_)
   ·
    refine A0<|A3 Y<|AJ<|Zt<|Ac<|Zt<|Zt<|Ac<|Zt<|AO rfl ey Y (by exact .inr ⟨fun h=>by have h9:=(h.fit x (DG O)).2;rw [<-cO]at h9;exact j5 (h9 ic),rfl,rfl⟩)
   refine AC<|Zx<|Zq<|Zq ?_;have U:GK rs x:=by
    unfold GK;rw [<-cO];refine ⟨by simpa using gy,fun h=>?_⟩;exact HS.1 j5
   refine Zg<|Zh 2 B8 V rfl CD Y<|Zl E4 Y ?_;refine A4<|AV Y (fun G=>?_) (fun G=>?_)
   ·
    refine Zg<|Zm Y ?_
    (refine BX (GG Y Y (IntWalk.i64_in _ ?_)) ?_;(focus (omega)))
    refine A3 Y<|A0<|Zh 6 B8 V rfl CD Y<|Zl E4 Y ?_;refine A4<|AV Y (fun B=>?_) (fun B=>?_)
    ·
     refine Zg<|Zm Y<|Yi Y Y<|AG Y<|A8<|Zx<|Zg<|Zm Y<|Ya (n:=1) Y Y<|AG Y<|Zn [6,7,0,3] ?_;refine Aa (e':=[(6,_),(7,_)]) (by exact ⟨i+1,rfl,⟨by omega,IQ I O U⟩,by rw [iB O G B],rfl⟩)
    refine AC<|A8<|Zx<|Zg<|Zm Y<|Ya (n:=1) Y Y<|AG Y<|Zn [6,7,0,3] ?_;refine Aa (e':=[(6,_),(7,_)]) (by exact ⟨i+1,rfl,⟨by omega,IQ I O U⟩,by rw [iC O G B],rfl⟩)
   refine AC<|Zx<|A0<|Zh 6 B8 V rfl CD Y<|Zl E4 Y ?_;refine A4<|AV Y (fun B=>?_) (fun B=>?_)
   ·
    refine Zg<|Zm Y<|Yi Y Y<|AG Y<|A8<|Zx<|Zg<|Zm Y<|Ya (n:=1) Y Y<|AG Y<|Zn [6,7,0,3] ?_;refine Aa (e':=[(6,_),(7,_)]) (by exact ⟨i+1,rfl,⟨by omega,IQ I O U⟩,by rw [iD O G B],rfl⟩)
   refine AC<|A8<|Zx<|Zg<|Zm Y<|Ya (n:=1) Y Y<|AG Y<|Zn [6,7,0,3] ?_;refine Aa (e':=[(6,_),(7,_)]) (by exact ⟨i+1,rfl,⟨by omega,IQ I O U⟩,by rw [iE O G B],rfl⟩)
  repeat refine A7 Y rfl ?_
  refine Yg (AL Y Y)<|Zv (AL Y Y)<|Z0<|Zn [0,3,6,7,8,72] ?_;refine Zx<|D5 Y<|AC<|Zx<|Zq<|Zq ?_;have U:GK rs x:=by
   unfold GK;rw [<-cO];refine ⟨by simpa using gy,fun h=>?_⟩
   (rw [h]at ic;cases ic)
  refine Zg<|Zh 2 B8 V rfl CD Y<|Zl E4 Y ?_;refine A4<|AV Y (fun G=>?_) (fun G=>?_)
  ·
   refine Zg<|Zm Y ?_
   (refine BX (GG Y Y (IntWalk.i64_in _ ?_)) ?_;(focus (omega)))
   refine A3 Y<|A0<|Zh 6 B8 V rfl CD Y<|Zl E4 Y ?_;refine A4<|AV Y (fun B=>?_) (fun B=>?_)
   ·
    refine Zg<|Zm Y<|Yi Y Y<|AG Y<|A8<|Zx<|Zg<|Zm Y<|Ya (n:=1) Y Y<|AG Y<|Zn [6,7,0,3] ?_;refine Aa (e':=[(6,_),(7,_)]) (by exact ⟨i+1,rfl,⟨by omega,IQ I O U⟩,by rw [iB O G B],rfl⟩)
   refine AC<|A8<|Zx<|Zg<|Zm Y<|Ya (n:=1) Y Y<|AG Y<|Zn [6,7,0,3] ?_;refine Aa (e':=[(6,_),(7,_)]) (by exact ⟨i+1,rfl,⟨by omega,IQ I O U⟩,by rw [iC O G B],rfl⟩)
  refine AC<|Zx<|A0<|Zh 6 B8 V rfl CD Y<|Zl E4 Y ?_;refine A4<|AV Y (fun B=>?_) (fun B=>?_)
  ·
   refine Zg<|Zm Y<|Yi Y Y<|AG Y<|A8<|Zx<|Zg<|Zm Y<|Ya (n:=1) Y Y<|AG Y<|Zn [6,7,0,3] ?_;refine Aa (e':=[(6,_),(7,_)]) (by exact ⟨i+1,rfl,⟨by omega,IQ I O U⟩,by rw [iD O G B],rfl⟩)
  refine AC<|A8<|Zx<|Zg<|Zm Y<|Ya (n:=1) Y Y<|AG Y<|Zn [6,7,0,3] ?_;refine Aa (e':=[(6,_),(7,_)]) (by exact ⟨i+1,rfl,⟨by omega,IQ I O U⟩,by rw [iE O G B],rfl⟩)
 have ei:i=cs.length:=by omega
 subst ei;rw [FF]at I o9⊢;refine Ay<|Zt<|Zt<|AR<|Zx<|Zq<|A0<|Zm Y<|Zv (Ep Y Y)<|A4<|Av Y (fun l9=>?_) (fun l9=>?_)
 ·
  refine A0<|A3 Y<|AJ<|Zt<|AO V ey Y (by exact .inr ⟨fun h=>by have h9:=h.size;omega,V,V⟩)
 refine AC<|Zx<|Zq<|A0<|A3 Y<|AP<|Zb [11,0,3] ?_;refine BB (e0:=[(11,_)]) (fun m e H=>∃(i:Nat) (w:Value) (sw:List A9),m=cs.length -i/\(i<=cs.length/\Bc 5 83 w (DL rs (cs.take i)).length (Ae (DL rs (cs.take i))) sw)/\e=[(11,I4 (i:Int))]/\H=[[(sp,.cells #[w,I4 p] 87 (0,0))],sw]) (by exact ⟨0,_,sv,V,⟨C0 _,gq⟩,V,V⟩) Wp ?_;rintro _ _ _ ⟨i,w,sw,rfl,⟨hi,K⟩,rfl,rfl⟩;obtain ⟨p8,o8⟩:=KF hs j3 I i hi;have qa:=Nc hs j3 I i hi
 have o9:=OJ rs cs i;obtain ⟨qs,ax⟩:∃qs,qs=DL rs (cs.take i):=⟨_,rfl⟩;rw [<-ax]at K p8 qa o8;obtain ⟨qw,cu,rfl⟩:=K.form;have qx:=Es K
 have pz:=Pi K A1;refine Zq<|A0<|Zm Y<|Zh 1 GF V rfl Ks Y<|Zl Lq Y ?_;refine Zv (Ab G3 Y)<|Zv (Au Y Y)<|A4<|Av Y (fun d9=>?_) (fun d9=>?_)
 ·
  refine AC<|Zx<|Zq<|AP<|Zq ?_;obtain ⟨x,O⟩:∃x,cs[i]?=some x:=⟨_,B4 d9⟩;obtain ⟨g,off,cur,T,zz,rfl,hm,qj,kv⟩:=hg i x O;have U:=o8 i x (CT _) O
  have ek:=VL qs x.t x.k;have J:EH qs x=qs.take (Dw qs x.t x.k)++Na x++(qs.drop (Dw qs x.t x.k)).drop (if x.had then 1 else 0):=rfl
  obtain ⟨k,hk⟩:∃k,k=Dw qs x.t x.k:=⟨_,rfl⟩;have q9:x.had=true->k<qs.length:=fun h=>by
   obtain ⟨r,_,_,h9,_⟩:=JF (by rw [U.1,h]:(Fg qs x.t x.k).2=true);rw [<-hk]at h9;exact (BE.1 h9).1
  rw [<-hk]at ek J;refine Zg<|Zh 1 GF V rfl Ks Y<|Zl Lq Y ?_;refine Zm Y<|BX (Ad G3 C1 Y Y A1)<|CO (cs:=[(g,.cells cur T zz)]) (by simp [hm]) (AA (cs:=x.A15) Fk C1 Y A1 kv) V rfl ?_;refine Ze (Al LI #[_,_,_,_,_,_,_,_,_,_])<|AD fun cb=>Xe (Xw C1 x.A15) ?_;refine A4<|A0<|Zm Y<|Zh 0 B8 V rfl A5 Y<|Zl AE Y ?_;refine Zh 1 B8 V rfl A5 Y<|Zl AE Y ?_;refine Xr [_,_,_] Y call78 Y V (YO sp qw cu p x.t x.k qs sw pz A1 p8) ?_;rw [<-hk];refine AG Y<|Zn [0,3,11,12,13] ?_;refine Zx<|A0<|Zm Y<|Zp Y V<|Zh 0 Hs V rfl C5 Y<|Zl Fl Y ?_;refine Zm Y<|BX (C8 B6 AW Y Y A1)<|A3 Y<|Zq<|A0<|Zh 2 B8 V rfl CD Y<|Zl E4 Y ?_;refine A4<|AV Y (fun G=>?_) (fun G=>?_)
  ·
   have qz:=q9 G;refine Zg<|Zm Y<|BX (C8 (l:=1) B6 AW Y Y A1)<|A3 Y<|A0<|AG Y<|Zn [0,3,11,12,13,14,15] ?_;refine Zx<|A0<|Zo Wh (Pa #[_,_,_,_,_,_,_,_,_,_] Fk C1 Y) ?_;refine Xr [_] Y call80 Y V (SK x) ?_;refine Zm Y<|Zd Y V<|Zd Y V<|Ze (Al DP #[_,_,_,_,_])<|AD fun xb=>Xe (Xw AW x.after.A16) ?_;refine A3 Y<|Zq<|A0<|Zm Y<|A4<|AV Y (fun B=>?_) (fun B=>?_)
   ·
    refine Zg<|Zo Wh (Pa #[_,_,_,_,_] CH AW Y) ?_;refine Ze (Ah (vs:=[_]) (cs:=[_,_,_,_,_]) B6 AW DP Y V rfl V rfl V)<|AD fun gb=>A3 Y<|A0<|AG Y<|Zn [0,3,11,13,14,15,18] ?_;refine Zx<|Zq<|BV<|Zg<|Zm Y<|Zm Y<|Zp Y V<|Zh 0 Hs V rfl C5 Y<|Zl Fl Y ?_;refine Zm Y<|BX (Bq B6 AW Y Y A1)<|Ze (BQ (by_:=40) (sz:=5) B6 (V:Tryz.prog.info? 83=some Tryz.t83) V rfl V rfl Y (Bf 5 _) Y (Jr K k _ ek) Wo Wo (by exact fun u hu=>CR qs u (Nd hu)) A1 A1) ?_;rintro _ _ ⟨sa,X,rfl⟩;obtain ⟨ga,ca,rfl⟩:=X.form;refine Zm Y<|Ze (BQ (by_:=40) (sz:=5) B6 (V:Tryz.prog.info? 83=some Tryz.t83) V rfl V rfl Y (X) Y (DJ 5 gb 1 1 83 (0,0) (Ae [x.after]) V) Wo Wo (by exact CR _) A1 A1) ?_;rintro _ _ ⟨sb,Z,rfl⟩;obtain ⟨gb,cb,rfl⟩:=Z.form;refine Zm Y<|Ze (BQ (by_:=40) (sz:=5) B6 (V:Tryz.prog.info? 83=some Tryz.t83) V rfl V rfl Y (Z) Y (Y4 (Js K k (qs.length -k) (cu -k) A1) 1 (qs.length -k -1) _ A1 A1) Wo Wo (by exact fun u hu=>CR qs u (I0 (I0 hu))) A1 A1) ?_;rintro _ _ ⟨sc,af,rfl⟩;have W:=BR af (n':=(EH qs x).length) (xs':=Ae (EH qs x)) (by rw [J,X3 B,AK G,B7,B7,C2,C3,C3];simp only [DE,It];omega) (by rw [J,X3 B,AK G,Bi,Bi,<-EA,<-De (qs.drop k) 1,<-De];rw [Kr B];rfl)
    obtain ⟨gc,cc,rfl⟩:=af.form;refine AG Y<|Zn [0,3,11,18] ?_;refine Zx<|Zg<|Zm Y<|Zm Y<|Zp Y V<|Zh 0 Hs V rfl C5 Y<|Xe (Zs C5 Y Y V) ?_;refine Z0<|A8<|Zx<|Zg<|Zm Y<|Ya (n:=1) Y Y<|AG Y<|Zn [11,0,3] ?_;refine Aa (e':=[(11,_)]) (by exact ⟨i+1,_,_,rfl,⟨by omega,by rw [EL rs cs i x O,<-ax];exact W⟩,rfl,rfl⟩)
   refine BV<|AC<|Zx<|A0<|A3 Y<|Zq<|BV<|Zg<|Zm Y<|Zm Y<|Zp Y V<|Zh 0 Hs V rfl C5 Y<|Zl Fl Y ?_;refine Zm Y<|BX (Bq B6 AW Y Y A1)<|Ze (BQ (by_:=40) (sz:=5) B6 (V:Tryz.prog.info? 83=some Tryz.t83) V rfl V rfl Y (Bf 5 _) Y (Jr K k _ ek) Wo Wo (by exact fun u hu=>CR qs u (Nd hu)) A1 A1) ?_;rintro _ _ ⟨sa,X,rfl⟩;obtain ⟨ga,ca,rfl⟩:=X.form;refine Zm Y<|Ze (BQ (by_:=40) (sz:=5) B6 (V:Tryz.prog.info? 83=some Tryz.t83) V rfl V rfl Y (X) Y (Ur 5 none 0) Wo Wo B0 A1 A1) ?_;rintro _ _ ⟨sb,Z,rfl⟩;obtain ⟨gb,cb,rfl⟩:=Z.form;refine Zm Y<|Ze (BQ (by_:=40) (sz:=5) B6 (V:Tryz.prog.info? 83=some Tryz.t83) V rfl V rfl Y (Z) Y (Y4 (Js K k (qs.length -k) (cu -k) A1) 1 (qs.length -k -1) _ A1 A1) Wo Wo (by exact fun u hu=>CR qs u (I0 (I0 hu))) A1 A1) ?_;rintro _ _ ⟨sc,af,rfl⟩;have W:=BR af (n':=(EH qs x).length) (xs':=Ae (EH qs x)) (by rw [J,X4 B,AK G,B7,B7,C2,C3,C3];simp only [DE,It];omega) (by rw [J,X4 B,AK G,Bi,Bi,<-EA,<-De (qs.drop k) 1,<-De];rfl)
   obtain ⟨gc,cc,rfl⟩:=af.form;refine AG Y<|Zn [0,3,11,18] ?_;refine Zx<|Zg<|Zm Y<|Zm Y<|Zp Y V<|Zh 0 Hs V rfl C5 Y<|Xe (Zs C5 Y Y V) ?_;refine Z0<|A8<|Zx<|Zg<|Zm Y<|Ya (n:=1) Y Y<|AG Y<|Zn [11,0,3] ?_;refine Aa (e':=[(11,_)]) (by exact ⟨i+1,_,_,rfl,⟨by omega,by rw [EL rs cs i x O,<-ax];exact W⟩,rfl,rfl⟩)
  refine AC<|Zx<|A0<|A3 Y<|A0<|Zo Wh (Pa #[_,_,_,_,_,_,_,_,_,_] Fk C1 Y) ?_;refine Xr [_] Y call80 Y V (SK x) ?_;refine Zm Y<|Zd Y V<|Zd Y V<|Ze (Al DP #[_,_,_,_,_])<|AD fun xb=>Xe (Xw AW x.after.A16) ?_;refine AG Y<|Zn [0,3,11,13,14,15,16,17] ?_;refine Zx<|Zq<|A0<|Zm Y<|A4<|AV Y (fun B=>?_) (fun B=>?_)
  ·
   refine Zg<|Zo Wh (Pa #[_,_,_,_,_] CH AW Y) ?_;refine Ze (Ah (vs:=[_]) (cs:=[_,_,_,_,_]) B6 AW DP Y V rfl V rfl V)<|AD fun gb=>A3 Y<|A0<|A3 Y<|Zq<|BV<|Zg<|Zm Y<|Zm Y<|Zp Y V<|Zh 0 Hs V rfl C5 Y<|Zl Fl Y ?_;refine Zm Y<|BX (Bq B6 AW Y Y A1)<|Ze (BQ (by_:=40) (sz:=5) B6 (V:Tryz.prog.info? 83=some Tryz.t83) V rfl V rfl Y (Bf 5 _) Y (Jr K k _ ek) Wo Wo (by exact fun u hu=>CR qs u (Nd hu)) A1 A1) ?_;rintro _ _ ⟨sa,X,rfl⟩;obtain ⟨ga,ca,rfl⟩:=X.form;refine Zm Y<|Ze (BQ (by_:=40) (sz:=5) B6 (V:Tryz.prog.info? 83=some Tryz.t83) V rfl V rfl Y (X) Y (DJ 5 gb 1 1 83 (0,0) (Ae [x.after]) V) Wo Wo (by exact CR _) A1 A1) ?_;rintro _ _ ⟨sb,Z,rfl⟩;obtain ⟨gb,cb,rfl⟩:=Z.form;refine Zm Y<|Ze (BQ (by_:=40) (sz:=5) B6 (V:Tryz.prog.info? 83=some Tryz.t83) V rfl V rfl Y (Z) Y (Js K k (qs.length -k) _ A1) Wo Wo (by exact fun u hu=>CR qs u (I0 hu)) A1 A1) ?_;rintro _ _ ⟨sc,af,rfl⟩;have W:=BR af (n':=(EH qs x).length) (xs':=Ae (EH qs x)) (by rw [J,X3 B,AH (by rw [G];decide),B7,B7,C2,C3,C3];simp only [DE,It];omega) (by rw [J,X3 B,AH (by rw [G];decide),Bi,Bi,<-EA,<-De (qs.drop k) 0,<-De,eI,PC];rw [Kr B];rfl)
   obtain ⟨gc,cc,rfl⟩:=af.form;refine AG Y<|Zn [0,3,11,18] ?_;refine Zx<|Zg<|Zm Y<|Zm Y<|Zp Y V<|Zh 0 Hs V rfl C5 Y<|Xe (Zs C5 Y Y V) ?_;refine Z0<|A8<|Zx<|Zg<|Zm Y<|Ya (n:=1) Y Y<|AG Y<|Zn [11,0,3] ?_;refine Aa (e':=[(11,_)]) (by exact ⟨i+1,_,_,rfl,⟨by omega,by rw [EL rs cs i x O,<-ax];exact W⟩,rfl,rfl⟩)
  refine BV<|AC<|Zx<|A0<|A3 Y<|Zq<|BV<|Zg<|Zm Y<|Zm Y<|Zp Y V<|Zh 0 Hs V rfl C5 Y<|Zl Fl Y ?_;refine Zm Y<|BX (Bq B6 AW Y Y A1)<|Ze (BQ (by_:=40) (sz:=5) B6 (V:Tryz.prog.info? 83=some Tryz.t83) V rfl V rfl Y (Bf 5 _) Y (Jr K k _ ek) Wo Wo (by exact fun u hu=>CR qs u (Nd hu)) A1 A1) ?_;rintro _ _ ⟨sa,X,rfl⟩;obtain ⟨ga,ca,rfl⟩:=X.form;refine Zm Y<|Ze (BQ (by_:=40) (sz:=5) B6 (V:Tryz.prog.info? 83=some Tryz.t83) V rfl V rfl Y (X) Y (Ur 5 none 0) Wo Wo B0 A1 A1) ?_;rintro _ _ ⟨sb,Z,rfl⟩;obtain ⟨gb,cb,rfl⟩:=Z.form;refine Zm Y<|Ze (BQ (by_:=40) (sz:=5) B6 (V:Tryz.prog.info? 83=some Tryz.t83) V rfl V rfl Y (Z) Y (Js K k (qs.length -k) _ A1) Wo Wo (by exact fun u hu=>CR qs u (I0 hu)) A1 A1) ?_;rintro _ _ ⟨sc,af,rfl⟩;have W:=BR af (n':=(EH qs x).length) (xs':=Ae (EH qs x)) (by rw [J,X4 B,AH (by rw [G];decide),B7,B7,C2,C3,C3];simp only [DE,It];omega) (by rw [J,X4 B,AH (by rw [G];decide),Bi,Bi,<-EA,<-De (qs.drop k) 0,<-De,eI,PC];rfl)
  obtain ⟨gc,cc,rfl⟩:=af.form;refine AG Y<|Zn [0,3,11,18] ?_;refine Zx<|Zg<|Zm Y<|Zm Y<|Zp Y V<|Zh 0 Hs V rfl C5 Y<|Xe (Zs C5 Y Y V) ?_;refine Z0<|A8<|Zx<|Zg<|Zm Y<|Ya (n:=1) Y Y<|AG Y<|Zn [11,0,3] ?_;refine Aa (e':=[(11,_)]) (by exact ⟨i+1,_,_,rfl,⟨by omega,by rw [EL rs cs i x O,<-ax];exact W⟩,rfl,rfl⟩)
 have ei:i=cs.length:=by omega
 subst ei;rw [FF]at ax;refine Ay<|Zt<|Zt<|AR<|Zx<|A0<|Zm Y<|Zh 0 GF V rfl A5 Y<|Zl AE Y ?_;refine Zp Y V<|Zh 1 Hs V rfl A5 Y<|Xe (Zs A5 Y Y V) ?_;refine A4<|A0<|A3 Y<|AJ<|AO rfl ey Y (by exact .inl ⟨⟨l5,qb,I,by omega⟩,_,sw,rfl,by rw [<-ax];exact K,rfl⟩)
end Go.Proofs.YteaiajghbkenoaaGreatDoor
