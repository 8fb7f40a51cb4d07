/- The program's layer 3: ValidChange. -/
import Derived.Test.YtfhjaegddfehhabGreatDoorLg4
set_option linter.unusedVariables false
set_option linter.unusedSimpArgs false
namespace Go.Proofs.YtfhjaegddfehhabGreatDoor
open Go.Proofs.Tryz
open Go Go.RowKit Gw
set_option maxRecDepth 100000
attribute [local irreducible] Gw.At Gw.Nx Gw.Ops
def nv(c:Chg):Bool:=if c.had then decide c.before.ok else decide (c.o=V3.zero)
def nw(c:Chg):Bool:=if c.has then decide c.after.ok else decide (c.n=V3.zero)
theorem Sc(c:Chg):BB prog 154 #[.agg c.A96,.bool c.had,.agg #[I4 c.o.a,I4 c.o.b,I4 c.o.c]] [] (.bool (nv c)):=Yj c c.had c.o
theorem Sd(c:Chg):BB prog 154 #[.agg c.A96,.bool c.has,.agg #[I4 c.n.a,I4 c.n.b,I4 c.n.c]] [] (.bool (nw c)):=Yj c c.has c.n
variable{c:Chg}
theorem LP(g:c.had≠c.has\/(c.had=true/\c.o≠c.n)):decide c.ok=(nv c&&nw c):=by
 unfold nv nw;cases h1:c.had<;>cases h2:c.has<;>simp_all [Chg.ok]
 all_goals (by_cases m:c.before.ok<;>by_cases B:c.after.ok<;>by_cases G:c.o=V3.zero<;>by_cases I:c.n=V3.zero<;>simp_all)
theorem vX(h:c.had=c.has)(h2:c.had=true->c.o=c.n):decide c.ok=false:=by
 cases h1:c.had<;>simp_all [Chg.ok]
 all_goals (rw [<-h]at*;simp_all)
set_option maxHeartbeats 4000000 in
theorem VR(c:Chg):BB prog 97 #[.agg c.A96] [] (.bool (decide c.ok)):=by
 refine Se func97 ntmps97 [0] ?_;intro u R;refine A0<|Ze (Bx #[_,_,_,_,_,_,_,_,_,_])<|AG fun O=>A4 Y<|A0<|Zh 2 C0 V rfl Cp Y<|Zl E6 Y<|Zh 6 C0 V rfl Cp Y<|Zl E6 Y<|Zv (Kv LS Y Y)<|Zm Y<|Aj (t:=9) Y V (fun g=>?_) (fun g=>?_);·
  refine A7 Y V<|A7 Y V<|A7 Y V<|A7 Y V<|A7 Y V<|A7 Y V<|A7 Y V<|A7 Y V<|A7 Y V<|Zv (AV Y Y)<|AN Y<|Zn [1,3] ?_;refine Zx<|A0<|Zm Y<|Zm Y<|Db Y Wh (Pa #[_,_,_,_,_,_,_,_,_,_] G2 C7 Y) V rfl<|Yf 2 C0 V rfl Cp Y<|Yl E6 Y<|Yf 3 C0 V rfl DO Y<|Db Y Wh (Pa #[_,_,_] HB DO Y) V rfl<|Xr [_,_,_] Y call154 Y V (Sc c)<|Zv (AV Y Y)<|Zm Y<|Ae (t:=29) Y V (fun G=>?_) (fun G=>?_);·
   refine Db Y Wh (Pa #[_,_,_,_,_,_,_,_,_,_] G2 C7 Y) V rfl<|Yf 6 C0 V rfl Cp Y<|Yl E6 Y<|Yf 7 C0 V rfl DO Y<|Db Y Wh (Pa #[_,_,_] HB DO Y) V rfl<|Xr [_,_,_] Y call154 Y V (Sd c)<|Zv (AV Y Y)<|AN Y<|Zn [2] ?_;refine Zx<|AJ<|AO rfl eo Y (by exact ⟨by rw [LP (.inl g),G,Vc],rfl⟩)
  refine A7 Y V<|A7 Y V<|A7 Y V<|A7 Y V<|A7 Y V<|A7 Y V<|Zv (AL Y Y)<|AN Y<|Zn [2] ?_;refine Zx<|AJ<|AO rfl eo Y (by exact ⟨by rw [LP (.inl g),G,Bool.false_and],rfl⟩)
 refine Yf 2 C0 V rfl Cp Y<|Yl E6 Y<|Zf Y Y<|Ae (t:=12) Y V (fun m=>?_) (fun m=>?_);·
  refine Yf 3 C0 V rfl DO Y<|Db Y Wh (Pa #[_,_,_] HB DO Y) V rfl<|Yf 7 C0 V rfl DO Y<|Db Y Wh (Pa #[_,_,_] HB DO Y) V rfl<|Yg (Kw AE Hh CM AF A6 Y Y) ?_;refine Yg (AV Y Y)<|Zv (AL Y Y)<|AN Y<|Zn [1,3] ?_;refine Zx<|A0<|Zm Y<|Zm Y<|Aj (t:=21) Y V (fun B=>?_) (fun B=>?_);·
   refine Db Y Wh (Pa #[_,_,_,_,_,_,_,_,_,_] G2 C7 Y) V rfl<|Yf 2 C0 V rfl Cp Y<|Yl E6 Y<|Yf 3 C0 V rfl DO Y<|Db Y Wh (Pa #[_,_,_] HB DO Y) V rfl<|Xr [_,_,_] Y call154 Y V (Sc c)<|Zv (AV Y Y)<|Zm Y<|Ae (t:=29) Y V (fun I=>?_) (fun I=>?_);·
    refine Db Y Wh (Pa #[_,_,_,_,_,_,_,_,_,_] G2 C7 Y) V rfl<|Yf 6 C0 V rfl Cp Y<|Yl E6 Y<|Yf 7 C0 V rfl DO Y<|Db Y Wh (Pa #[_,_,_] HB DO Y) V rfl<|Xr [_,_,_] Y call154 Y V (Sd c)<|Zv (AV Y Y)<|AN Y<|Zn [2] ?_;refine Zx<|AJ<|AO rfl eo Y (by exact ⟨by rw [LP (.inr ⟨m,B⟩),I,Vc],rfl⟩)
   refine A7 Y V<|A7 Y V<|A7 Y V<|A7 Y V<|A7 Y V<|A7 Y V<|Zv (AL Y Y)<|AN Y<|Zn [2] ?_;refine Zx<|AJ<|AO rfl eo Y (by exact ⟨by rw [LP (.inr ⟨m,B⟩),I,Bool.false_and],rfl⟩)
  refine A7 Y V<|A7 Y V<|A7 Y V<|A7 Y V<|A7 Y V<|A7 Y V<|Zv (AL Y Y)<|Zm Y<|A7 Y V<|A7 Y V<|A7 Y V<|A7 Y V<|A7 Y V<|A7 Y V<|Zv (AL Y Y)<|AN Y<|Zn [2] ?_;refine Zx<|AJ<|AO rfl eo Y (by exact ⟨by rw [vX (HL.1 g) (fun _=>HL.1 B)],rfl⟩)
 refine A7 Y V<|A7 Y V<|A7 Y V<|A7 Y V<|A7 Y V<|Yg (AL Y Y)<|Zv (AL Y Y)<|AN Y<|Zn [1,3] ?_;refine Zx<|A0<|Zm Y<|Zm Y<|A7 Y V<|A7 Y V<|A7 Y V<|A7 Y V<|A7 Y V<|A7 Y V<|Zv (AL Y Y)<|Zm Y<|A7 Y V<|A7 Y V<|A7 Y V<|A7 Y V<|A7 Y V<|A7 Y V<|Zv (AL Y Y)<|AN Y<|Zn [2] ?_;refine Zx<|AJ<|AO rfl eo Y (by exact ⟨by rw [vX (HL.1 g) (fun J=>by rw [m]at J;cases J)],rfl⟩)
theorem xi(h:c.ok):0<=c.t:=by
 obtain ⟨m,h2,_,_⟩:=h;have G:c.had=true->c.before.ok:=fun g=>an fun hn=>h2 (.inl ⟨g,hn⟩)
 have B:c.has=true->c.after.ok:=fun g=>an fun hn=>h2 (.inr ⟨g,hn⟩);cases e1:c.had with
 |true=>have:=(G e1).2.1.1;rw [Po e1]at this;exact this
 |false=>
  cases e2:c.has with
  |true=>have:=(B e2).2.1.1;rw [LV e2]at this;exact this
  |false=>exact absurd (.inl ⟨by simp [e1],by simp [e2]⟩) m
variable{cs:List Chg}{i:Nat}{y x:Chg}
theorem Xg{p:Int}(m:i=0/\y.t=-1\/0<i/\cs[i -1]?=some y)(h:EM p cs)(hx:cs[i]?=some x):y.lt x:=by
 rcases m with⟨h0,g⟩|⟨h0,g⟩
 · left;have:=xi (h.all i x hx);omega
 · exact h.ord (i -1) y x g (by rw [show i -1+1=i by omega];exact hx)
theorem jw(m:i=0/\y.t=-1\/0<i/\cs[i -1]?=some y)(h:y.lt x):i=0\/∃y,cs[i -1]?=some y/\y.lt x:=by
 rcases m with⟨h0,g⟩|⟨h0,g⟩
 · exact .inl h0
 · exact .inr ⟨y,g,h⟩
theorem QA(p:Int)(q:B6)(cap:Nat)(cs:List Chg)(M:List A9)(hO:Cf M (.slice q cs.length cap) cs):BB prog 44 #[.agg #[I4 p,.slice q cs.length cap]] [M] (.bool (decide (EM p cs))):=by
 have bn:=mL;obtain ⟨p9,ax,e9,cu,hg⟩:=hO;injection e9 with e91 e92 e93
 subst e91 e93;refine Se func44 ntmps44 [0] ?_;intro u R;refine A0<|Ze (Bx #[_,_])<|AG fun b1=>A4 Y<|Zq<|A0<|Zh 0 Ge V rfl A6 Y<|Zl AF Y<|Ze (Ai (vs:=[_]) (cs:=[_]) DH A6 HG Y V rfl V rfl V)<|AG fun b2=>Xr [_,_,_] Y call96 Y V (Ko _ 0 1 _ _ _ _ _ p V)<|Zv (Cn Y)<|Zm Y<|Aj (t:=11) Y V (fun hp=>?_) (fun hp=>?_);·
  refine A7 Y V<|A7 Y V<|A7 Y V<|A7 Y V<|A7 Y V<|A7 Y V<|Zv (AV Y Y)<|Z0<|Zn [1,18] ?_;refine Zx<|Co Y<|A0<|A4 Y<|AJ<|Zt<|AO rfl ep Y (by exact ⟨by rw [Cd (fun h9:EM p cs=>by have G:=h9.pos;have I:=h9.len;exact hp G)],rfl⟩)
 refine Yf 1 Ge V rfl Lq Y<|Yl N4 Y<|Yg (AY GF Y)<|Ze (Ai (vs:=[_]) (cs:=[_]) DH A6 HG Y V rfl V rfl V)<|AG fun b3=>Xr [_,_,_] Y call96 Y V (Ko _ 0 1 _ _ _ _ _ (cs.length:Int) V)<|Yg (Cn Y)<|Zv (AL Y Y)<|Z0<|Zn [1,18] ?_;refine Zx<|Aq Y (fun hl=>?_) (fun hl=>?_);·
  refine A0<|A4 Y<|AJ<|Zt<|AO rfl ep Y (by exact ⟨by rw [Cd (fun h9:EM p cs=>by have G:=h9.pos;have I:=h9.len;(apply hl;omega))],rfl⟩)
 refine AC<|Zx<|A0<|Zv (BL (vs:=[(0,_)]) (cs:=#[_,_,_,_,_,_,_,_,_,_]) Y (AZ (pl:=#[(0,1),(1,1),(2,1),(3,3),(6,1),(7,3)]) MA C0 (fun _=>by kernel_rfl) V))<|Ze (Al MA #[_,_,_,_,_,_,_,_,_,_])<|AG fun lb=>Xe (BM C7 Y Y (by(simp [Value.oneCell',Value.cells];done)) Wu As Fc Wn (by exact BC _))<|A5<|Zq<|A0<|Zh 1 Ge rfl rfl Lq Y<|Zl N4 Y<|Zv (AY GF Y)<|Zm Y<|A5<|AQ<|Zb [23,3,21,22] ?_;refine BA (e0:=[(23,_)]) (fun m e H=>∃(i:Nat) (y:Chg),m=cs.length -i/\(i<=cs.length/\(∀(j:Nat) (c:Chg),j<i->cs[j]?=some c->c.ok)/\(∀(j:Nat) (b c:Chg),j+1<i->cs[j]?=some b->cs[j+1]?=some c->b.lt c)/\(i=0/\y.t=-1\/0<i/\cs[i -1]?=some y))/\e=[(23,I4 (i:Int))]/\H=[[(lb,.cells y.A96 64 (0,0))]]) (by exact ⟨0,⟨-1,0,false,V3.zero,false,V3.zero⟩,V,⟨by omega,by intro j c hj;omega,by intro j b c hj;omega,.inl ⟨V,V⟩⟩,V,V⟩) Wp ?_;rintro _ _ _ ⟨i,y,rfl,⟨hi,J,O,B⟩,rfl,rfl⟩;refine A0<|Zv (Au Y Y)<|A5<|Zq<|Aq Y (fun W=>?_) (fun W=>?_);·
  obtain ⟨x,hx⟩:∃x,cs[i]?=some x:=⟨_,B7 W⟩;obtain ⟨g,off,cur,T,zz,rfl,hm,cO,X⟩:=hg i x hx;refine AC<|Zx<|Zq<|AQ<|A0<|BV (Ad GF C7 Y Y A1)<|CG (cs:=[(g,.cells cur T zz)]) (by simp [hm]) (AA (cs:=x.A96) G2 C7 Y A1 X) V rfl<|Ze (Al MA #[_,_,_,_,_,_,_,_,_,_])<|AG fun b5=>Xe (Xw C7 _)<|A5<|Zq<|A0<|Zo Wh (Pa #[_,_,_,_,_,_,_,_,_,_] G2 C7 Y)<|Xr [_] Y call97 Y V (VR x)<|Zv (Cn Y)<|Zm Y<|Aj (t:=30) Y V (fun U=>?_) (fun U=>?_);·
   refine A7 Y V<|A7 Y V<|A7 Y V<|A7 Y V<|A7 Y V<|Zv (AV Y Y)<|Zm Y<|A7 Y V<|A7 Y V<|A7 Y V<|A7 Y V<|A7 Y V<|A7 Y V<|A7 Y V<|A7 Y V<|A7 Y V<|A7 Y V<|A7 Y V<|A7 Y V<|Zv (AV Y Y)<|Z0<|Zn [3,5,21,22,23,50] ?_;refine Zx<|Co Y<|A0<|A4 Y<|AJ<|Zt<|Ac<|Zt<|Zt<|Ac<|Zt<|AO rfl ep Y (by exact ⟨by rw [Cd (fun h9:EM p cs=>by have G:=Xg B h9 hx;have I:=h9.all i x hx;unfold Chg.lt at G;exact U I)],rfl⟩)
  refine Yf 0 C0 V rfl A6 Y<|Yl AF Y<|Yf 0 C0 V rfl A6 Y<|Yl AF Y<|Yg (Dw Y Y)<|Zv (AL Y Y)<|Zm Y<|Aj (t:=37) Y V (fun Z=>?_) (fun Z=>?_);·
   refine A7 Y V<|A7 Y V<|A7 Y V<|A7 Y V<|A7 Y V<|A7 Y V<|A7 Y V<|A7 Y V<|A7 Y V<|A7 Y V<|A7 Y V<|A7 Y V<|Zv (AV Y Y)<|Z0<|Zn [3,5,21,22,23,50] ?_;refine Zx<|Co Y<|A0<|A4 Y<|AJ<|Zt<|Ac<|Zt<|Zt<|Ac<|Zt<|AO rfl ep Y (by exact ⟨by rw [Cd (fun h9:EM p cs=>by have G:=Xg B h9 hx;have I:=h9.all i x hx;unfold Chg.lt at G;omega)],rfl⟩)
  refine Yf 0 C0 V rfl A6 Y<|Yl AF Y<|Yf 0 C0 V rfl A6 Y<|Yl AF Y<|Yg (CK Y Y)<|Zf Y Y<|Aj (t:=43) Y V (fun af=>?_) (fun af=>?_);·
   refine Yf 1 C0 V rfl A6 Y<|Yl AF Y<|Yf 1 C0 V rfl A6 Y<|Yl AF Y<|Yg (NY Y Y)<|Yg (AV Y Y)<|Zv (AL Y Y)<|Z0<|Zn [3,5,21,22,23,50] ?_;refine Zx<|Aq Y (fun ho=>?_) (fun ho=>?_);·
    refine A0<|A4 Y<|AJ<|Zt<|Ac<|Zt<|Zt<|Ac<|Zt<|AO rfl ep Y (by exact ⟨by rw [Cd (fun h9:EM p cs=>by have G:=Xg B h9 hx;have I:=h9.all i x hx;unfold Chg.lt at G;omega)],rfl⟩)
   refine AC<|Zx<|Zg<|Zo Wh (Pa x.A96 G2 C7 Y)<|Xe (Xw C7 _)<|Z0<|A8<|Zx<|Zg<|Ya (n:=1) Y Y<|Zm Y<|Z0<|Zn [23,3,21,22] ?_;refine Ab (e':=[(23,_)]) (by exact ⟨i+1,x,V,⟨by omega,Mf J hx (HL.1 U),M9 O hx (jw B (by unfold Chg.lt;omega)),.inr ⟨by omega,hx⟩⟩,V,V⟩)
  refine A7 Y V<|A7 Y V<|A7 Y V<|A7 Y V<|A7 Y V<|Yg (AL Y Y)<|Zv (AL Y Y)<|Z0<|Zn [3,5,21,22,23,50] ?_;refine Zx<|D9 Y<|AC<|Zx<|Zg<|Zo Wh (Pa x.A96 G2 C7 Y)<|Xe (Xw C7 _)<|Z0<|A8<|Zx<|Zg<|Ya (n:=1) Y Y<|Zm Y<|Z0<|Zn [23,3,21,22] ?_;refine Ab (e':=[(23,_)]) (by exact ⟨i+1,x,V,⟨by omega,Mf J hx (HL.1 U),M9 O hx (jw B (by unfold Chg.lt;omega)),.inr ⟨by omega,hx⟩⟩,V,V⟩)
 refine Ay<|Zt<|Zt<|AR<|Zx<|A0<|A4 Y<|AJ<|AO rfl ep Y (by exact ⟨by rw [DE (⟨by omega,by omega,fun j c hc=>J j c (by have:=(C4.1 hc).1;omega) hc,fun j b c hb hc=>O j b c (by have:=(C4.1 hc).1;omega) hb hc⟩:EM p cs)],rfl⟩)
def Hz(ls:List Int):List UInt8:=ls.flatMap UI
theorem Hy:∀(ls:List Int),(∀n∈ls,-4611686018427387903<=n/\n<=4611686018427387903)->(Hz ls).length<=ls.length*9
 |[],_=>by simp [Hz]
 |n::ls,h=>by
  have B:=Hy ls (fun m g=>h m (by simp [g]));have h2:=Ph n (h n B4).1 (h n B4).2
  unfold Hz at*;rw [HW,BW,Dd];omega
theorem ZB(ls:List Int)(n:Int):Hz (ls++[n])=Hz ls++UI n:=by simp [Hz]
theorem qd(g off cap:Nat)(cur:AH)(T:AK)(z:Nat×Nat)(ls:List Int)(I:LW cur off ls)(hn:ls.length<=1073741824)(O:∀n∈ls,-4611686018427387903<=n/\n<=4611686018427387903):
 BB prog 242 #[.slice (some ⟨g,off,none⟩) ls.length cap] [[(g,.cells cur T z)]] (.string (str (Hz ls))):=by
 have X:=mL;refine Se func242 ntmps242 [0] ?_;intro u R;refine A0<|A4 Y<|A0<|A4 Y<|Zq<|A0<|Zm Y<|Zv (AY DH Y)<|Zm Y<|A5<|AQ<|Zb [3,10,8,9] ?_;refine BA (e0:=[(3,_),(10,_)]) (fun m e H=>∃(i:Nat),m=ls.length -i/\(i<=ls.length)/\e=[(3,.string (str (Hz (ls.take i)))),(10,I4 (i:Int))]/\H=[]) (by exact ⟨0,V,C5 _,V,V⟩) Wp ?_;rintro _ _ _ ⟨i,rfl,hi,rfl,rfl⟩;refine A0<|Zv (Au Y Y)<|A5<|Zq<|Aq Y (fun G=>?_) (fun G=>?_);·
  obtain ⟨x,hx⟩:∃x,ls[i]?=some x:=⟨_,B7 G⟩;have B:=O x (Dg hx)
  have J:ls.take (i+1)=ls.take i++[x]:=by rw [RK,hx];rfl
  have Z:=Hy (ls.take i) (fun m W=>O m (Pc W));have af:(ls.take i).length<=i:=List.length_take_le ..
  have U:=Ph x B.1 B.2;refine AC<|Zx<|Zq<|AQ<|A0<|BV (CF DH A6 Y Y A1)<|Zl AF Y (hv:=by exact I i x hx)<|A4 Y<|A0<|Zm Y<|Xr [_] Y call194 Y rfl (Qy x B.1 B.2)<|Zm Y<|Zd Y rfl<|Zd Y rfl<|Za Y<|A4 Y<|Zg<|Zm Y<|Zm Y<|BV (N7 Y Y (by rw [Gt,Gt];omega))<|AN Y<|Zn [3,8,9,10] ?_;refine A8<|Zx<|Zg<|Ya (n:=1) Y Y<|Zm Y<|Z0<|Zn [3,10,8,9] ?_;refine Ab (e':=[(3,_),(10,_)]) (by exact ⟨i+1,rfl,by omega,by rw [J,ZB,<-Rk],rfl⟩)
 refine Ay<|Zt<|Zt<|AR<|Zx<|A0<|Zm Y<|A4 Y<|AJ<|AO rfl results242 Y (by exact ⟨by rw [J0 A1],rfl⟩)
structure J3 where
 p:Int
 ch:List UInt8
 st:List UInt8
variable{sz:Nat}{e:AK}{v:A3}{xs:List A3}{s:List A9}
theorem KH{k:Nat}(h:Bd sz e v k xs s)(i:Nat)(hi:i<k):∃g cap cur z,v=I6 g k cap/\s=[(g,.cells cur e z)]/\i*sz+sz<=cur.size/\(cur.extract (i*sz) (i*sz+sz)).toList=(xs.drop (i*sz)).take sz:=by
 obtain ⟨O,⟨_,h0,_⟩|⟨g,cap,cur,z,rfl,rfl,B,hc,G,m,J⟩⟩:=h;· omega
 · have I:i*sz+sz<=k*sz:=by
    have:=US sz (Nat.succ_le_of_lt hi);rw [Nat.succ_mul]at this;exact this
   have h2:k*sz<=cap*sz:=US sz B;refine ⟨g,cap,cur,z,V,V,by omega,?_⟩;rw [<-m,Array.toList_extract,sL,fj,V2];congr 1;omega
def Af(rs:List AX):List A3:=rs.flatMap (fun r=>[I4 r.t,I4 r.k,I4 r.v.a,I4 r.v.b,I4 r.v.c])
theorem J7{α:Type}(f:α->List A3)(sz:Nat)(g:∀a,(f a).length=sz):∀(l:List α) (i:Nat) (a:α),l[i]?=some a->((l.flatMap f).drop (i*sz)).take sz=f a
 |x::l,0,a,h=>by
  injection h with h;subst h
  rw [eL,RW,HW,cN (by rw [g];exact D2 _),J0 (by rw [g];exact D2 _)]
 |x::l,i+1,a,h=>by
  have e1:(f x++l.flatMap f).drop sz=l.flatMap f:=by
   have m:=List.drop_left (l₁:=f x) (l₂:=l.flatMap f);rwa [g]at m
  rw [HW,Nat.succ_mul,Nat.add_comm,<-bj,e1];exact J7 f sz g l i a h
variable{rs:List AX}
theorem QD(h:Bd 5 e v rs.length (Af rs) s)(hn:rs.length<=maxLen):jH s v rs:=by
 obtain ⟨b,cap,rfl⟩:=h.form;refine ⟨b,cap,V,hn,fun i r G=>?_⟩;obtain ⟨g,B,cur,z,hv,rfl,I,m⟩:=KH h i (C4.1 G).1;injection hv with hv1 hv2 hv3
 refine ⟨g,0,cur,e,z,hv1,C1.2 V,by omega,?_⟩;rw [DM];apply HX.1;rw [m];exact J7 _ 5 (fun _=>rfl) rs i r G
def Cj(cs:List Chg):List A3:=cs.flatMap (fun c=>[I4 c.t,I4 c.k,.bool c.had,I4 c.o.a,I4 c.o.b,I4 c.o.c,.bool c.has,I4 c.n.a,I4 c.n.b,I4 c.n.c])
theorem Qk{rs:List Chg}(h:Bd 10 e v rs.length (Cj rs) s)(hn:rs.length<=maxLen):Cf s v rs:=by
 obtain ⟨b,cap,rfl⟩:=h.form;refine ⟨b,cap,V,hn,fun i r G=>?_⟩;obtain ⟨g,B,cur,z,hv,rfl,I,m⟩:=KH h i (C4.1 G).1;injection hv with hv1 hv2 hv3
 refine ⟨g,0,cur,e,z,hv1,C1.2 V,by omega,?_⟩;rw [DM];apply HX.1;rw [m];exact J7 _ 10 (fun _=>rfl) rs i r G
theorem M6:∀(rs:List AX) (t k:Int),BQ rs->∃A B,rs=A++B/\A.length=EA rs t k/\(∀r∈A,r.lt2 t k)/\(∀r∈B,¬r.lt2 t k)
 |[],t,k,_=>⟨[],[],rfl,rfl,by simp,by simp⟩
 |r::rs,t,k,hs=>by
  have g:=RE.1 hs;by_cases h:r.lt2 t k
  · obtain ⟨A,B,m,h2,G,I⟩:=M6 rs t k g.2
    refine ⟨r::A,B,by rw [m];rfl,?_,?_,I⟩
    · unfold EA at*
      rw [Q1,Ax (by simpa using h),Dd,Dd,h2]
    · intro x hx
      rcases DB.1 hx with rfl|hx
      · exact h
      · exact G x hx
  · refine ⟨[],r::rs,rfl,?_,by simp,?_⟩
    · unfold EA
      rw [Q1,An (by simpa using h)]
    · intro x hx hc
      rcases DB.1 hx with rfl|hx
      · exact h hc
      · exact h (QX (g.1 x hx) hc)
variable{k t:Int}
theorem WH{r:AX}(h:r.is t k):¬r.lt2 t k:=by unfold AX.is AX.lt2 at*;omega
theorem KW{r:AX}(m:BQ rs)(O:r∈rs)(h:r.is t k):Fs rs t k=(r,true):=by
 obtain ⟨A,B,g,h2,U,W⟩:=M6 rs t k m;have J:r∈B:=by
  rw [g]at O;rcases Bm.1 O with h9|h9
  · exact absurd (U r h9) (WH h)
  · exact h9
 cases B with
 |nil=>cases J
 |cons b B=>
  have Z:b=r:=by
   rcases DB.1 J with h9|h9
   · exact h9.symm
   · exfalso
     have G:BQ (b::B):=by rw [g]at m;exact (Pr.1 m).2.1
     have I:=(RE.1 G).1 r h9;have X:=W b B4
     unfold AX.is at h;rw [h.1,h.2]at I;exact X I
  subst Z;have hg:rs[EA rs t k]?=some b:=by rw [<-h2,g,T0 (D2 _),Wf];rfl
  unfold Fs;rw [hg];simp only;rw [Ax h]
theorem Qa(h:∀r∈rs,¬r.is t k):Fs rs t k=(AX.zero,false):=by
 unfold Fs;split
 · rename_i r hr
   rw [An (h r (Dg hr))]
 · rfl
theorem JP(h:(Fs rs t k).2=true):∃r∈rs,r.is t k/\rs[EA rs t k]?=some r/\Fs rs t k=(r,true):=by
 unfold Fs at*;split at h
 · rename_i r hr
   split at h
   · rename_i hi
     exact ⟨r,Dg hr,hi,hr,by rw [Ax hi]⟩
   · cases h
 · cases h
def GV(rs:List AX)(c:Chg):Prop:=(Fs rs c.t c.k).2=c.had/\((Fs rs c.t c.k).2=true->(Fs rs c.t c.k).1.v=c.o)
def Ny(c:Chg):List AX:=if c.has then [⟨c.t,c.k,c.n⟩]else []
def EN(rs:List AX)(c:Chg):List AX:=rs.take (EA rs c.t c.k)++Ny c++(rs.drop (EA rs c.t c.k)).drop (if c.had then 1 else 0)
theorem MN{x:AX}:x∈Ny c↔c.has=true/\x=⟨c.t,c.k,c.n⟩:=by
 unfold Ny;cases c.has<;>simp
theorem QK(J:BQ rs)(hf:GV rs c):∃A B,EN rs c=A++Ny c++B/\(∀x,x∈rs↔x∈A\/x∈B\/(x∈rs/\x.is c.t c.k))/\BQ A/\BQ B/\(∀r∈A,r.lt2 c.t c.k)/\(∀r∈B,c.t<r.t\/c.t=r.t/\c.k<r.k)/\rs.length=A.length+B.length+(if c.had then 1 else 0):=by
 obtain ⟨A,B,g,h2,h3,h4⟩:=M6 rs c.t c.k J;have U:BQ A:=by rw [g]at J;exact (Pr.1 J).1
 have W:BQ B:=by rw [g]at J;exact (Pr.1 J).2.1
 have ax:rs.take (EA rs c.t c.k)=A:=by rw [<-h2,g,Hb rfl]
 have Z:rs.drop (EA rs c.t c.k)=B:=by rw [<-h2,g,Wc rfl]
 unfold EN;rw [ax,Z];have G:∀x∈B,¬x.is c.t c.k->c.t<x.t\/c.t=x.t/\c.k<x.k:=fun x hx hn=>by
  have I:=h4 x hx;unfold AX.lt2 at I;unfold AX.is at hn;omega
 cases hh:c.had with
 |false=>
  have af:∀r∈rs,¬r.is c.t c.k:=fun r O hi=>by
   have I:=hf.1;rw [KW J O hi,hh]at I;cases I
  refine ⟨A,B,by simp,fun x=>?_,U,W,h3,fun r O=>G r O (af r (by rw [g];exact GB _ O)),by rw [g];simp⟩;rw [g,Bm];constructor
  · rintro (h|h)
    · exact .inl h
    · exact .inr (.inl h)
  · rintro (h|h|⟨h,_⟩)
    · exact .inl h
    · exact .inr h
    · exact h
 |true=>
  obtain ⟨r,O,hi,hp,hg⟩:=JP (by rw [hf.1,hh]:(Fs rs c.t c.k).2=true);have X:B[0]?=some r:=by rw [<-h2,g,T0 (D2 _),Wf]at hp;exact hp
  cases B with
  |nil=>cases X
  |cons b B=>
   injection X with X
   subst X;have m:=RE.1 W
   refine ⟨A,B,by simp,fun x=>?_,U,m.2,h3,fun x hx=>?_,by rw [g];simp;omega⟩
   · constructor
     · intro hx
       have bn:=hx;rw [g]at hx;rcases Bm.1 hx with h|h
       · exact .inl h
       · rcases DB.1 h with rfl|h
         · exact .inr (.inr ⟨bn,hi⟩)
         · exact .inr (.inl h)
     · rintro (h|h|⟨h,_⟩)
       · rw [g];exact E7 _ h
       · rw [g];exact GB _ (FA _ h)
       · exact h
   · have I:=m.1 x hx
     unfold AX.lt2 at I;unfold AX.is at hi;omega
theorem G7(W:BQ rs)(U:GV rs c)(x:AX):x∈EN rs c↔(x∈rs/\¬x.is c.t c.k)\/(c.has=true/\x=⟨c.t,c.k,c.n⟩):=by
 obtain ⟨A,B,I,h2,_,_,J,O,_⟩:=QK W U;rw [I,Bm,Bm,MN];have m:∀x∈A,¬x.is c.t c.k:=fun x hx hi=>WH hi (J x hx)
 have G:∀x∈B,¬x.is c.t c.k:=fun x hx hi=>by have g:=O x hx;unfold AX.is at hi;omega
 constructor
 · rintro ((h|h)|h)
   · exact .inl ⟨(h2 x).2 (.inl h),m x h⟩
   · exact .inr h
   · exact .inl ⟨(h2 x).2 (.inr (.inl h)),G x h⟩
 · rintro (⟨h,hn⟩|h)
   · rcases (h2 x).1 h with g|g|⟨_,g⟩
     · exact .inl (.inl g)
     · exact .inr g
     · exact absurd g hn
   · exact .inl (.inr h)
theorem JI(Z:BQ rs)(X:GV rs c):BQ (EN rs c):=by
 obtain ⟨A,B,O,_,U,W,I,J,_⟩:=QK Z X;rw [O];have m:∀a b:AX,a.lt2 c.t c.k->(c.t<b.t\/c.t=b.t/\c.k<b.k)->a.lt2 b.t b.k:=fun a b g G=>by unfold AX.lt2 at*;omega
 refine Pr.2 ⟨Pr.2 ⟨U,?_,?_⟩,W,?_⟩;· unfold Ny;split<;>simp
 · intro a g b G
   obtain ⟨_,rfl⟩:=MN.1 G;exact I a g
 · intro a g b G
   rcases Bm.1 g with g|g
   · exact m a b (I a g) (J b G)
   · obtain ⟨_,rfl⟩:=MN.1 g
     have:=J b G;unfold AX.lt2;simp only;omega
theorem yB(I:BQ rs)(G:GV rs c):((EN rs c).length:Int)=rs.length+(if c.has then 1 else 0) -(if c.had then 1 else 0):=by
 obtain ⟨A,B,g,_,_,_,_,_,m⟩:=QK I G;rw [g,m];unfold Ny;cases c.has<;>cases c.had<;>simp<;>omega
theorem yc(B:BQ rs)(G:GV rs c)(I:¬(c.t=t/\c.k=k)):Fs (EN rs c) t k=Fs rs t k:=by
 cases hg:(Fs rs t k).2 with
 |true=>
  obtain ⟨r,m,hi,_,J⟩:=JP hg;rw [J];exact KW (JI B G) ((G7 B G r).2 (.inl ⟨m,fun h=>by unfold AX.is at h hi;omega⟩)) hi
 |false=>
  have g:∀r∈rs,¬r.is t k:=fun r m hi=>by rw [KW B m hi]at hg;cases hg
  rw [Qa g];refine Qa fun r m hi=>?_;rcases (G7 B G r).1 m with⟨h,_⟩|⟨_,rfl⟩
  · exact g r h hi
  · exact I hi
def DU(rs:List AX)(cs:List Chg):List AX:=cs.foldl EN rs
theorem EQ(rs:List AX)(cs:List Chg)(i:Nat)(c:Chg)(h:cs[i]?=some c):DU rs (cs.take (i+1))=EN (DU rs (cs.take i)) c:=by
 unfold DU;rw [RK,h,Wa];rfl
def zN(cs:List Chg):Prop:=∀(i j:Nat) (b c:Chg),i<j->cs[i]?=some b->cs[j]?=some c->b.lt c
theorem ou{a b:Chg}(h:a.lt b)(h2:b.lt c):a.lt c:=by unfold Chg.lt at*;omega
theorem UV(h:∀(i:Nat) (b c:Chg),cs[i]?=some b->cs[i+1]?=some c->b.lt c):zN cs:=by
 intro i j b c g m hc;obtain ⟨d,rfl⟩:∃d,j=i+1+d:=⟨j -(i+1),by omega⟩;clear g;induction d generalizing c with
 |zero=>exact h i b c m hc
 |succ d ih=>
  obtain ⟨x,hx⟩:∃x,cs[i+1+d]?=some x:=by
   have:=(C4.1 hc).1;exact ⟨_,B7 A1⟩
  exact ou (ih x hx) (h (i+1+d) x c hx hc)
theorem KX{rs:List AX}{cs:List Chg}(J:BQ rs)(G:zN cs)(I:∀c∈cs,GV rs c):∀i,i<=cs.length->BQ (DU rs (cs.take i))/\∀(j:Nat) (c:Chg),i<=j->cs[j]?=some c->GV (DU rs (cs.take i)) c
 |0,_=>⟨J,fun j c _ hc=>I c (Dg hc)⟩
 |i+1,hi=>by
  obtain ⟨B,h2⟩:=KX J G I i A1;obtain ⟨x,hx⟩:∃x,cs[i]?=some x:=⟨_,B7 A1⟩;rw [EQ rs cs i x hx];have g:=h2 i x (D2 _) hx
  refine ⟨JI B g,fun j c U hc=>?_⟩;have m:=G i j x c A1 hx hc
  have O:=h2 j c A1 hc;unfold GV at*;rw [yc B g (by unfold Chg.lt at m;omega)];exact O
def NR(c:Chg):Int:=(if c.has then 1 else 0) -(if c.had then 1 else 0)
def Gu(rs:List AX)(cs:List Chg):Int:=cs.foldl (fun n c=>n+NR c) (rs.length:Int)
theorem Hr(rs:List AX)(cs:List Chg)(i:Nat)(c:Chg)(h:cs[i]?=some c):Gu rs (cs.take (i+1))=Gu rs (cs.take i)+NR c:=by
 unfold Gu;rw [RK,h,Wa];rfl
theorem qU(c:Chg):-1<=NR c/\NR c<=1:=by unfold NR;split<;>split<;>omega
theorem Oh(rs:List AX)(cs:List Chg):∀i,(rs.length:Int) -i<=Gu rs (cs.take i)/\Gu rs (cs.take i)<=rs.length+i
 |0=>by unfold Gu;simp
 |i+1=>by
  have m:=Oh rs cs i;cases h:cs[i]?with
  |none=>rw [RK,h];simp only [Option.toList,DG];omega
  |some c=>have g:=qU c;rw [Hr rs cs i c h];omega
theorem O0{rs:List AX}{cs:List Chg}(B:BQ rs)(g:zN cs)(m:∀c∈cs,GV rs c):∀i,i<=cs.length->((DU rs (cs.take i)).length:Int)=Gu rs (cs.take i)
 |0,_=>rfl
 |i+1,hi=>by
  obtain ⟨x,hx⟩:∃x,cs[i]?=some x:=⟨_,B7 A1⟩;have I:=O0 B g m i A1
  obtain ⟨G,h2⟩:=KX B g m i A1;rw [EQ rs cs i x hx,Hr rs cs i x hx,yB G (h2 i x (D2 _) hx),I];unfold NR;omega
structure Kh(rs:List AX)(p rp:Int)(cs:List Chg):Prop where
 ok:EM rp cs
 pos:rp=p+1
 fit:∀c∈cs,GV rs c
 size:Gu rs cs<=2000
theorem Ig(h:∀c∈cs.take i,GV rs c)(hx:cs[i]?=some x)(g:GV rs x):∀c∈cs.take (i+1),GV rs c:=by
 rw [RK,hx];intro c hc;rcases Bm.1 hc with h9|h9
 · exact h c h9
 · rw [C1.1 h9];exact g
theorem Bi(a b:List AX):Af (a++b)=Af a++Af b:=by unfold Af;rw [Pu]
theorem BH:∀(rs:List AX),(Af rs).length=rs.length*5
 |[]=>rfl
 |r::rs=>by
  have:=BH rs;unfold Af at*;rw [HW,BW,this,Dd];simp;omega
theorem EG(rs:List AX)(k:Nat):(Af rs).take (k*5)=Af (rs.take k):=by
 rcases E4 rs.length k with h|h
 · rw [J0 (by rw [BH];omega),J0 A1]
 · have e:Af rs=Af (rs.take k)++Af (rs.drop k):=by rw [<-Bi,K1]
   rw [e,Hb (by rw [BH,CC];omega)]
theorem Dj(rs:List AX)(k:Nat):(Af rs).drop (k*5)=Af (rs.drop k):=by
 rcases E4 rs.length k with h|h
 · rw [T6 (by rw [BH];omega),T6 A1];rfl
 · have e:Af rs=Af (rs.take k)++Af (rs.drop k):=by rw [<-Bi,K1]
   rw [e,Wc (by rw [BH,CC];omega)]
theorem CU(rs:List AX):∀u∈Af rs,u.oneCell'=true:=by
 intro u g;unfold Af at g;obtain ⟨r,_,h⟩:=SM.1 g;simp only [DB,RR,PF]at h;rcases h with rfl|rfl|rfl|rfl|rfl<;>rfl
theorem BS{n n':Nat}{xs':List A3}(h:Bd sz e v n xs s)(hn:n=n')(hx:xs=xs'):Bd sz e v n' xs' s:=by subst hn hx;exact h
theorem Ew{b:B6}{n c:Nat}(h:Bd sz e (.slice b n c) n xs s):n<=c:=by
 obtain ⟨_,⟨hv,h0,_⟩|⟨_,_,_,_,hv,_,h2,_⟩⟩:=h;· omega
 · injection hv with _ _ hv3;omega
theorem VN(sz:Nat)(b:B6)(c:Nat):Nh sz (.slice b 0 c) 0 [] []:=⟨by simp,.inl ⟨rfl,b,c,rfl⟩⟩
theorem DN(sz g k c:Nat)(e:AK)(z:Nat×Nat)(xs:List A3)(h:xs.length=k*sz):Nh sz (I6 g k c) k xs [(g,.cells xs.toArray e z)]:=
 ⟨h,.inr ⟨g,0,c,xs.toArray,e,z,rfl,rfl,by unfold C9;rw [RW];simp⟩⟩
theorem XY(h:c.has=true):Ny c=[⟨c.t,c.k,c.n⟩]:=Ax h
theorem XZ(h:c.has=false):Ny c=[]:=An (by rw [h];decide)
theorem jQ(hx:cs[i]?=some x)(g:x.had=true)(h2:x.has=true):Gu rs (cs.take (i+1))=Gu rs (cs.take i) -1+1:=by rw [Hr rs cs i x hx];unfold NR;rw [Ax h2,Ax g];omega
theorem jR(hx:cs[i]?=some x)(g:x.had=true)(h2:x.has=false):Gu rs (cs.take (i+1))=Gu rs (cs.take i) -1:=by rw [Hr rs cs i x hx];unfold NR;rw [An (by rw [h2];decide),Ax g];omega
theorem jS(hx:cs[i]?=some x)(g:x.had=false)(h2:x.has=true):Gu rs (cs.take (i+1))=Gu rs (cs.take i)+1:=by rw [Hr rs cs i x hx];unfold NR;rw [Ax h2,An (by rw [g];decide)];omega
theorem jT(hx:cs[i]?=some x)(g:x.had=false)(h2:x.has=false):Gu rs (cs.take (i+1))=Gu rs (cs.take i):=by rw [Hr rs cs i x hx];unfold NR;rw [An (by rw [h2];decide),An (by rw [g];decide)];omega
theorem rP(sp:Nat)(p rp:Int)(v:A3)(rs:List AX)(sv M:List A9)(q:B6)(bn:Nat)(cs:List Chg)(gq:Bd 5 72 v rs.length (Af rs) sv)(hO:Cf M (.slice q cs.length bn) cs)(hs:BQ rs)(hn:rs.length<=2000)(hp:0<=p/\p<=10000):
 BZ prog 24 #[I5 sp,.agg #[I4 rp,.slice q cs.length bn]] [[(sp,.cells #[v,I4 p] 76 (0,0))],sv,M] (fun r H'=>(Kh rs p rp cs/\∃v' pg,r=I4 0/\Bd 5 72 v' (DU rs cs).length (Af (DU rs cs)) pg/\H'=[[(sp,.cells #[v',I4 rp] 76 (0,0))],pg,M])\/(¬Kh rs p rp cs/\r=I4 40/\H'=[[(sp,.cells #[v,I4 p] 76 (0,0))],sv,M])):=by
 have r9:=mL;obtain ⟨qv,l8,rfl⟩:=gq.form;have pq:=QD gq A1
 obtain ⟨p9,ql,e9,sj,hg⟩:=id hO;injection e9 with e91 e92 e93
 subst e91 e93;refine Se func24 ntmps24 [0,1] ?_;intro u R;refine A0<|Ze (Bx #[_,_])<|AG fun rb=>A4 Y<|A0<|Zo Wh (Pa #[_,_] HP F1 Y) ?_;refine Xr [_] Y call65 Y V (lZ rp q bn cs M hO) ?_;refine A4 Y<|Zq<|Zq<|Az (n:=12) (0::1::3::7::15::7::39::103::231::487::1023::2047::[]) 0 AE AE V<|A2 0 V (AP Y)<|A2 1 V (Cn Y)<|A2 2 V (AP Y)<|D8 (t:=23) Y (fun hv=>?_) (fun hv=>?_);·
  rw [DE hv];refine AM 3 V<|AM 4 V<|AM 5 V<|AM 6 V<|AM 7 V<|AM 8 V<|AM 9 V<|AM 10 V<|A2 11 V (AV Y Y)<|Ag<|Zn [0,3,32] ?_;refine Zx<|Co Y<|A0<|A4 Y<|AJ<|Zt<|AO V er Y (by exact .inr ⟨fun h=>hv h.ok,V,V⟩)
 rw [Cd hv];refine B3 3 V (AB (off:=0) Ge V rfl A6 Y)<|DQ 4 V Wh (BO AF Y As) ?_;refine B3 5 V (AP Y)<|B3 6 V (Ap Y V)<|B3 7 V (AB (off:=1) J1 V rfl A6 Y)<|DQ 8 V Wh (BO AF Y As) ?_
 (refine B3 9 rfl (Hg Y Y (IntWalk.i64_in _ ?_)) ?_;(focus (omega)))
 refine B3 10 V (LZ Y Y)<|A2 11 V (AL Y Y)<|Ag<|Zn [0,3,32] ?_;refine Zx<|Aq Y (fun gm=>?_) (fun gm=>?_);·
  refine A0<|A4 Y<|AJ<|Zt<|AO V er Y (by exact .inr ⟨fun h=>gm h.pos,V,V⟩)
 refine AC<|Zx<|Zq ?_;have l5:=HL.1 hv
 have qb:=HL.1 gm;have qo:=l5.len
 have j3:=UV l5.ord;refine Zg<|Zm Y<|Zp Y V<|Zh 0 J1 V rfl CI Y<|Zl Fm Y ?_;refine Zv (AY BE Y)<|A4 Y<|Zq<|A0<|A4 Y<|AQ<|Zb [6,7,0,3] ?_;refine BA (e0:=[(6,_),(7,_)]) (fun m e H=>∃(i:Nat),m=cs.length -i/\(i<=cs.length/\(∀c∈cs.take i,GV rs c))/\e=[(6,I4 (Gu rs (cs.take i))),(7,I4 (i:Int))]/\H=[]) (by exact ⟨0,V,⟨C5 _,by simp⟩,V,V⟩) Wp ?_;rintro _ _ _ ⟨i,rfl,⟨hi,I⟩,rfl,rfl⟩;have o9:=Oh rs cs i
 refine Zq<|A0<|Zm Y<|Zh 1 Ge V rfl Lq Y<|Zl N4 Y ?_;refine Zv (AY GF Y)<|Zv (Au Y Y)<|A5<|Aq Y (fun d9=>?_) (fun d9=>?_);·
  refine AC<|Zx<|Zq<|AQ<|Zq ?_;obtain ⟨x,hx⟩:∃x,cs[i]?=some x:=⟨_,B7 d9⟩;obtain ⟨g,off,cur,T,zz,rfl,hm,qj,kv⟩:=hg i x hx;refine Zg<|Zh 1 Ge V rfl Lq Y<|Zl N4 Y ?_;refine Zm Y<|BV (Ad GF C7 Y Y A1)<|CG (cs:=[(g,.cells cur T zz)]) (by simp [hm]) (AA (cs:=x.A96) G2 C7 Y A1 kv) V rfl ?_;refine Ze (Al MA #[_,_,_,_,_,_,_,_,_,_])<|AG fun cb=>Xe (Xw C7 x.A96) ?_;refine A5<|A0<|Zm Y<|Zh 0 C0 V rfl A6 Y<|Zl AF Y ?_;refine Zh 1 C0 V rfl A6 Y<|Zl AF Y ?_;refine Xr [_,_,_] Y call23 Y V (rO sp qv l8 p x.t x.k rs sv pq A1 hs) ?_;obtain ⟨gr,cO⟩:∃gr,gr=Fs rs x.t x.k:=⟨_,rfl⟩;rw [<-cO];refine Zm Y<|Zd Y V<|Zd Y V<|Ze (Al F0 #[_,_,_,_,_])<|AG fun xb=>Xe (Xw B0 #[I4 gr.1.t,I4 gr.1.k,I4 gr.1.v.a,I4 gr.1.v.b,I4 gr.1.v.c]) ?_;refine AN Y<|Zn [0,3,6,7,8,9,10] ?_;refine Zx<|Zq<|A0<|Zm Y<|Zh 2 C0 V rfl Cp Y<|Zl E6 Y ?_;refine Zv (Kv LS Y Y)<|Zm Y<|Aj (t:=63) Y V (fun gy=>?_) (fun gy=>?_);·
   refine A7 Y V<|A7 Y V<|A7 Y V<|A7 Y V<|A7 Y V<|A7 Y V<|A7 Y V<|A7 Y V<|Zv (AV Y Y)<|Z0<|Zn [0,3,6,7,8,72] ?_;refine Zx<|Co Y<|A0<|A4 Y<|AJ<|Zt<|Ac<|Zt<|Zt<|Ac<|Zt<|AO rfl er Y (by exact .inr ⟨fun h=>by have h9:=(h.fit x (Dg hx)).1;rw [<-cO]at h9;exact gy h9,rfl,rfl⟩)
  refine Zf Y Y<|Zf Y Y ?_;refine Ae (t:=65) Y V (fun ic=>?_) (fun ic=>?_);·
   refine Yf 2 G0 V rfl DO Y<|Db Y Wh (Pa #[_,_,_] HB DO Y) V rfl ?_;refine Yf 3 C0 V rfl DO Y<|Db Y Wh (AA (cs:=#[_,_,_]) HB DO Y B1 As) V rfl ?_;refine Yg (Kw AE Hh CM AF A6 Y Y) ?_;refine Yg (AV Y Y)<|Zv (AL Y Y)<|Z0<|Zn [0,3,6,7,8,72] ?_;refine Zx<|Aq Y (fun j5=>?_) (fun j5=>?_);·
    refine A0<|A4 Y<|AJ<|Zt<|Ac<|Zt<|Zt<|Ac<|Zt<|AO rfl er Y (by exact .inr ⟨fun h=>by have h9:=(h.fit x (Dg hx)).2;rw [<-cO]at h9;exact j5 (h9 ic),rfl,rfl⟩)
   refine AC<|Zx<|Zq<|Zq ?_;have U:GV rs x:=by
    unfold GV;rw [<-cO];refine ⟨by simpa using gy,fun h=>?_⟩;exact HL.1 j5
   refine Zg<|Zh 2 C0 V rfl Cp Y<|Zl E6 Y ?_;refine A5<|AU Y (fun G=>?_) (fun G=>?_);·
    refine Zg<|Zm Y ?_
    (refine BV (GN Y Y (IntWalk.i64_in _ ?_)) ?_;(focus (omega)))
    refine A4 Y<|A0<|Zh 6 C0 V rfl Cp Y<|Zl E6 Y ?_;refine A5<|AU Y (fun B=>?_) (fun B=>?_);·
     refine Zg<|Zm Y<|Yi Y Y<|AN Y<|A8<|Zx<|Zg<|Zm Y<|Ya (n:=1) Y Y<|AN Y<|Zn [6,7,0,3] ?_;refine Ab (e':=[(6,_),(7,_)]) (by exact ⟨i+1,rfl,⟨by omega,Ig I hx U⟩,by rw [jQ hx G B],rfl⟩)
    refine AC<|A8<|Zx<|Zg<|Zm Y<|Ya (n:=1) Y Y<|AN Y<|Zn [6,7,0,3] ?_;refine Ab (e':=[(6,_),(7,_)]) (by exact ⟨i+1,rfl,⟨by omega,Ig I hx U⟩,by rw [jR hx G B],rfl⟩)
   refine AC<|Zx<|A0<|Zh 6 C0 V rfl Cp Y<|Zl E6 Y ?_;refine A5<|AU Y (fun B=>?_) (fun B=>?_);·
    refine Zg<|Zm Y<|Yi Y Y<|AN Y<|A8<|Zx<|Zg<|Zm Y<|Ya (n:=1) Y Y<|AN Y<|Zn [6,7,0,3] ?_;refine Ab (e':=[(6,_),(7,_)]) (by exact ⟨i+1,rfl,⟨by omega,Ig I hx U⟩,by rw [jS hx G B],rfl⟩)
   refine AC<|A8<|Zx<|Zg<|Zm Y<|Ya (n:=1) Y Y<|AN Y<|Zn [6,7,0,3] ?_;refine Ab (e':=[(6,_),(7,_)]) (by exact ⟨i+1,rfl,⟨by omega,Ig I hx U⟩,by rw [jT hx G B],rfl⟩)
  refine A7 Y V<|A7 Y V<|A7 Y V<|A7 Y V<|A7 Y V<|Yg (AL Y Y)<|Zv (AL Y Y)<|Z0<|Zn [0,3,6,7,8,72] ?_;refine Zx<|D9 Y<|AC<|Zx<|Zq<|Zq ?_;have U:GV rs x:=by
   unfold GV;rw [<-cO];refine ⟨by simpa using gy,fun h=>?_⟩
   (rw [h]at ic;cases ic)
  refine Zg<|Zh 2 C0 V rfl Cp Y<|Zl E6 Y ?_;refine A5<|AU Y (fun G=>?_) (fun G=>?_);·
   refine Zg<|Zm Y ?_
   (refine BV (GN Y Y (IntWalk.i64_in _ ?_)) ?_;(focus (omega)))
   refine A4 Y<|A0<|Zh 6 C0 V rfl Cp Y<|Zl E6 Y ?_;refine A5<|AU Y (fun B=>?_) (fun B=>?_);·
    refine Zg<|Zm Y<|Yi Y Y<|AN Y<|A8<|Zx<|Zg<|Zm Y<|Ya (n:=1) Y Y<|AN Y<|Zn [6,7,0,3] ?_;refine Ab (e':=[(6,_),(7,_)]) (by exact ⟨i+1,rfl,⟨by omega,Ig I hx U⟩,by rw [jQ hx G B],rfl⟩)
   refine AC<|A8<|Zx<|Zg<|Zm Y<|Ya (n:=1) Y Y<|AN Y<|Zn [6,7,0,3] ?_;refine Ab (e':=[(6,_),(7,_)]) (by exact ⟨i+1,rfl,⟨by omega,Ig I hx U⟩,by rw [jR hx G B],rfl⟩)
  refine AC<|Zx<|A0<|Zh 6 C0 V rfl Cp Y<|Zl E6 Y ?_;refine A5<|AU Y (fun B=>?_) (fun B=>?_);·
   refine Zg<|Zm Y<|Yi Y Y<|AN Y<|A8<|Zx<|Zg<|Zm Y<|Ya (n:=1) Y Y<|AN Y<|Zn [6,7,0,3] ?_;refine Ab (e':=[(6,_),(7,_)]) (by exact ⟨i+1,rfl,⟨by omega,Ig I hx U⟩,by rw [jS hx G B],rfl⟩)
  refine AC<|A8<|Zx<|Zg<|Zm Y<|Ya (n:=1) Y Y<|AN Y<|Zn [6,7,0,3] ?_;refine Ab (e':=[(6,_),(7,_)]) (by exact ⟨i+1,rfl,⟨by omega,Ig I hx U⟩,by rw [jT hx G B],rfl⟩)
 have ei:i=cs.length:=by omega
 subst ei;rw [GS]at I o9⊢;refine Ay<|Zt<|Zt<|AR<|Zx<|Zq<|A0<|Zm Y<|Zv (Et Y Y)<|A5<|Aq Y (fun l9=>?_) (fun l9=>?_);·
  refine A0<|A4 Y<|AJ<|Zt<|AO V er Y (by exact .inr ⟨fun h=>by have h9:=h.size;omega,V,V⟩)
 refine AC<|Zx<|Zq<|A0<|A4 Y<|AQ<|Zb [11,0,3] ?_;refine BA (e0:=[(11,_)]) (fun m e H=>∃(i:Nat) (w:A3) (sw:List A9),m=cs.length -i/\(i<=cs.length/\Bd 5 72 w (DU rs (cs.take i)).length (Af (DU rs (cs.take i))) sw)/\e=[(11,I4 (i:Int))]/\H=[[(sp,.cells #[w,I4 p] 76 (0,0))],sw]) (by exact ⟨0,_,sv,V,⟨C5 _,gq⟩,V,V⟩) Wp ?_;rintro _ _ _ ⟨i,w,sw,rfl,⟨hi,O⟩,rfl,rfl⟩;obtain ⟨p8,o8⟩:=KX hs j3 I i hi;have qa:=O0 hs j3 I i hi
 have o9:=Oh rs cs i;obtain ⟨qs,ax⟩:∃qs,qs=DU rs (cs.take i):=⟨_,rfl⟩;rw [<-ax]at O p8 qa o8;obtain ⟨qw,cu,rfl⟩:=O.form;have qx:=Ew O
 have pz:=QD O A1;refine Zq<|A0<|Zm Y<|Zh 1 Ge V rfl Lq Y<|Zl N4 Y ?_;refine Zv (AY GF Y)<|Zv (Au Y Y)<|A5<|Aq Y (fun d9=>?_) (fun d9=>?_);·
  refine AC<|Zx<|Zq<|AQ<|Zq ?_;obtain ⟨x,hx⟩:∃x,cs[i]?=some x:=⟨_,B7 d9⟩;obtain ⟨g,off,cur,T,zz,rfl,hm,qj,kv⟩:=hg i x hx;have U:=o8 i x (D2 _) hx
  have ek:=Vl qs x.t x.k;have J:EN qs x=qs.take (EA qs x.t x.k)++Ny x++(qs.drop (EA qs x.t x.k)).drop (if x.had then 1 else 0):=rfl
  obtain ⟨k,hk⟩:∃k,k=EA qs x.t x.k:=⟨_,rfl⟩;have q9:x.had=true->k<qs.length:=fun h=>by
   obtain ⟨r,_,_,h9,_⟩:=JP (by rw [U.1,h]:(Fs qs x.t x.k).2=true);rw [<-hk]at h9;exact (C4.1 h9).1
  rw [<-hk]at ek J;refine Zg<|Zh 1 Ge V rfl Lq Y<|Zl N4 Y ?_;refine Zm Y<|BV (Ad GF C7 Y Y A1)<|CG (cs:=[(g,.cells cur T zz)]) (by simp [hm]) (AA (cs:=x.A96) G2 C7 Y A1 kv) V rfl ?_;refine Ze (Al MA #[_,_,_,_,_,_,_,_,_,_])<|AG fun cb=>Xe (Xw C7 x.A96) ?_;refine A5<|A0<|Zm Y<|Zh 0 C0 V rfl A6 Y<|Zl AF Y ?_;refine Zh 1 C0 V rfl A6 Y<|Zl AF Y ?_;refine Xr [_,_,_] Y call64 Y V (Z7 sp qw cu p x.t x.k qs sw pz A1 p8) ?_;rw [<-hk];refine AN Y<|Zn [0,3,11,12,13] ?_;refine Zx<|A0<|Zm Y<|Zp Y V<|Zh 0 J1 V rfl CI Y<|Zl Fm Y ?_;refine Zm Y<|BV (CE BE B0 Y Y A1)<|A4 Y<|Zq<|A0<|Zh 2 C0 V rfl Cp Y<|Zl E6 Y ?_;refine A5<|AU Y (fun G=>?_) (fun G=>?_);·
   have qz:=q9 G;refine Zg<|Zm Y<|BV (CE (l:=1) BE B0 Y Y A1)<|A4 Y<|A0<|AN Y<|Zn [0,3,11,12,13,14,15] ?_;refine Zx<|A0<|Zo Wh (Pa #[_,_,_,_,_,_,_,_,_,_] G2 C7 Y) ?_;refine Xr [_] Y call66 Y V (Sw x) ?_;refine Zm Y<|Zd Y V<|Zd Y V<|Ze (Al F0 #[_,_,_,_,_])<|AG fun xb=>Xe (Xw B0 x.after.A97) ?_;refine A4 Y<|Zq<|A0<|Zm Y<|A5<|AU Y (fun B=>?_) (fun B=>?_);·
    refine Zg<|Zo Wh (Pa #[_,_,_,_,_] D0 B0 Y) ?_;refine Ze (Ai (vs:=[_]) (cs:=[_,_,_,_,_]) BE B0 F0 Y V rfl V rfl V)<|AG fun gb=>A4 Y<|A0<|AN Y<|Zn [0,3,11,13,14,15,18] ?_;refine Zx<|Zq<|BX<|Zg<|Zm Y<|Zm Y<|Zp Y V<|Zh 0 J1 V rfl CI Y<|Zl Fm Y ?_;refine Zm Y<|BV (Bu BE B0 Y Y A1)<|Ze (BR (by_:=40) (sz:=5) BE (V:Tryz.prog.info? 72=some Tryz.t72) V rfl V rfl Y (Bf 5 _) Y (KE O k _ ek) Wo Wo (by exact fun u hu=>CU qs u (Pc hu)) A1 A1) ?_;rintro _ _ ⟨sa,X,rfl⟩;obtain ⟨ga,ca,rfl⟩:=X.form;refine Zm Y<|Ze (BR (by_:=40) (sz:=5) BE (V:Tryz.prog.info? 72=some Tryz.t72) V rfl V rfl Y (X) Y (DN 5 gb 1 1 72 (0,0) (Af [x.after]) V) Wo Wo (by exact CU _) A1 A1) ?_;rintro _ _ ⟨sb,Z,rfl⟩;obtain ⟨gb,cb,rfl⟩:=Z.form;refine Zm Y<|Ze (BR (by_:=40) (sz:=5) BE (V:Tryz.prog.info? 72=some Tryz.t72) V rfl V rfl Y (Z) Y (YW (KF O k (qs.length -k) (cu -k) A1) 1 (qs.length -k -1) _ A1 A1) Wo Wo (by exact fun u hu=>CU qs u (KB (KB hu))) A1 A1) ?_;rintro _ _ ⟨sc,af,rfl⟩;have W:=BS af (n':=(EN qs x).length) (xs':=Af (EN qs x)) (by rw [J,XY B,Ax G,BW,BW,CC,CD,CD];simp only [Dd,LI];omega) (by rw [J,XY B,Ax G,Bi,Bi,<-EG,<-Dj (qs.drop k) 1,<-Dj];rw [LV B];rfl)
    obtain ⟨gc,cc,rfl⟩:=af.form;refine AN Y<|Zn [0,3,11,18] ?_;refine Zx<|Zg<|Zm Y<|Zm Y<|Zp Y V<|Zh 0 J1 V rfl CI Y<|Xe (Zs CI Y Y V) ?_;refine Z0<|A8<|Zx<|Zg<|Zm Y<|Ya (n:=1) Y Y<|AN Y<|Zn [11,0,3] ?_;refine Ab (e':=[(11,_)]) (by exact ⟨i+1,_,_,rfl,⟨by omega,by rw [EQ rs cs i x hx,<-ax];exact W⟩,rfl,rfl⟩)
   refine BX<|AC<|Zx<|A0<|A4 Y<|Zq<|BX<|Zg<|Zm Y<|Zm Y<|Zp Y V<|Zh 0 J1 V rfl CI Y<|Zl Fm Y ?_;refine Zm Y<|BV (Bu BE B0 Y Y A1)<|Ze (BR (by_:=40) (sz:=5) BE (V:Tryz.prog.info? 72=some Tryz.t72) V rfl V rfl Y (Bf 5 _) Y (KE O k _ ek) Wo Wo (by exact fun u hu=>CU qs u (Pc hu)) A1 A1) ?_;rintro _ _ ⟨sa,X,rfl⟩;obtain ⟨ga,ca,rfl⟩:=X.form;refine Zm Y<|Ze (BR (by_:=40) (sz:=5) BE (V:Tryz.prog.info? 72=some Tryz.t72) V rfl V rfl Y (X) Y (VN 5 none 0) Wo Wo B4 A1 A1) ?_;rintro _ _ ⟨sb,Z,rfl⟩;obtain ⟨gb,cb,rfl⟩:=Z.form;refine Zm Y<|Ze (BR (by_:=40) (sz:=5) BE (V:Tryz.prog.info? 72=some Tryz.t72) V rfl V rfl Y (Z) Y (YW (KF O k (qs.length -k) (cu -k) A1) 1 (qs.length -k -1) _ A1 A1) Wo Wo (by exact fun u hu=>CU qs u (KB (KB hu))) A1 A1) ?_;rintro _ _ ⟨sc,af,rfl⟩;have W:=BS af (n':=(EN qs x).length) (xs':=Af (EN qs x)) (by rw [J,XZ B,Ax G,BW,BW,CC,CD,CD];simp only [Dd,LI];omega) (by rw [J,XZ B,Ax G,Bi,Bi,<-EG,<-Dj (qs.drop k) 1,<-Dj];rfl)
   obtain ⟨gc,cc,rfl⟩:=af.form;refine AN Y<|Zn [0,3,11,18] ?_;refine Zx<|Zg<|Zm Y<|Zm Y<|Zp Y V<|Zh 0 J1 V rfl CI Y<|Xe (Zs CI Y Y V) ?_;refine Z0<|A8<|Zx<|Zg<|Zm Y<|Ya (n:=1) Y Y<|AN Y<|Zn [11,0,3] ?_;refine Ab (e':=[(11,_)]) (by exact ⟨i+1,_,_,rfl,⟨by omega,by rw [EQ rs cs i x hx,<-ax];exact W⟩,rfl,rfl⟩)
  refine AC<|Zx<|A0<|A4 Y<|A0<|Zo Wh (Pa #[_,_,_,_,_,_,_,_,_,_] G2 C7 Y) ?_;refine Xr [_] Y call66 Y V (Sw x) ?_;refine Zm Y<|Zd Y V<|Zd Y V<|Ze (Al F0 #[_,_,_,_,_])<|AG fun xb=>Xe (Xw B0 x.after.A97) ?_;refine AN Y<|Zn [0,3,11,13,14,15,16,17] ?_;refine Zx<|Zq<|A0<|Zm Y<|A5<|AU Y (fun B=>?_) (fun B=>?_);·
   refine Zg<|Zo Wh (Pa #[_,_,_,_,_] D0 B0 Y) ?_;refine Ze (Ai (vs:=[_]) (cs:=[_,_,_,_,_]) BE B0 F0 Y V rfl V rfl V)<|AG fun gb=>A4 Y<|A0<|A4 Y<|Zq<|BX<|Zg<|Zm Y<|Zm Y<|Zp Y V<|Zh 0 J1 V rfl CI Y<|Zl Fm Y ?_;refine Zm Y<|BV (Bu BE B0 Y Y A1)<|Ze (BR (by_:=40) (sz:=5) BE (V:Tryz.prog.info? 72=some Tryz.t72) V rfl V rfl Y (Bf 5 _) Y (KE O k _ ek) Wo Wo (by exact fun u hu=>CU qs u (Pc hu)) A1 A1) ?_;rintro _ _ ⟨sa,X,rfl⟩;obtain ⟨ga,ca,rfl⟩:=X.form;refine Zm Y<|Ze (BR (by_:=40) (sz:=5) BE (V:Tryz.prog.info? 72=some Tryz.t72) V rfl V rfl Y (X) Y (DN 5 gb 1 1 72 (0,0) (Af [x.after]) V) Wo Wo (by exact CU _) A1 A1) ?_;rintro _ _ ⟨sb,Z,rfl⟩;obtain ⟨gb,cb,rfl⟩:=Z.form;refine Zm Y<|Ze (BR (by_:=40) (sz:=5) BE (V:Tryz.prog.info? 72=some Tryz.t72) V rfl V rfl Y (Z) Y (KF O k (qs.length -k) _ A1) Wo Wo (by exact fun u hu=>CU qs u (KB hu)) A1 A1) ?_;rintro _ _ ⟨sc,af,rfl⟩;have W:=BS af (n':=(EN qs x).length) (xs':=Af (EN qs x)) (by rw [J,XY B,An (by rw [G];decide),BW,BW,CC,CD,CD];simp only [Dd,LI];omega) (by rw [J,XY B,An (by rw [G];decide),Bi,Bi,<-EG,<-Dj (qs.drop k) 0,<-Dj,eL,RW];rw [LV B];rfl)
   obtain ⟨gc,cc,rfl⟩:=af.form;refine AN Y<|Zn [0,3,11,18] ?_;refine Zx<|Zg<|Zm Y<|Zm Y<|Zp Y V<|Zh 0 J1 V rfl CI Y<|Xe (Zs CI Y Y V) ?_;refine Z0<|A8<|Zx<|Zg<|Zm Y<|Ya (n:=1) Y Y<|AN Y<|Zn [11,0,3] ?_;refine Ab (e':=[(11,_)]) (by exact ⟨i+1,_,_,rfl,⟨by omega,by rw [EQ rs cs i x hx,<-ax];exact W⟩,rfl,rfl⟩)
  refine BX<|AC<|Zx<|A0<|A4 Y<|Zq<|BX<|Zg<|Zm Y<|Zm Y<|Zp Y V<|Zh 0 J1 V rfl CI Y<|Zl Fm Y ?_;refine Zm Y<|BV (Bu BE B0 Y Y A1)<|Ze (BR (by_:=40) (sz:=5) BE (V:Tryz.prog.info? 72=some Tryz.t72) V rfl V rfl Y (Bf 5 _) Y (KE O k _ ek) Wo Wo (by exact fun u hu=>CU qs u (Pc hu)) A1 A1) ?_;rintro _ _ ⟨sa,X,rfl⟩;obtain ⟨ga,ca,rfl⟩:=X.form;refine Zm Y<|Ze (BR (by_:=40) (sz:=5) BE (V:Tryz.prog.info? 72=some Tryz.t72) V rfl V rfl Y (X) Y (VN 5 none 0) Wo Wo B4 A1 A1) ?_;rintro _ _ ⟨sb,Z,rfl⟩;obtain ⟨gb,cb,rfl⟩:=Z.form;refine Zm Y<|Ze (BR (by_:=40) (sz:=5) BE (V:Tryz.prog.info? 72=some Tryz.t72) V rfl V rfl Y (Z) Y (KF O k (qs.length -k) _ A1) Wo Wo (by exact fun u hu=>CU qs u (KB hu)) A1 A1) ?_;rintro _ _ ⟨sc,af,rfl⟩;have W:=BS af (n':=(EN qs x).length) (xs':=Af (EN qs x)) (by rw [J,XZ B,An (by rw [G];decide),BW,BW,CC,CD,CD];simp only [Dd,LI];omega) (by rw [J,XZ B,An (by rw [G];decide),Bi,Bi,<-EG,<-Dj (qs.drop k) 0,<-Dj,eL,RW];rfl)
  obtain ⟨gc,cc,rfl⟩:=af.form;refine AN Y<|Zn [0,3,11,18] ?_;refine Zx<|Zg<|Zm Y<|Zm Y<|Zp Y V<|Zh 0 J1 V rfl CI Y<|Xe (Zs CI Y Y V) ?_;refine Z0<|A8<|Zx<|Zg<|Zm Y<|Ya (n:=1) Y Y<|AN Y<|Zn [11,0,3] ?_;refine Ab (e':=[(11,_)]) (by exact ⟨i+1,_,_,rfl,⟨by omega,by rw [EQ rs cs i x hx,<-ax];exact W⟩,rfl,rfl⟩)
 have ei:i=cs.length:=by omega
 subst ei;rw [GS]at ax;refine Ay<|Zt<|Zt<|AR<|Zx<|A0<|Zm Y<|Zh 0 Ge V rfl A6 Y<|Zl AF Y ?_;refine Zp Y V<|Zh 1 J1 V rfl A6 Y<|Xe (Zs A6 Y Y V) ?_;refine A5<|A0<|A4 Y<|AJ<|AO rfl er Y (by exact .inl ⟨⟨l5,qb,I,by omega⟩,_,sw,rfl,by rw [<-ax];exact O,rfl⟩)
structure BP where
 p:Int
 q:B6
 cap:Nat
 cs:List Chg
def Du(l:List BP):List A3:=l.flatMap (fun r=>[I4 r.p,.slice r.q r.cs.length r.cap])
def EE(M:List A9)(v:A3)(l:List BP):Prop:=∃p cap,v= .slice p l.length cap/\(l.length<=maxLen/\l.length<=cap)/\∀(i:Nat) (r:BP),l[i]?=some r->Cf M (.slice r.q r.cs.length r.cap) r.cs/\∃g off cur T zz,p=some ⟨g,off,none⟩/\(g,Obj.cells cur T zz)∈M/\off+i*2+2<=cur.size/\cur.extract (off+i*2) (off+i*2+2)=#[I4 r.p,.slice r.q r.cs.length r.cap]
def Bb(l:List BP):List AX:=l.foldl (fun rs r=>DU rs r.cs) []
theorem Gn(l:List BP)(r:BP):Bb (l++[r])=DU (Bb l) r.cs:=by unfold Bb;rw [Wa];rfl
def FC(l:List BP):Prop:=∀(i:Nat) (r:BP),l[i]?=some r->Kh (Bb (l.take i)) (i:Int) r.p r.cs/\r.cs.length<=3
theorem jD{p rp:Int}(B:BQ rs)(h:Kh rs p rp cs):BQ (DU rs cs)/\(DU rs cs).length<=2000:=by
 have m:=UV h.ok.ord;obtain ⟨g,_⟩:=KX B m h.fit cs.length (D2 _);have h2:=O0 B m h.fit cs.length (D2 _)
 rw [GS]at g h2;exact ⟨g,by have:=h.size;omega⟩
theorem FC.rows{l:List BP}(h:FC l):∀i,i<=l.length->BQ (Bb (l.take i))/\(Bb (l.take i)).length<=2000
 |0,_=>⟨List.Pairwise.nil,C5 _⟩
 |i+1,hi=>by
  obtain ⟨r,g⟩:∃r,l[i]?=some r:=⟨_,B7 A1⟩;have m:=FC.rows h i A1
  rw [RK,g];show BQ (Bb (l.take i++[r]))/\_
  rw [show(some r).toList=[r] from rfl,Gn];exact jD m.1 (h i r g).1
theorem FC.all{l:List BP}(h:FC l):BQ (Bb l)/\(Bb l).length<=2000:=by
 have:=h.rows l.length (D2 _);rwa [GS]at this
theorem FC.snoc{l:List BP}(h:FC l){r:BP}(B:Kh (Bb l) (l.length:Int) r.p r.cs)(m:r.cs.length<=3):FC (l++[r]):=by
 intro i x hx;rw [p6]at hx;split at hx
 · rename_i hi
   rw [cN A1];exact h i x hx
 · rename_i hi
   have g:=(C4.1 hx).1;simp only [Fl]at g;have e:i=l.length:=by omega
   subst e;rw [Wf]at hx;injection hx with hx
   subst hx;rw [Hb rfl];exact ⟨B,m⟩
theorem G9:∀(cs:List Chg),(Cj cs).length=cs.length*10
 |[]=>rfl
 |c::cs=>by
  have:=G9 cs;unfold Cj at*;rw [HW,BW,this,Dd];simp;omega
theorem J9(a b:List Chg):Cj (a++b)=Cj a++Cj b:=by unfold Cj;rw [Pu]
theorem V4(cs:List Chg)(k:Nat):(Cj cs).take (k*10)=Cj (cs.take k):=by
 rcases E4 cs.length k with h|h
 · rw [J0 (by rw [G9];omega),J0 A1]
 · have e:Cj cs=Cj (cs.take k)++Cj (cs.drop k):=by rw [<-J9,K1]
   rw [e,Hb (by rw [G9,CC];omega)]
theorem V5(cs:List Chg)(k:Nat):(Cj cs).drop (k*10)=Cj (cs.drop k):=by
 rcases E4 cs.length k with h|h
 · rw [T6 (by rw [G9];omega),T6 A1];rfl
 · have e:Cj cs=Cj (cs.take k)++Cj (cs.drop k):=by rw [<-J9,K1]
   rw [e,Wc (by rw [G9,CC];omega)]
theorem Pj(cs:List Chg):∀u∈Cj cs,u.oneCell'=true:=by
 intro u g;unfold Cj at g;obtain ⟨r,_,h⟩:=SM.1 g;simp only [DB,RR,PF]at h;rcases h with rfl|rfl|rfl|rfl|rfl|rfl|rfl|rfl|rfl|rfl<;>rfl
theorem vZ{cur:AH}{j:Nat}(h:C9 cur 0 (Cj cs))(hy:cs[j]?=some y):cur[j*10]?=some (I4 y.t)/\cur[j*10+1]?=some (I4 y.k):=by
 have m:=J7 (fun c:Chg=>[I4 c.t,I4 c.k,.bool c.had,I4 c.o.a,I4 c.o.b,I4 c.o.c,.bool c.has,I4 c.n.a,I4 c.n.b,I4 c.n.c]) 10 (fun _=>rfl) cs j y hy;have e:∀q,((Cj cs).drop (j*10)).take 10=[I4 y.t,I4 y.k,.bool y.had,I4 y.o.a,I4 y.o.b,I4 y.o.c,.bool y.has,I4 y.n.a,I4 y.n.b,I4 y.n.c]->q<10->(Cj cs)[j*10+q]?=([I4 y.t,I4 y.k,.bool y.had,I4 y.o.a,I4 y.o.b,I4 y.o.c,.bool y.has,I4 y.n.a,I4 y.n.b,I4 y.n.c]:List A3)[q]?:=fun q B G=>by
  rw [<-B,HJ,Ax G,Q2]
 have a0:=h.get (j*10+0) _ ((e 0 m A1).trans rfl);have g:=h.get (j*10+1) _ ((e 1 m A1).trans rfl)
 rw [DM]at a0 g;exact ⟨a0,g⟩
theorem Jp{M:List A9}(h:Cf M v cs)(s:List A9):Cf (M++s) v cs:=by
 obtain ⟨p,cap,hv,I,G⟩:=h;refine ⟨p,cap,hv,I,fun i c hc=>?_⟩;obtain ⟨g,off,cur,T,zz,m,h2,B⟩:=G i c hc;exact ⟨g,off,cur,T,zz,m,E7 _ h2,B⟩
theorem H8{M:List A9}(h:Cf M v cs)(s:List A9):Cf (s++M) v cs:=by
 obtain ⟨p,cap,hv,I,G⟩:=h;refine ⟨p,cap,hv,I,fun i c hc=>?_⟩;obtain ⟨g,off,cur,T,zz,m,h2,B⟩:=G i c hc;exact ⟨g,off,cur,T,zz,m,GB _ h2,B⟩
def Wm(M:List A9)(v:A3)(xs:List (List Int)):Prop:=∃p cap,v= .slice p xs.length cap/\(xs.length<=maxLen/\xs.length<=cap)/\∀(i:Nat) (z:List Int),xs[i]?=some z->z.length=6/\(∀n∈z,-9223372036854775808<=n/\n<=9223372036854775807)/\∃g off cur T zz,p=some ⟨g,off,none⟩/\(g,Obj.cells cur T zz)∈M/\∀(j:Nat) (n:Int),z[j]?=some n->cur[off+i*6+j]?=some (I4 n)
theorem KI{l:List BP}{G:List A9}(h:Bd 2 50 v l.length (Du l) s)(hn:l.length<=maxLen)(J:∀r∈l,Cf G (.slice r.q r.cs.length r.cap) r.cs):EE (s++G) v l:=by
 obtain ⟨b,cap,rfl⟩:=h.form;refine ⟨b,cap,V,⟨hn,Ew h⟩,fun i r B=>⟨H8 (J r (Dg B)) s,?_⟩⟩;obtain ⟨g,I,cur,z,hv,rfl,O,m⟩:=KH h i (C4.1 B).1;injection hv with hv1 hv2 hv3
 refine ⟨g,0,cur,50,z,hv1,E7 _ (C1.2 V),by omega,?_⟩;rw [DM];apply HX.1;rw [m];exact J7 _ 2 (fun _=>rfl) l i r B
theorem Kq(a b:List BP):Du (a++b)=Du a++Du b:=by unfold Du;rw [Pu]
theorem td:BZ prog 22 #[] [] (fun r H'=>∃g,r=I5 g/\H'=[[(g,.cells #[.slice none 0 0,I4 0] 76 (0,0))]]):=by
 refine Se func22 ntmps22 [] ?_;intro u R;refine A0<|A4 Y<|A0<|Zv (BL (vs:=[]) (cs:=#[_,_]) Y (AZ (pl:=#[(0,1),(1,1)]) zeroValue76 J1 (fun _=>by kernel_rfl) V))<|Ze (Bx #[_,_])<|AG fun g=>A4 Y<|AJ<|AO V results22 Y (by exact ⟨g,V,V⟩)
def K2(k:Int×Int):A3:= .agg #[I4 k.1,I4 k.2]
def KD(k:Int×Int):Prop:=(Lit.int .i64 k.1).wf=true/\(Lit.int .i64 k.2).wf=true
def Sm(r:AX):A3:= .agg r.A97
theorem wS:∀a b,K2 a=K2 b->a=b:=by
 rintro ⟨a,b⟩ ⟨c,d⟩ h;unfold K2 at h;simp only [Value.agg.injEq,q6,na,Value.int.injEq,fL,W6]at h;rw [h.1,h.2]
theorem PR(P:Program)(d:Nat)(a:Int){t:AK}(g:P.underlying t=some (.int .i64))(h:(Lit.int .i64 a).wf=true):P.keyLits (d+1) t [.int .i64 a]=some [.int .i64 a]:=by
 unfold Program.keyLits;rw [g];simp [h]
theorem uY:Fv prog 236 K2 KD:=Fv.ofLaw (deep_law (m:=3) (by decide) (by kernel_rfl) (by kernel_rfl) (by kernel_rfl)) (by
 rintro ⟨a,b⟩ ⟨G,I⟩;have B:Tryz.prog.types.size+1=(Tryz.prog.types.size -1)+1+1:=by
  have:0<Tryz.prog.types.size:=I0 AE;omega
 have hc:Tryz.prog.cellsOf 3=1:=by kernel_rfl
 have g:Tryz.prog.cellsOf 236=2:=by kernel_rfl
 have U:Tryz.prog.keyType 236=true:=by kernel_rfl
 have O:(K2 (a,b)).formed prog 236=true:=by
  unfold Value.formed K2;rw [gi];simp [g]
 unfold keyOf;rw [gi];simp only [U,O,Bool.and_self,Hj];obtain ⟨d,J⟩:∃d,Tryz.prog.types.size+1=d+1+1:=⟨_,B⟩;rw [J];unfold Program.keyLits;rw [gi];have W:=PR prog d a CM G
 have X:=PR prog d b CM I;simp [K2,Value.cells,hc,g,W,X]) wS
structure HV(l:List ((Int×Int)×A3))(rs:List AX):Prop where
 mem:∀p,p∈l↔∃r∈rs,p=((r.t,r.k),Sm r)
 kd:∀r∈rs,KD (r.t,r.k)
theorem tY:HV [] []:=⟨fun p=>by simp,fun r h=>by cases h⟩
variable{l:List ((Int×Int)×A3)}
theorem HV.keys(h:HV l rs):∀p∈l,KD p.1:=fun p g=>by
 obtain ⟨r,m,rfl⟩:=(h.mem p).1 g;exact h.kd r m
theorem Yu{a b:AX}(h:Sm a=Sm b):a=b:=by
 obtain ⟨t,k,⟨x,y,z⟩⟩:=a;obtain ⟨m,g,⟨B,G,I⟩⟩:=b;unfold Sm at h;simp only [Value.agg.injEq,q6,na,Value.int.injEq,fL,W6]at h;obtain ⟨rfl,rfl,rfl,rfl,rfl⟩:=h;rfl
theorem HV.len{es:Array MapEntry}{ck:Nat}(G:Cm K2 es ck l)(h:HV l rs)(J:BQ rs):l.length=rs.length:=by
 have B:l.Nodup:=by
  have:=G.keys;rw [al,V0]at this;rw [al];exact this.imp (fun g e=>g (by rw [e]))
 have h2:(rs.map (fun r=>((r.t,r.k),Sm r))).Nodup:=by
  rw [al,V0];refine J.imp (fun{a b} hab e=>?_);have e2:=Yu (Prod.mk.inj e).2
  subst e2;unfold AX.lt2 at hab;omega
 have I:l.Perm (rs.map (fun r=>((r.t,r.k),Sm r))):=by
  rw [S7 B h2];intro p;rw [h.mem p,C3];constructor;· rintro ⟨r,m,rfl⟩;exact ⟨r,m,rfl⟩
  · rintro ⟨r,m,rfl⟩;exact ⟨r,m,rfl⟩
 rw [I.length_eq,B8]
theorem HV.get{es:Array MapEntry}{ck:Nat}(I:Cm K2 es ck l)(h:HV l rs)(O:BQ rs)(t k:Int):
 (EK (t,k) l).getD (Sm AX.zero)=Sm (Fs rs t k).1/\(EK (t,k) l).isSome=(Fs rs t k).2:=by
 cases hg:(Fs rs t k).2 with
 |true=>
  obtain ⟨r,m,hi,_,G⟩:=JP hg;have B:((t,k),Sm r)∈l:=(h.mem _).2 ⟨r,m,by rw [show t=r.t from hi.1.symm,show k=r.k from hi.2.symm]⟩
  rw [Cy I.keys B,G];exact ⟨V,V⟩
 |false=>
  have g:∀r∈rs,¬r.is t k:=fun r m hi=>by rw [KW O m hi]at hg;cases hg
  have hn:EK (t,k) l=none:=Da (fun p J e=>by
   obtain ⟨r,m,rfl⟩:=(h.mem p).1 J;injection e with e1 e2
   exact g r m ⟨e1,e2⟩)
  rw [hn,Qa g];exact ⟨V,V⟩
theorem HV.put{I:List ((Int×Int)×A3)}(h:HV l rs)(G:BQ rs)(B:GV rs c)(J:c.has=true)(O:KD (c.t,c.k))(U:∀p,p∈I↔p=((c.t,c.k),Sm ⟨c.t,c.k,c.n⟩)\/(p∈l/\p.1≠(c.t,c.k))):HV I (EN rs c):=by
 refine ⟨fun p=>?_,fun r m=>?_⟩
 · rw [U p]
   constructor
   · rintro (rfl|⟨g,h2⟩)
     · exact ⟨_,(G7 G B _).2 (.inr ⟨J,rfl⟩),rfl⟩
     · obtain ⟨r,m,rfl⟩:=(h.mem p).1 g
       exact ⟨r,(G7 G B _).2 (.inl ⟨m,fun hi=>h2 (by rw [show r.t=c.t from hi.1,show r.k=c.k from hi.2])⟩),rfl⟩
   · rintro ⟨r,m,rfl⟩
     rcases (G7 G B _).1 m with⟨g,h2⟩|⟨_,rfl⟩
     · exact .inr ⟨(h.mem _).2 ⟨r,g,rfl⟩,fun e=>h2 (by injection e with e1 e2;exact ⟨e1,e2⟩)⟩
     · exact .inl rfl
 · rcases (G7 G B _).1 m with⟨g,_⟩|⟨_,rfl⟩
   · exact h.kd r g
   · exact O
theorem HV.drop{J:List ((Int×Int)×A3)}(h:HV l rs)(G:BQ rs)(B:GV rs c)(I:c.has=false)(O:∀p,p∈J↔p∈l/\p.1≠(c.t,c.k)):HV J (EN rs c):=by
 refine ⟨fun p=>?_,fun r m=>?_⟩
 · rw [O p]
   constructor
   · rintro ⟨g,h2⟩
     obtain ⟨r,m,rfl⟩:=(h.mem p).1 g;exact ⟨r,(G7 G B _).2 (.inl ⟨m,fun hi=>h2 (by rw [show r.t=c.t from hi.1,show r.k=c.k from hi.2])⟩),rfl⟩
   · rintro ⟨r,m,rfl⟩
     rcases (G7 G B _).1 m with⟨g,h2⟩|⟨h9,_⟩
     · exact ⟨(h.mem _).2 ⟨r,g,rfl⟩,fun e=>h2 (by injection e with e1 e2;exact ⟨e1,e2⟩)⟩
     · rw [I]at h9;cases h9
 · rcases (G7 G B _).1 m with⟨g,_⟩|⟨h9,_⟩
   · exact h.kd r g
   · rw [I]at h9;cases h9
theorem VE{n:Int}(h:-9223372036854775808<=n/\n<=9223372036854775807):(Lit.int .i64 n).wf=true:=by
 simp [Lit.wf,IntKind.min,IntKind.max,IntKind.signed,IntKind.bits];omega
theorem vY(h:c.ok):KD (c.t,c.k):=by
 obtain ⟨g,h2,_,_⟩:=h;have m:(0<=c.t/\c.t<=3)/\(1<=c.k/\c.k<=1000000):=by
  cases hh:c.had with
  |true=>
   have:c.before.ok:=an (fun hn=>h2 (.inl ⟨hh,hn⟩));rw [Po hh]at this;exact this.2
  |false=>
   cases hs:c.has with
   |true=>
    have:c.after.ok:=an (fun hn=>h2 (.inr ⟨hs,hn⟩));rw [LV hs]at this;exact this.2
   |false=>exact absurd (.inl ⟨by rw [hh];decide,by rw [hs];decide⟩) g
 exact ⟨VE (by show _<=c.t/\c.t<=_;omega),VE (by show _<=c.k/\c.k<=_;omega)⟩
theorem Oo(c:Chg):BB prog 136 #[.agg c.A96] [] (.tuple #[.agg #[I4 (EP c c.has c.n).t,I4 (EP c c.has c.n).k,I4 (EP c c.has c.n).v.a,I4 (EP c c.has c.n).v.b,I4 (EP c c.has c.n).v.c],.bool c.has]):=by
 refine Se func136 ntmps136 [0] ?_;intro u R;refine A0<|Ze (Bx #[_,_,_,_,_,_,_,_,_,_])<|AG fun g=>Ze (Al F0 #[_,_,_,_,_])<|AG fun m=>A4 Y<|A0<|Zo Wh (AA (cs:=#[_,_,_,_,_,_,_,_,_,_]) G2 C7 Y B1 As)<|Zh 6 C0 V rfl Cp Y<|Zl E6 Y<|Zh 7 C0 V rfl DO Y<|Zo Wh (AA (cs:=#[_,_,_]) HB DO Y B1 As)<|Xr [_,_,_] Y call191 Y V (XE c c.has c.n)<|Zd Y V<|Zd Y V<|Xe (Xw B0 _)<|AN Y<|Zn [2,3] ?_;refine Zx<|AJ<|Bj V results136 Y Wh (Am D0 B0 Wn (V)) Y (by exact ⟨V,V⟩)
theorem tD:BZ prog 80 #[] [] (fun r H'=>∃g mb,r=I5 g/\H'=[[(g,.cells #[.map (some mb),I4 0] 234 (0,0))],[(mb,.map #[] 0)]]):=by
 refine Se func80 ntmps80 [] ?_;intro u R;refine A0<|A4 Y<|A0<|Ze (DX)<|AG fun mb=>Zv (BL (vs:=[(0,_)]) (cs:=#[_,_]) Y (AZ (pl:=#[(0,1),(1,1)]) zeroValue232 cY (fun _=>by kernel_rfl) V))<|Zv (BL (vs:=[(0,_)]) (cs:=#[_,_]) Y (AZ (pl:=#[(0,2)]) zeroValue234 cn (fun _=>by kernel_rfl) V))<|Ze (Bx #[_,_])<|AG fun g=>A4 Y<|AJ<|AO V results80 Y (by exact ⟨g,mb,V,V⟩)
theorem xP(sp mb:Nat)(p rp:Int)(es:Array MapEntry)(ck:Nat)(lm:List ((Int×Int)×A3))(rs:List AX)(M:List A9)(q:B6)(cap:Nat)(cs:List Chg)(hm:Cm K2 es ck lm)(hR:HV lm rs)(hO:Cf M (.slice q cs.length cap) cs)(hs:BQ rs)(hn:rs.length<=2000)(hA:Kh rs p rp cs):
 BB prog 135 #[I5 sp,.agg #[I4 rp,.slice q cs.length cap]] [[(sp,.cells #[.map (some mb),I4 p] 234 (0,0))],[(mb,.map es ck)],M] (.bool true):=by
 have j5:=mL;obtain ⟨p9,gy,e9,kv,hg⟩:=id hO;injection e9 with e91 e92 e93
 subst e91 e93;have I:=hA.ok
 have l5:=hA.pos;have j3:=I.len
 have l8:=I.pos;have ic:=UV I.ord
 have d9:=hR.len hm hs;refine Se func135 ntmps135 [0,1] ?_;intro u R;refine A0<|Ze (Bx #[_,_])<|AG fun b1=>A4 Y<|Zq<|Zq<|Az (n:=14) (0::1::3::7::15::31::15::79::207::463::975::1999::4095::8191::[]) 2 AE AE V<|Fk 0 V Wh (AA (cs:=#[_,_]) HP F1 Y B1 As)<|Yw 1 3 V (Zu [_] Y call44 Y V (QA rp q cap cs M hO)) ?_;rintro _ _ ⟨rfl,rfl⟩;rw [DE I];refine A2 2 V (Br Y)<|A2 3 V (AP Y)<|Ch (t:=13) Y (fun h1=>?_) (fun h1=>?_);·
  rw [h1];cases h1
 rw [h1];refine B3 4 V (AB (off:=0) Ge V rfl A6 Y)<|DQ 5 V Wh (BO AF Y As)<|B3 6 V (AP Y)<|B3 7 V (Ap Y V)<|B3 8 V (AB (off:=0) cn V rfl dp Y)<|B3 9 V (Ar (off:=1) cY V rfl A6 Y)<|DQ 10 V Wh (BO AF Y As)<|B3 11 V (Hg Y Y (IntWalk.i64_in _ A1))<|B3 12 V (LZ Y Y)<|A2 13 V (AL Y Y)<|Ag<|Zn [0,3,23] ?_;refine Zx<|Aq Y (fun h2=>?_) (fun h2=>?_);·
  exfalso;contradiction
 refine AC<|Zx<|A0<|Zm Y<|Zp Y V<|Zh 0 cn V rfl dp Y<|Zv (Ar (off:=0) cY V rfl sizeOf230 Y)<|Zl isAgg230 Y<|Zo Wh (QU gn hm Y)<|A4 Y<|Zq<|A0<|Zh 1 Ge V rfl Lq Y<|Zl N4 Y<|Zv (AY GF Y)<|Zm Y<|A5<|AQ<|Zb [5,33,0,31,32] ?_;refine BA (e0:=[(5,_),(33,_)]) (fun m e H=>∃(i:Nat),m=cs.length -i/\(i<=cs.length)/\e=[(5,I4 (Gu rs (cs.take i))),(33,I4 (i:Int))]/\H=[]) (by exact ⟨0,rfl,C5 _,by rw [d9];rfl,rfl⟩) Wp ?_;rintro _ _ _ ⟨i,rfl,hi,rfl,rfl⟩;have gm:=Oh rs cs i
 refine A0<|Zv (Au Y Y)<|A5<|Zq<|Aq Y (fun af=>?_) (fun af=>?_);·
  obtain ⟨x,hx⟩:∃x,cs[i]?=some x:=⟨_,B7 af⟩;obtain ⟨g,off,cur,T,zz,rfl,ek,l9,bn⟩:=hg i x hx;have gq:=I.all i x hx
  have cO:=vY gq;obtain ⟨cu,X⟩:=hA.fit x (Dg hx);have J:=hR.get hm hs x.t x.k
  obtain ⟨O,Z⟩:∃O,O=Fs rs x.t x.k:=⟨_,rfl⟩;rw [<-Z]at J cu X;clear Z;refine AC<|Zx<|Zq<|AQ<|A0<|BV (Ad GF C7 Y Y A1)<|CG (cs:=[(g,.cells cur T zz)]) (by simp [ek]) (AA (cs:=x.A96) G2 C7 Y A1 bn) V rfl<|Ze (Al MA #[_,_,_,_,_,_,_,_,_,_])<|AG fun cb=>Xe (Xw C7 x.A96)<|A5<|Zq<|Az (n:=17) (0::1::3::7::15::0::32::0::128::480::1023::2047::4095::4095::0::24575::65535::[]) 49152 AE AE V<|A2 0 V (AP Y)<|A2 1 V (Ap Y V)<|A2 2 V (AB (off:=0) cn V rfl dp Y)<|A2 3 V (Ar (off:=0) cY V rfl sizeOf230 Y)<|B9 4 V isAgg230 Y<|A2 5 V (AB (off:=0) C0 V rfl A6 Y)<|B9 6 V AF Y<|A2 7 V (AB (off:=1) C0 V rfl A6 Y)<|B9 8 V AF Y<|A2 9 V (BL (vs:=[(0,_),(1,_)]) (cs:=#[_,_]) Y (AZ (pl:=#[(0,1),(1,1)]) zeroValue236 gi (fun _=>by kernel_rfl) V))<|Fk 10 V Wh (EC uY gn F0 hm hR.keys (cO) (J) Y Y)<|A2 11 V (AP Y)<|A2 12 V (C8 Y V)<|A2 13 V (C8 Y V)<|Zz (l:=[14])<|B5 [true,true,true,true] [(10,(_,_)),(8,(_,_)),(6,(_,_)),(4,(_,_))] V rfl (Al F0 #[_,_,_,_,_]) ?_ (fun _ _ h=>h.elim) Ah;rintro _ _ ⟨ob,rfl,rfl⟩;refine BT<|Yw 15 65535 V (Xw B0 #[I4 O.1.t,I4 O.1.k,I4 O.1.v.a,I4 O.1.v.b,I4 O.1.v.c])<|D4<|A2 16 V (Aw Y)<|Ag<|Zn [0,5,7,8,9,31,32,33] ?_;refine Zx<|Zq<|A0<|Zm Y<|Zh 2 C0 V rfl Cp Y<|Zl E6 Y<|Zv (Kv LS Y Y)<|Zm Y<|Aj (t:=55) Y V (fun ax=>?_) (fun ax=>?_);·
   exfalso;contradiction
  refine Zf Y Y<|Zf Y Y<|Ae (t:=57) Y V (fun U=>?_) (fun U=>?_);·
   refine Yf 2 G0 V rfl DO Y<|Db Y Wh (AA (cs:=#[_,_,_]) HB DO Y B1 As) V rfl<|Yf 3 C0 V rfl DO Y<|Db Y Wh (AA (cs:=#[_,_,_]) HB DO Y B1 As) V rfl<|Yg (Kw AE Hh CM AF A6 Y Y) ?_;refine Yg (AV Y Y)<|Zv (AL Y Y)<|Z0<|Zn [0,5,7,31,32,33,64] ?_;refine Zx<|Aq Y (fun W=>?_) (fun W=>?_);·
    exfalso;exact W (X U)
   refine AC<|Zx<|Zq<|A0<|Zh 2 C0 V rfl Cp Y<|Zl E6 Y<|A5<|AU Y (fun G=>?_) (fun G=>?_);·
    refine Zg<|Zm Y<|BV (GN Y Y (IntWalk.i64_in _ A1))<|A4 Y<|A0<|Zh 6 C0 V rfl Cp Y<|Zl E6 Y<|A5<|AU Y (fun B=>?_) (fun B=>?_);·
     refine Zg<|Zm Y<|Yi Y Y<|AN Y<|A8<|Zx<|Zg<|Ya (n:=1) Y Y<|Zm Y<|Z0<|Zn [5,33,0,31,32] ?_;refine Ab (e':=[(5,_),(33,_)]) (by exact ⟨i+1,rfl,by omega,by rw [jQ hx G B],rfl⟩)
    refine AC<|A8<|Zx<|Zg<|Ya (n:=1) Y Y<|Zm Y<|Z0<|Zn [5,33,0,31,32] ?_;refine Ab (e':=[(5,_),(33,_)]) (by exact ⟨i+1,rfl,by omega,by rw [jR hx G B],rfl⟩)
   refine AC<|Zx<|A0<|Zh 6 C0 V rfl Cp Y<|Zl E6 Y<|A5<|AU Y (fun B=>?_) (fun B=>?_);·
    refine Zg<|Zm Y<|Yi Y Y<|AN Y<|A8<|Zx<|Zg<|Ya (n:=1) Y Y<|Zm Y<|Z0<|Zn [5,33,0,31,32] ?_;refine Ab (e':=[(5,_),(33,_)]) (by exact ⟨i+1,rfl,by omega,by rw [jS hx G B],rfl⟩)
   refine AC<|A8<|Zx<|Zg<|Ya (n:=1) Y Y<|Zm Y<|Z0<|Zn [5,33,0,31,32] ?_;refine Ab (e':=[(5,_),(33,_)]) (by exact ⟨i+1,rfl,by omega,by rw [jT hx G B],rfl⟩)
  refine A7 Y V<|A7 Y V<|A7 Y V<|A7 Y V<|A7 Y V<|Yg (AL Y Y)<|Zv (AL Y Y)<|Z0<|Zn [0,5,7,31,32,33,64] ?_;refine Zx<|D9 Y<|AC<|Zx<|Zq<|A0<|Zh 2 C0 V rfl Cp Y<|Zl E6 Y<|A5<|AU Y (fun G=>?_) (fun G=>?_);·
   refine Zg<|Zm Y<|BV (GN Y Y (IntWalk.i64_in _ A1))<|A4 Y<|A0<|Zh 6 C0 V rfl Cp Y<|Zl E6 Y<|A5<|AU Y (fun B=>?_) (fun B=>?_);·
    refine Zg<|Zm Y<|Yi Y Y<|AN Y<|A8<|Zx<|Zg<|Ya (n:=1) Y Y<|Zm Y<|Z0<|Zn [5,33,0,31,32] ?_;refine Ab (e':=[(5,_),(33,_)]) (by exact ⟨i+1,rfl,by omega,by rw [jQ hx G B],rfl⟩)
   refine AC<|A8<|Zx<|Zg<|Ya (n:=1) Y Y<|Zm Y<|Z0<|Zn [5,33,0,31,32] ?_;refine Ab (e':=[(5,_),(33,_)]) (by exact ⟨i+1,rfl,by omega,by rw [jR hx G B],rfl⟩)
  refine AC<|Zx<|A0<|Zh 6 C0 V rfl Cp Y<|Zl E6 Y<|A5<|AU Y (fun B=>?_) (fun B=>?_);·
   refine Zg<|Zm Y<|Yi Y Y<|AN Y<|A8<|Zx<|Zg<|Ya (n:=1) Y Y<|Zm Y<|Z0<|Zn [5,33,0,31,32] ?_;refine Ab (e':=[(5,_),(33,_)]) (by exact ⟨i+1,rfl,by omega,by rw [jS hx G B],rfl⟩)
  refine AC<|A8<|Zx<|Zg<|Ya (n:=1) Y Y<|Zm Y<|Z0<|Zn [5,33,0,31,32] ?_;refine Ab (e':=[(5,_),(33,_)]) (by exact ⟨i+1,rfl,by omega,by rw [jT hx G B],rfl⟩)
 have ei:i=cs.length:=by omega
 subst ei;rw [GS]at gm⊢;refine Ay<|Zt<|Zt<|AR<|Zx<|A0<|Zm Y<|Zv (NY Y Y)<|A4 Y<|AJ<|AO rfl results135 Y (by exact ⟨by rw [DE hA.size],rfl⟩)
theorem qR(sp mb:Nat)(p rp:Int)(es:Array MapEntry)(ck:Nat)(lm:List ((Int×Int)×A3))(rs:List AX)(M:List A9)(q:B6)(cap:Nat)(cs:List Chg)(hm:Cm K2 es ck lm)(hR:HV lm rs)(hO:Cf M (.slice q cs.length cap) cs)(hs:BQ rs)(hn:rs.length<=2000)(hA:Kh rs p rp cs):
 BZ prog 81 #[I5 sp,.agg #[I4 rp,.slice q cs.length cap]] [[(sp,.cells #[.map (some mb),I4 p] 234 (0,0))],[(mb,.map es ck)],M] (fun r H'=>r=I4 0/\∃bn ax gm,Cm K2 bn ax gm/\HV gm (DU rs cs)/\H'=[[(sp,.cells #[.map (some mb),I4 rp] 234 (0,0))],[(mb,.map bn ax)],M]):=by
 have o8:=mL;obtain ⟨p9,l8,e9,o9,hg⟩:=id hO;injection e9 with e91 e92 e93
 subst e91 e93;have I:=hA.ok
 have p8:=hA.pos;have l9:=I.len
 have pg:=I.pos;have cu:=UV I.ord
 refine Se func81 ntmps81 [0,1] ?_;intro u R;refine A0<|Ze (Bx #[_,_])<|AG fun b1=>A4 Y<|Zq<|AQ<|A0<|Zm Y<|Zv (Be lP Y Y)<|A4 Y<|AU Y (fun h1=>by cases h1)<|fun h1=>A0<|Zm Y<|Zo Wh (AA (cs:=#[_,_]) HP F1 Y B1 As) ?_;refine Xr [_,_] Y call135 Y V (xP sp mb p rp es ck lm rs M q cap cs hm hR hO hs hn hA) ?_;refine Zv (Br Y)<|A4 Y<|AU Y (fun h2=>by cases h2)<|fun h2=>AC<|A8<|Zx<|Zq<|A0<|Zh 1 Ge V rfl Lq Y<|Zl N4 Y ?_;refine Zv (AY GF Y)<|Zm Y<|Z0<|Zn [0,3,19,20,21] ?_;refine Zx<|AQ<|Zb [21,0,3,19,20] ?_;refine BA (e0:=[(21,_)]) (fun m e H=>∃(i:Nat) (es:Array MapEntry) (ck:Nat) (lm:List ((Int×Int)×A3)),m=cs.length -i/\(i<=cs.length/\Cm K2 es ck lm/\HV lm (DU rs (cs.take i)))/\e=[(21,I4 (i:Int))]/\H=[[(mb,.map es ck)]]) (by exact ⟨0,es,ck,lm,rfl,⟨C5 _,hm,by rw [Kd];exact hR⟩,rfl,rfl⟩) Wp ?_;rintro _ _ _ ⟨i,gy,gq,l5,rfl,⟨hi,X,B⟩,rfl,rfl⟩;refine A0<|Zv (Au Y Y)<|A5<|Zq<|Aq Y (fun d9=>?_) (fun d9=>?_);·
  obtain ⟨x,hx⟩:∃x,cs[i]?=some x:=⟨_,B7 d9⟩;obtain ⟨g,off,cur,T,zz,rfl,j5,pq,ic⟩:=hg i x hx;have kv:=I.all i x hx
  have W:=vY kv;obtain ⟨ek,j3⟩:=KX hs cu hA.fit i hi;have cO:=j3 i x (D2 _) hx
  refine AC<|Zx<|Zq<|AQ<|A0<|BV (Ad GF C7 Y Y A1)<|CG (cs:=[(g,.cells cur T zz)]) (by simp [j5]) (AA (cs:=x.A96) G2 C7 Y A1 ic) V rfl ?_;refine Ze (Al MA #[_,_,_,_,_,_,_,_,_,_])<|AG fun cb=>Xe (Xw C7 x.A96) ?_;refine A5<|A0<|Zh 0 C0 V rfl A6 Y<|Zl AF Y ?_;refine Zh 1 C0 V rfl A6 Y<|Zl AF Y ?_;refine Zv (BL (vs:=[(0,_),(1,_)]) (cs:=#[_,_]) Y (AZ (pl:=#[(0,1),(1,1)]) zeroValue236 gi (fun _=>by kernel_rfl) V))<|Ze (Al zeroValue236 #[_,_])<|AG fun kb=>Xe (BM sizeOf236 Y Y (by(simp [Value.oneCell',Value.cells];done)) Wu (by exact (rfl:_=(#[I4 x.t,I4 x.k]:AH))) Fc AW (by exact BC _)) ?_;refine A5<|A0<|Zo Wh (AA (cs:=#[_,_,_,_,_,_,_,_,_,_]) G2 C7 Y B1 As) ?_;refine Xr [_] Y call136 Y V (Oo x) ?_;refine Zm Y<|Zd Y V<|Zd Y V<|Ze (Al F0 #[_,_,_,_,_])<|AG fun xb=>Xe (Xw B0 #[I4 (EP x x.has x.n).t,I4 (EP x x.has x.n).k,I4 (EP x x.has x.n).v.a,I4 (EP x x.has x.n).v.b,I4 (EP x x.has x.n).v.c]) ?_;refine AN Y<|Zn [0,3,7,8,9,19,20,21] ?_;refine Zx<|A0<|Zm Y<|A5<|AU Y (fun hh=>?_) (fun hh=>?_);·
   rw [ug hh];refine Az (n:=8) (0::1::3::7::15::0::0::127::[]) 128 AE AE V<|A2 0 V (AP Y)<|A2 1 V (Ap Y V)<|A2 2 V (AB (off:=0) cn V rfl dp Y)<|A2 3 V (Ar (off:=0) cY V rfl sizeOf230 Y)<|B9 4 V isAgg230 Y ?_;refine Fk 5 V Wh (AA (cs:=#[_,_]) isAgg236 sizeOf236 Y B1 As) ?_;refine Fk 6 V Wh (AA (cs:=#[_,_,_,_,_]) D0 B0 Y B1 As) ?_;refine Yw 7 255 V (FH uY gn X B.keys (W) Y Y Y Wo) ?_;rintro _ _ ⟨rfl,O,J,G,Z,af,rfl⟩;have U:HV G (DU rs (cs.take (i+1))):=by rw [EQ rs cs i x hx];exact B.put ek cO hh W af
   refine Ag<|A8<|Zx<|Zg<|Ya (n:=1) Y Y<|Zm Y<|Z0<|Zn [21,0,3,19,20] ?_;refine Ab (e':=[(21,_)]) (by exact ⟨i+1,O,J,G,V,⟨by omega,Z,U⟩,V,V⟩)
  refine Az (n:=7) (0::1::3::7::15::0::63::[]) 64 AE AE V<|A2 0 V (AP Y)<|A2 1 V (Ap Y V)<|A2 2 V (AB (off:=0) cn V rfl dp Y)<|A2 3 V (Ar (off:=0) cY V rfl sizeOf230 Y)<|B9 4 V isAgg230 Y ?_;refine Fk 5 V Wh (AA (cs:=#[_,_]) isAgg236 sizeOf236 Y B1 As) ?_;refine Yw 6 127 V (Lh uY gn X B.keys (W) Y Y Wo) ?_;rintro _ _ ⟨rfl,O,J,G,Z,af,rfl⟩;have U:HV G (DU rs (cs.take (i+1))):=by rw [EQ rs cs i x hx];exact B.drop ek cO hh af
  refine Ag<|A8<|Zx<|Zg<|Ya (n:=1) Y Y<|Zm Y<|Z0<|Zn [21,0,3,19,20] ?_;refine Ab (e':=[(21,_)]) (by exact ⟨i+1,O,J,G,V,⟨by omega,Z,U⟩,V,V⟩)
 have ei:i=cs.length:=by omega
 subst ei;rw [GS]at B;refine Ay<|Zt<|Zt<|AR<|Zx<|A0<|Zm Y<|Zh 0 Ge V rfl A6 Y<|Zl AF Y ?_;refine Zp Y V<|Zh 0 cn V rfl dp Y<|Zv (Ar (off:=1) cY V rfl A6 Y)<|Xe (Zs A6 Y Y V (hc:=by exact (V:_=(#[.map (some mb),I4 rp]:AH))) (hi:=by(simp;done))) ?_;refine A5<|A0<|A4 Y<|AJ<|AO V results81 Y (by exact ⟨V,gy,gq,l5,X,B,V⟩)
end Go.Proofs.YtfhjaegddfehhabGreatDoor
