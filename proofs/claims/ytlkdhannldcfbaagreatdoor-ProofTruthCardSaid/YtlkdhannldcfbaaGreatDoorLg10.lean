/- The program's layer 3: ValidChange. -/
import Derived.Test.YtlkdhannldcfbaaGreatDoorLg4
set_option linter.unusedVariables false
set_option linter.unusedSimpArgs false
namespace Go.Proofs.YtlkdhannldcfbaaGreatDoor
open Go.Proofs.Tryz
open Go Go.RowKit Gw
set_option maxRecDepth 100000
attribute [local irreducible] Gw.At Gw.Nx Gw.Ops
def wV(c:Chg):Bool:=if c.had then decide c.before.ok else decide (c.o=V3.zero)
def wW(c:Chg):Bool:=if c.has then decide c.after.ok else decide (c.n=V3.zero)
theorem SG(c:Chg):BC prog 195 #[.agg c.Ao4,.bool c.had,.agg #[I4 c.o.a,I4 c.o.b,I4 c.o.c]] [] (.bool (wV c)):=YB c c.had c.o
theorem SH(c:Chg):BC prog 195 #[.agg c.Ao4,.bool c.has,.agg #[I4 c.n.a,I4 c.n.b,I4 c.n.c]] [] (.bool (wW c)):=YB c c.has c.n
variable{c:Chg}
theorem MB(g:c.had≠c.has\/(c.had=true/\c.o≠c.n)):decide c.ok=(wV c&&wW c):=by
 unfold wV wW;cases h1:c.had<;>cases h2:c.has<;>simp_all [Chg.ok]
 all_goals (by_cases m:c.before.ok<;>by_cases E:c.after.ok<;>by_cases G:c.o=V3.zero<;>by_cases I:c.n=V3.zero<;>simp_all)
theorem rP(h:c.had=c.has)(h2:c.had=true->c.o=c.n):decide c.ok=false:=by
 cases h1:c.had<;>simp_all [Chg.ok]
 all_goals (rw [<-h]at*;simp_all)
set_option maxHeartbeats 4000000 in
theorem V4(c:Chg):BC prog 176 #[.agg c.Ao4] [] (.bool (decide c.ok)):=by
 refine Se func176 ntmps176 [0] ?_;intro u R;refine A1<|Ze (Bx #[_,_,_,_,_,_,_,_,_,_])<|AF fun K=>A3 Y<|A1<|Zh 2 B9 V rfl Cl Y<|Zl DH Y<|Zh 6 B9 V rfl Cl Y<|Zl DH Y<|Zv (Lm On Y Y)<|Zm Y<|Ai (t:=9) Y V (fun g=>?_) (fun g=>?_);·
  refine A7 Y V<|A7 Y V<|A7 Y V<|A7 Y V<|A7 Y V<|A7 Y V<|A7 Y V<|A7 Y V<|A7 Y V<|Zv (AR Y Y)<|AH Y<|Zn [1,3] ?_;refine Zx<|A1<|Zm Y<|Zm Y<|DF Y Wh (Pa #[_,_,_,_,_,_,_,_,_,_] GC C5 Y) V rfl<|Yf 2 B9 V rfl Cl Y<|Yl DH Y<|Yf 3 B9 V rfl CD Y<|DF Y Wh (Pa #[_,_,_] HB CD Y) V rfl<|Xr [_,_,_] Y call195 Y V (SG c)<|Zv (AR Y Y)<|Zm Y<|Ah (t:=29) Y V (fun G=>?_) (fun G=>?_);·
   refine DF Y Wh (Pa #[_,_,_,_,_,_,_,_,_,_] GC C5 Y) V rfl<|Yf 6 B9 V rfl Cl Y<|Yl DH Y<|Yf 7 B9 V rfl CD Y<|DF Y Wh (Pa #[_,_,_] HB CD Y) V rfl<|Xr [_,_,_] Y call195 Y V (SH c)<|Zv (AR Y Y)<|AH Y<|Zn [2] ?_;refine Zx<|AA<|AC rfl cf Y (by exact ⟨by rw [MB (.inl g),G,To],rfl⟩)
  refine A7 Y V<|A7 Y V<|A7 Y V<|A7 Y V<|A7 Y V<|A7 Y V<|Zv (AL Y Y)<|AH Y<|Zn [2] ?_;refine Zx<|AA<|AC rfl cf Y (by exact ⟨by rw [MB (.inl g),G,Bool.false_and],rfl⟩)
 refine Yf 2 B9 V rfl Cl Y<|Yl DH Y<|Zf Y Y<|Ah (t:=12) Y V (fun m=>?_) (fun m=>?_);·
  refine Yf 3 B9 V rfl CD Y<|DF Y Wh (Pa #[_,_,_] HB CD Y) V rfl<|Yf 7 B9 V rfl CD Y<|DF Y Wh (Pa #[_,_,_] HB CD Y) V rfl<|Yg (Lp AG G1 F0 AE A5 Y Y) ?_;refine Yg (AR Y Y)<|Zv (AL Y Y)<|AH Y<|Zn [1,3] ?_;refine Zx<|A1<|Zm Y<|Zm Y<|Ai (t:=21) Y V (fun E=>?_) (fun E=>?_);·
   refine DF Y Wh (Pa #[_,_,_,_,_,_,_,_,_,_] GC C5 Y) V rfl<|Yf 2 B9 V rfl Cl Y<|Yl DH Y<|Yf 3 B9 V rfl CD Y<|DF Y Wh (Pa #[_,_,_] HB CD Y) V rfl<|Xr [_,_,_] Y call195 Y V (SG c)<|Zv (AR Y Y)<|Zm Y<|Ah (t:=29) Y V (fun I=>?_) (fun I=>?_);·
    refine DF Y Wh (Pa #[_,_,_,_,_,_,_,_,_,_] GC C5 Y) V rfl<|Yf 6 B9 V rfl Cl Y<|Yl DH Y<|Yf 7 B9 V rfl CD Y<|DF Y Wh (Pa #[_,_,_] HB CD Y) V rfl<|Xr [_,_,_] Y call195 Y V (SH c)<|Zv (AR Y Y)<|AH Y<|Zn [2] ?_;refine Zx<|AA<|AC rfl cf Y (by exact ⟨by rw [MB (.inr ⟨m,E⟩),I,To],rfl⟩)
   refine A7 Y V<|A7 Y V<|A7 Y V<|A7 Y V<|A7 Y V<|A7 Y V<|Zv (AL Y Y)<|AH Y<|Zn [2] ?_;refine Zx<|AA<|AC rfl cf Y (by exact ⟨by rw [MB (.inr ⟨m,E⟩),I,Bool.false_and],rfl⟩)
  refine A7 Y V<|A7 Y V<|A7 Y V<|A7 Y V<|A7 Y V<|A7 Y V<|Zv (AL Y Y)<|Zm Y<|A7 Y V<|A7 Y V<|A7 Y V<|A7 Y V<|A7 Y V<|A7 Y V<|Zv (AL Y Y)<|AH Y<|Zn [2] ?_;refine Zx<|AA<|AC rfl cf Y (by exact ⟨by rw [rP (G2.1 g) (fun _=>G2.1 E)],rfl⟩)
 refine A7 Y V<|A7 Y V<|A7 Y V<|A7 Y V<|A7 Y V<|Yg (AL Y Y)<|Zv (AL Y Y)<|AH Y<|Zn [1,3] ?_;refine Zx<|A1<|Zm Y<|Zm Y<|A7 Y V<|A7 Y V<|A7 Y V<|A7 Y V<|A7 Y V<|A7 Y V<|Zv (AL Y Y)<|Zm Y<|A7 Y V<|A7 Y V<|A7 Y V<|A7 Y V<|A7 Y V<|A7 Y V<|Zv (AL Y Y)<|AH Y<|Zn [2] ?_;refine Zx<|AA<|AC rfl cf Y (by exact ⟨by rw [rP (G2.1 g) (fun J=>by rw [m]at J;cases J)],rfl⟩)
theorem yo(h:c.ok):0<=c.t:=by
 obtain ⟨m,h2,_,_⟩:=h;have G:c.had=true->c.before.ok:=fun g=>Xs fun hn=>h2 (.inl ⟨g,hn⟩)
 have E:c.has=true->c.after.ok:=fun g=>Xs fun hn=>h2 (.inr ⟨g,hn⟩);cases e1:c.had with
 |true=>have:=(G e1).2.1.1;rw [NA e1]at this;exact this
 |false=>
  cases e2:c.has with
  |true=>have:=(E e2).2.1.1;rw [KR e2]at this;exact this
  |false=>exact absurd (.inl ⟨by simp [e1],by simp [e2]⟩) m
variable{cs:List Chg}{i:Nat}{y x:Chg}
theorem XE{p:Int}(m:i=0/\y.t=-1\/0<i/\cs[i -1]?=some y)(h:E9 p cs)(hx:cs[i]?=some x):y.lt x:=by
 rcases m with⟨h0,g⟩|⟨h0,g⟩
 · left;have:=yo (h.all i x hx);omega
 · exact h.ord (i -1) y x g (by rw [show i -1+1=i by omega];exact hx)
theorem iG(m:i=0/\y.t=-1\/0<i/\cs[i -1]?=some y)(h:y.lt x):i=0\/∃y,cs[i -1]?=some y/\y.lt x:=by
 rcases m with⟨h0,g⟩|⟨h0,g⟩
 · exact .inl h0
 · exact .inr ⟨y,g,h⟩
theorem Q3(p:Int)(q:B7)(cap:Nat)(cs:List Chg)(M:List AU)(hO:Dq M (.slice q cs.length cap) cs):BC prog 144 #[.agg #[I4 p,.slice q cs.length cap]] [M] (.bool (decide (E9 p cs))):=by
 have ax:=mL;obtain ⟨p9,af,e9,bf,hg⟩:=hO;injection e9 with e91 e92 e93
 subst e91 e93;refine Se func144 ntmps144 [0] ?_;intro u R;refine A1<|Ze (Bx #[_,_])<|AF fun b1=>A3 Y<|Zq<|A1<|Zh 0 Ft V rfl A5 Y<|Zl AE Y<|Ze (Af (vs:=[_]) (cs:=[_]) Fi A5 HL Y V rfl V rfl V)<|AF fun b2=>Xr [_,_,_] Y call165 Y V (Ld _ 0 1 _ _ _ _ _ p V)<|Zv (C9 Y)<|Zm Y<|Ai (t:=11) Y V (fun hp=>?_) (fun hp=>?_);·
  refine A7 Y V<|A7 Y V<|A7 Y V<|A7 Y V<|A7 Y V<|A7 Y V<|Zv (AR Y Y)<|Z0<|Zn [1,18] ?_;refine Zx<|CQ Y<|A1<|A3 Y<|AA<|Zt<|AC rfl cy Y (by exact ⟨by rw [Bm (fun h9:E9 p cs=>by have G:=h9.pos;have I:=h9.len;exact hp G)],rfl⟩)
 refine Yf 1 Ft V rfl Hx Y<|Yl J1 Y<|Yg (AP Fk Y)<|Ze (Af (vs:=[_]) (cs:=[_]) Fi A5 HL Y V rfl V rfl V)<|AF fun b3=>Xr [_,_,_] Y call165 Y V (Ld _ 0 1 _ _ _ _ _ (cs.length:Int) V)<|Yg (C9 Y)<|Zv (AL Y Y)<|Z0<|Zn [1,18] ?_;refine Zx<|Ak Y (fun hl=>?_) (fun hl=>?_);·
  refine A1<|A3 Y<|AA<|Zt<|AC rfl cy Y (by exact ⟨by rw [Bm (fun h9:E9 p cs=>by have G:=h9.pos;have I:=h9.len;(apply hl;omega))],rfl⟩)
 refine AB<|Zx<|A1<|Zv (BQ (vs:=[(0,_)]) (cs:=#[_,_,_,_,_,_,_,_,_,_]) Y (Aa (pl:=#[(0,1),(1,1),(2,1),(3,3),(6,1),(7,3)]) K1 B9 (fun _=>by kernel_rfl) V))<|Ze (Al K1 #[_,_,_,_,_,_,_,_,_,_])<|AF fun lb=>Xe (BN C5 Y Y (by(simp [Value.oneCell',Value.cells];done)) Wu An Ek Wn (by exact BU _))<|AD<|Zq<|A1<|Zh 1 Ft rfl rfl Hx Y<|Zl J1 Y<|Zv (AP Fk Y)<|Zm Y<|AD<|AX<|Zb [23,3,21,22] ?_;refine BB (e0:=[(23,_)]) (fun m e H=>∃(i:Nat) (y:Chg),m=cs.length -i/\(i<=cs.length/\(∀(j:Nat) (c:Chg),j<i->cs[j]?=some c->c.ok)/\(∀(j:Nat) (b c:Chg),j+1<i->cs[j]?=some b->cs[j+1]?=some c->b.lt c)/\(i=0/\y.t=-1\/0<i/\cs[i -1]?=some y))/\e=[(23,I4 (i:Int))]/\H=[[(lb,.cells y.Ao4 106 (0,0))]]) (by exact ⟨0,⟨-1,0,false,V3.zero,false,V3.zero⟩,V,⟨by omega,by intro j c hj;omega,by intro j b c hj;omega,.inl ⟨V,V⟩⟩,V,V⟩) Wp ?_;rintro _ _ _ ⟨i,y,rfl,⟨hi,J,K,E⟩,rfl,rfl⟩;refine A1<|Zv (Au Y Y)<|AD<|Zq<|Ak Y (fun U=>?_) (fun U=>?_);·
  obtain ⟨x,hx⟩:∃x,cs[i]?=some x:=⟨_,zn U⟩;obtain ⟨g,off,cur,T,zz,rfl,hm,bn,W⟩:=hg i x hx;refine AB<|Zx<|Zq<|AX<|A1<|Ap (AO Fk C5 Y Y A0)<|Ca (cs:=[(g,.cells cur T zz)]) (by simp [hm]) (A9 (cs:=x.Ao4) GC C5 Y A0 W) V rfl<|Ze (Al K1 #[_,_,_,_,_,_,_,_,_,_])<|AF fun b5=>Xe (Xw C5 _)<|AD<|Zq<|A1<|Zo Wh (Pa #[_,_,_,_,_,_,_,_,_,_] GC C5 Y)<|Xr [_] Y call176 Y V (V4 x)<|Zv (C9 Y)<|Zm Y<|Ai (t:=30) Y V (fun O=>?_) (fun O=>?_);·
   refine A7 Y V<|A7 Y V<|A7 Y V<|A7 Y V<|A7 Y V<|Zv (AR Y Y)<|Zm Y<|A7 Y V<|A7 Y V<|A7 Y V<|A7 Y V<|A7 Y V<|A7 Y V<|A7 Y V<|A7 Y V<|A7 Y V<|A7 Y V<|A7 Y V<|A7 Y V<|Zv (AR Y Y)<|Z0<|Zn [3,5,21,22,23,50] ?_;refine Zx<|CQ Y<|A1<|A3 Y<|AA<|Zt<|Ab<|Zt<|Zt<|Ab<|Zt<|AC rfl cy Y (by exact ⟨by rw [Bm (fun h9:E9 p cs=>by have G:=XE E h9 hx;have I:=h9.all i x hx;unfold Chg.lt at G;exact O I)],rfl⟩)
  refine Yf 0 B9 V rfl A5 Y<|Yl AE Y<|Yf 0 B9 V rfl A5 Y<|Yl AE Y<|Yg (ET Y Y)<|Zv (AL Y Y)<|Zm Y<|Ai (t:=37) Y V (fun X=>?_) (fun X=>?_);·
   refine A7 Y V<|A7 Y V<|A7 Y V<|A7 Y V<|A7 Y V<|A7 Y V<|A7 Y V<|A7 Y V<|A7 Y V<|A7 Y V<|A7 Y V<|A7 Y V<|Zv (AR Y Y)<|Z0<|Zn [3,5,21,22,23,50] ?_;refine Zx<|CQ Y<|A1<|A3 Y<|AA<|Zt<|Ab<|Zt<|Zt<|Ab<|Zt<|AC rfl cy Y (by exact ⟨by rw [Bm (fun h9:E9 p cs=>by have G:=XE E h9 hx;have I:=h9.all i x hx;unfold Chg.lt at G;omega)],rfl⟩)
  refine Yf 0 B9 V rfl A5 Y<|Yl AE Y<|Yf 0 B9 V rfl A5 Y<|Yl AE Y<|Yg (Br Y Y)<|Zf Y Y<|Ai (t:=43) Y V (fun Z=>?_) (fun Z=>?_);·
   refine Yf 1 B9 V rfl A5 Y<|Yl AE Y<|Yf 1 B9 V rfl A5 Y<|Yl AE Y<|Yg (KI Y Y)<|Yg (AR Y Y)<|Zv (AL Y Y)<|Z0<|Zn [3,5,21,22,23,50] ?_;refine Zx<|Ak Y (fun ho=>?_) (fun ho=>?_);·
    refine A1<|A3 Y<|AA<|Zt<|Ab<|Zt<|Zt<|Ab<|Zt<|AC rfl cy Y (by exact ⟨by rw [Bm (fun h9:E9 p cs=>by have G:=XE E h9 hx;have I:=h9.all i x hx;unfold Chg.lt at G;omega)],rfl⟩)
   refine AB<|Zx<|Zg<|Zo Wh (Pa x.Ao4 GC C5 Y)<|Xe (Xw C5 _)<|Z0<|A8<|Zx<|Zg<|Ya (n:=1) Y Y<|Zm Y<|Z0<|Zn [23,3,21,22] ?_;refine AZ (e':=[(23,_)]) (by exact ⟨i+1,x,V,⟨by omega,NB J hx (G2.1 O),Mi K hx (iG E (by unfold Chg.lt;omega)),.inr ⟨by omega,hx⟩⟩,V,V⟩)
  refine A7 Y V<|A7 Y V<|A7 Y V<|A7 Y V<|A7 Y V<|Yg (AL Y Y)<|Zv (AL Y Y)<|Z0<|Zn [3,5,21,22,23,50] ?_;refine Zx<|Dj Y<|AB<|Zx<|Zg<|Zo Wh (Pa x.Ao4 GC C5 Y)<|Xe (Xw C5 _)<|Z0<|A8<|Zx<|Zg<|Ya (n:=1) Y Y<|Zm Y<|Z0<|Zn [23,3,21,22] ?_;refine AZ (e':=[(23,_)]) (by exact ⟨i+1,x,V,⟨by omega,NB J hx (G2.1 O),Mi K hx (iG E (by unfold Chg.lt;omega)),.inr ⟨by omega,hx⟩⟩,V,V⟩)
 refine Aw<|Zt<|Zt<|AQ<|Zx<|A1<|A3 Y<|AA<|AC rfl cy Y (by exact ⟨by rw [CA (⟨by omega,by omega,fun j c hc=>J j c (by have:=(zt.1 hc).1;omega) hc,fun j b c hb hc=>K j b c (by have:=(zt.1 hc).1;omega) hb hc⟩:E9 p cs)],rfl⟩)
def CW(ls:List Int):List UInt8:=ls.flatMap JS
theorem DT:∀(ls:List Int),(∀n∈ls,-4611686018427387903<=n/\n<=4611686018427387903)->(CW ls).length<=ls.length*9
 |[],_=>by simp [CW]
 |n::ls,h=>by
  have E:=DT ls (fun m g=>h m (by simp [g]));have h2:=I8 n (h n B3).1 (h n B3).2
  unfold CW at*;rw [HF,zq,D3];omega
theorem R3(ls:List Int)(n:Int):CW (ls++[n])=CW ls++JS n:=by simp [CW]
theorem SI(g off cap:Nat)(cur:AN)(T:AM)(z:Nat×Nat)(ls:List Int)(I:Ic cur off ls)(hn:ls.length<=1073741824)(K:∀n∈ls,-4611686018427387903<=n/\n<=4611686018427387903):
 BC prog 138 #[.slice (some ⟨g,off,none⟩) ls.length cap] [[(g,.cells cur T z)]] (.string (str (CW ls))):=by
 have U:=mL;refine Se func138 ntmps138 [0] ?_;intro u R;refine A1<|A3 Y<|A1<|A3 Y<|Zq<|A1<|Zm Y<|Zv (AP Fi Y)<|Zm Y<|AD<|AX<|Zb [3,10,8,9] ?_;refine BB (e0:=[(3,_),(10,_)]) (fun m e H=>∃(i:Nat),m=ls.length -i/\(i<=ls.length)/\e=[(3,.string (str (CW (ls.take i)))),(10,I4 (i:Int))]/\H=[]) (by exact ⟨0,V,C2 _,V,V⟩) Wp ?_;rintro _ _ _ ⟨i,rfl,hi,rfl,rfl⟩;refine A1<|Zv (Au Y Y)<|AD<|Zq<|Ak Y (fun G=>?_) (fun G=>?_);·
  obtain ⟨x,hx⟩:∃x,ls[i]?=some x:=⟨_,zn G⟩;have E:=K x (Cd hx)
  have J:ls.take (i+1)=ls.take i++[x]:=by rw [Kx,hx];rfl
  have W:=DT (ls.take i) (fun m O=>K m (HI O));have X:(ls.take i).length<=i:=cI ..
  have M:=I8 x E.1 E.2;refine AB<|Zx<|Zq<|AX<|A1<|Ap (BP Fi A5 Y Y A0)<|Zl AE Y (hv:=by exact I i x hx)<|A3 Y<|A1<|Zm Y<|Xr [_] Y call71 Y rfl (Me x E.1 E.2)<|Zm Y<|Zd Y rfl<|Zd Y rfl<|Za Y<|A3 Y<|Zg<|Zm Y<|Zm Y<|Ap (CY Y Y (by rw [BO,BO];omega))<|AH Y<|Zn [3,8,9,10] ?_;refine A8<|Zx<|Zg<|Ya (n:=1) Y Y<|Zm Y<|Z0<|Zn [3,10,8,9] ?_;refine AZ (e':=[(3,_),(10,_)]) (by exact ⟨i+1,rfl,by omega,by rw [J,R3,<-CZ],rfl⟩)
 refine Aw<|Zt<|Zt<|AQ<|Zx<|A1<|Zm Y<|A3 Y<|AA<|AC rfl results138 Y (by exact ⟨by rw [HK A0],rfl⟩)
theorem dR(s:List UInt8):BC prog 128 #[.string (str s)] [] (.bool (decide (s.length=32))):=by
 have g:=BO s;refine Se func128 ntmps128 [0] ?_;intro u R;refine A1<|A3 Y<|A1<|Zm Y<|Zv (Ev HE Y)<|Zv (Bb (n:=32) Y Y)<|A3 Y<|AA<|AC rfl results128 Y (by exact ⟨by rw [g],rfl⟩)
theorem TN(p:Int)(a b:List UInt8):BC prog 67 #[.agg #[I4 p,.string (str a),.string (str b)]] [] (.bool (decide ((0<=p/\p<=10000)/\a.length=32/\b.length=32))):=by
 refine Se func67 ntmps67 [0] ?_;intro u R;refine A1<|Ze (Bx #[_,_,_])<|AF fun I=>A3 Y<|A1<|Zh 0 HD V rfl A5 Y<|Zl AE Y<|Zv (I1 Y Y)<|Zm Y<|Ai (t:=6) Y V (fun E=>?_) (fun E=>?_);·
  refine Yf 0 HD V rfl A5 Y<|Yl AE Y<|Yg (KI Y Y)<|Zv (AR Y Y)<|Zm Y<|Ai (t:=11) Y V (fun h2=>?_) (fun h2=>?_);·
   refine Yf 1 HD V rfl CH Y<|Yl Fm Y<|Xr [_] Y call128 Y V (dR a)<|Zv (AR Y Y)<|Zm Y<|Ai (t:=16) Y V (fun G=>?_) (fun G=>?_);·
    refine Yf 2 HD V rfl CH Y<|Yl Fm Y<|Xr [_] Y call128 Y V (dR b)<|Zv (AR Y Y)<|AH Y<|Zn [2] ?_;refine Zx<|AA<|AC V results67 Y (by exact ⟨by(simp_all;done),V⟩)
   refine A7 Y V<|A7 Y V<|A7 Y V<|Zv (AL Y Y)<|AH Y<|Zn [2] ?_;refine Zx<|AA<|AC V results67 Y (by exact ⟨by(simp_all;done),V⟩)
  refine A7 Y V<|A7 Y V<|A7 Y V<|Zv (AL Y Y)<|Zm Y<|A7 Y V<|A7 Y V<|A7 Y V<|Zv (AL Y Y)<|AH Y<|Zn [2] ?_;refine Zx<|AA<|AC rfl results67 Y (by exact ⟨by rw [Bm (fun g=>by have m:=g.1;omega)],rfl⟩)
 refine A7 Y V<|A7 Y V<|A7 Y V<|Zv (AL Y Y)<|Zm Y<|A7 Y V<|A7 Y V<|A7 Y V<|Zv (AL Y Y)<|Zm Y<|A7 Y V<|A7 Y V<|A7 Y V<|Zv (AL Y Y)<|AH Y<|Zn [2] ?_;refine Zx<|AA<|AC rfl results67 Y (by exact ⟨by rw [Bm (fun g=>by have m:=g.1;omega)],rfl⟩)
structure Ct where
 p:Int
 ch:List UInt8
 st:List UInt8
variable{sz:Nat}{e:AM}{v:A4}{xs:List A4}{s:List AU}
theorem Ir{k:Nat}(h:BZ sz e v k xs s)(i:Nat)(hi:i<k):∃g cap cur z,v=I6 g k cap/\s=[(g,.cells cur e z)]/\i*sz+sz<=cur.size/\(cur.extract (i*sz) (i*sz+sz)).toList=(xs.drop (i*sz)).take sz:=by
 obtain ⟨K,⟨_,h0,_⟩|⟨g,cap,cur,z,rfl,rfl,E,hc,G,m,J⟩⟩:=h;· omega
 · have I:i*sz+sz<=k*sz:=by
    have:=RM sz (Nat.succ_le_of_lt hi);rw [Nat.succ_mul]at this;exact this
   have h2:k*sz<=cap*sz:=RM sz E;refine ⟨g,cap,cur,z,V,V,by omega,?_⟩;rw [<-m,Array.toList_extract,List.extract_eq_take_drop,fz,SR];congr 1;omega
def Ac(rs:List AY):List A4:=rs.flatMap (fun r=>[I4 r.t,I4 r.k,I4 r.v.a,I4 r.v.b,I4 r.v.c])
theorem Gq{α:Type}(f:α->List A4)(sz:Nat)(g:∀a,(f a).length=sz):∀(l:List α) (i:Nat) (a:α),l[i]?=some a->((l.flatMap f).drop (i*sz)).take sz=f a
 |x::l,0,a,h=>by
  injection h with h;subst h
  rw [Tr,NO,HF,W3 (by rw [g];exact B8 _),HK (by rw [g];exact B8 _)]
 |x::l,i+1,a,h=>by
  have m:(f x++l.flatMap f).drop sz=l.flatMap f:=by
   have E:=List.drop_left (l₁:=f x) (l₂:=l.flatMap f);rwa [g]at E
  rw [HF,Nat.succ_mul,Nat.add_comm,<-ab,m];exact Gq f sz g l i a h
variable{rs:List AY}
theorem Kj(h:BZ 5 e v rs.length (Ac rs) s)(hn:rs.length<=maxLen):fP s v rs:=by
 obtain ⟨b,cap,rfl⟩:=h.form;refine ⟨b,cap,V,hn,fun i r G=>?_⟩;obtain ⟨g,E,cur,z,hv,rfl,I,m⟩:=Ir h i (zt.1 G).1;injection hv with hv1 hv2 hv3
 refine ⟨g,0,cur,e,z,hv1,D0.2 V,by omega,?_⟩;rw [C6];apply MA.1;rw [m];exact Gq _ 5 (fun _=>rfl) rs i r G
def D9(cs:List Chg):List A4:=cs.flatMap (fun c=>[I4 c.t,I4 c.k,.bool c.had,I4 c.o.a,I4 c.o.b,I4 c.o.c,.bool c.has,I4 c.n.a,I4 c.n.b,I4 c.n.c])
theorem WE{rs:List Chg}(h:BZ 10 e v rs.length (D9 rs) s)(hn:rs.length<=maxLen):Dq s v rs:=by
 obtain ⟨b,cap,rfl⟩:=h.form;refine ⟨b,cap,V,hn,fun i r G=>?_⟩;obtain ⟨g,E,cur,z,hv,rfl,I,m⟩:=Ir h i (zt.1 G).1;injection hv with hv1 hv2 hv3
 refine ⟨g,0,cur,e,z,hv1,D0.2 V,by omega,?_⟩;rw [C6];apply MA.1;rw [m];exact Gq _ 10 (fun _=>rfl) rs i r G
def IX(hs:List Ct):List A4:=hs.flatMap (fun h=>[I4 h.p,.string (str h.ch),.string (str h.st)])
theorem Mg:∀(rs:List AY) (t k:Int),BL rs->∃A B,rs=A++B/\A.length=EL rs t k/\(∀r∈A,r.lt2 t k)/\(∀r∈B,¬r.lt2 t k)
 |[],t,k,_=>⟨[],[],rfl,rfl,by simp,by simp⟩
 |r::rs,t,k,hs=>by
  have g:=RT.1 hs;by_cases h:r.lt2 t k
  · obtain ⟨A,B,m,h2,E,G⟩:=Mg rs t k g.2
    refine ⟨r::A,B,by rw [m];rfl,?_,?_,G⟩
    · unfold EL at*
      rw [W8,B0 (by simpa using h),D3,D3,h2]
    · intro x hx
      rcases E4.1 hx with rfl|hx
      · exact h
      · exact E x hx
  · refine ⟨[],r::rs,rfl,?_,by simp,?_⟩
    · unfold EL
      rw [W8,As (by simpa using h)]
    · intro x hx hc
      rcases E4.1 hx with rfl|hx
      · exact h hc
      · exact h (QW (g.1 x hx) hc)
variable{k t:Int}
theorem Vp{r:AY}(h:r.is t k):¬r.lt2 t k:=by unfold AY.is AY.lt2 at*;omega
theorem LK{r:AY}(m:BL rs)(J:r∈rs)(h:r.is t k):GZ rs t k=(r,true):=by
 obtain ⟨A,B,g,h2,K,M⟩:=Mg rs t k m;have I:r∈B:=by
  rw [g]at J;rcases DM.1 J with h9|h9
  · exact absurd (K r h9) (Vp h)
  · exact h9
 cases B with
 |nil=>cases I
 |cons b B=>
  have U:b=r:=by
   rcases E4.1 I with h9|h9
   · exact h9.symm
   · exfalso
     have E:BL (b::B):=by rw [g]at m;exact (N4.1 m).2.1
     have G:=(RT.1 E).1 r h9;have O:=M b B3
     unfold AY.is at h;rw [h.1,h.2]at G;exact O G
  subst U;have W:rs[EL rs t k]?=some b:=by rw [<-h2,g,T0 (B8 _),S1];rfl
  unfold GZ;rw [W];simp only;rw [B0 h]
theorem QZ(h:∀r∈rs,¬r.is t k):GZ rs t k=(AY.zero,false):=by
 unfold GZ;split
 · rename_i r hr
   rw [As (h r (Cd hr))]
 · rfl
theorem Jq(h:(GZ rs t k).2=true):∃r∈rs,r.is t k/\rs[EL rs t k]?=some r/\GZ rs t k=(r,true):=by
 unfold GZ at*;split at h
 · rename_i r hr
   split at h
   · rename_i hi
     exact ⟨r,Cd hr,hi,hr,by rw [B0 hi]⟩
   · cases h
 · cases h
def Gb(rs:List AY)(c:Chg):Prop:=(GZ rs c.t c.k).2=c.had/\((GZ rs c.t c.k).2=true->(GZ rs c.t c.k).1.v=c.o)
def OE(c:Chg):List AY:=if c.has then [⟨c.t,c.k,c.n⟩]else []
def Ei(rs:List AY)(c:Chg):List AY:=rs.take (EL rs c.t c.k)++OE c++(rs.drop (EL rs c.t c.k)).drop (if c.had then 1 else 0)
theorem PN{x:AY}:x∈OE c↔c.has=true/\x=⟨c.t,c.k,c.n⟩:=by
 unfold OE;cases c.has<;>simp
theorem QF(I:BL rs)(hf:Gb rs c):∃A B,Ei rs c=A++OE c++B/\(∀x,x∈rs↔x∈A\/x∈B\/(x∈rs/\x.is c.t c.k))/\BL A/\BL B/\(∀r∈A,r.lt2 c.t c.k)/\(∀r∈B,c.t<r.t\/c.t=r.t/\c.k<r.k)/\rs.length=A.length+B.length+(if c.had then 1 else 0):=by
 obtain ⟨A,B,g,h2,h3,h4⟩:=Mg rs c.t c.k I;have K:BL A:=by rw [g]at I;exact (N4.1 I).1
 have M:BL B:=by rw [g]at I;exact (N4.1 I).2.1
 have X:rs.take (EL rs c.t c.k)=A:=by rw [<-h2,g,Hi rfl]
 have U:rs.drop (EL rs c.t c.k)=B:=by rw [<-h2,g,S0 rfl]
 unfold Ei;rw [X,U];have E:∀x∈B,¬x.is c.t c.k->c.t<x.t\/c.t=x.t/\c.k<x.k:=fun x hx hn=>by
  have G:=h4 x hx;unfold AY.lt2 at G;unfold AY.is at hn;omega
 cases hh:c.had with
 |false=>
  have W:∀r∈rs,¬r.is c.t c.k:=fun r J hi=>by
   have G:=hf.1;rw [LK I J hi,hh]at G;cases G
  refine ⟨A,B,by simp,fun x=>?_,K,M,h3,fun r J=>E r J (W r (by rw [g];exact DA _ J)),by rw [g];simp⟩;rw [g,DM];constructor
  · rintro (h|h)
    · exact .inl h
    · exact .inr (.inl h)
  · rintro (h|h|⟨h,_⟩)
    · exact .inl h
    · exact .inr h
    · exact h
 |true=>
  obtain ⟨r,J,hi,hp,hg⟩:=Jq (by rw [hf.1,hh]:(GZ rs c.t c.k).2=true);have O:B[0]?=some r:=by rw [<-h2,g,T0 (B8 _),S1]at hp;exact hp
  cases B with
  |nil=>cases O
  |cons b B=>
   injection O with O
   subst O;have m:=RT.1 M
   refine ⟨A,B,by simp,fun x=>?_,K,m.2,h3,fun x hx=>?_,by rw [g];simp;omega⟩
   · constructor
     · intro hx
       have Z:=hx;rw [g]at hx;rcases DM.1 hx with h|h
       · exact .inl h
       · rcases E4.1 h with rfl|h
         · exact .inr (.inr ⟨Z,hi⟩)
         · exact .inr (.inl h)
     · rintro (h|h|⟨h,_⟩)
       · rw [g];exact E3 _ h
       · rw [g];exact DA _ (HQ _ h)
       · exact h
   · have G:=m.1 x hx
     unfold AY.lt2 at G;unfold AY.is at hi;omega
theorem GY(M:BL rs)(K:Gb rs c)(x:AY):x∈Ei rs c↔(x∈rs/\¬x.is c.t c.k)\/(c.has=true/\x=⟨c.t,c.k,c.n⟩):=by
 obtain ⟨A,B,G,h2,_,_,I,J,_⟩:=QF M K;rw [G,DM,DM,PN];have m:∀x∈A,¬x.is c.t c.k:=fun x hx hi=>Vp hi (I x hx)
 have E:∀x∈B,¬x.is c.t c.k:=fun x hx hi=>by have g:=J x hx;unfold AY.is at hi;omega
 constructor
 · rintro ((h|h)|h)
   · exact .inl ⟨(h2 x).2 (.inl h),m x h⟩
   · exact .inr h
   · exact .inl ⟨(h2 x).2 (.inr (.inl h)),E x h⟩
 · rintro (⟨h,hn⟩|h)
   · rcases (h2 x).1 h with g|g|⟨_,g⟩
     · exact .inl (.inl g)
     · exact .inr g
     · exact absurd g hn
   · exact .inl (.inr h)
theorem Jg(U:BL rs)(O:Gb rs c):BL (Ei rs c):=by
 obtain ⟨A,B,J,_,K,M,G,I,_⟩:=QF U O;rw [J];have m:∀a b:AY,a.lt2 c.t c.k->(c.t<b.t\/c.t=b.t/\c.k<b.k)->a.lt2 b.t b.k:=fun a b g E=>by unfold AY.lt2 at*;omega
 refine N4.2 ⟨N4.2 ⟨K,?_,?_⟩,M,?_⟩;· unfold OE;split<;>simp
 · intro a g b E
   obtain ⟨_,rfl⟩:=PN.1 E;exact G a g
 · intro a g b E
   rcases DM.1 g with g|g
   · exact m a b (G a g) (I b E)
   · obtain ⟨_,rfl⟩:=PN.1 g
     have:=I b E;unfold AY.lt2;simp only;omega
theorem uf(G:BL rs)(E:Gb rs c):((Ei rs c).length:Int)=rs.length+(if c.has then 1 else 0) -(if c.had then 1 else 0):=by
 obtain ⟨A,B,g,_,_,_,_,_,m⟩:=QF G E;rw [g,m];unfold OE;cases c.has<;>cases c.had<;>simp<;>omega
theorem vF(E:BL rs)(G:Gb rs c)(I:¬(c.t=t/\c.k=k)):GZ (Ei rs c) t k=GZ rs t k:=by
 cases hg:(GZ rs t k).2 with
 |true=>
  obtain ⟨r,m,hi,_,J⟩:=Jq hg;rw [J];exact LK (Jg E G) ((GY E G r).2 (.inl ⟨m,fun h=>by unfold AY.is at h hi;omega⟩)) hi
 |false=>
  have g:∀r∈rs,¬r.is t k:=fun r m hi=>by rw [LK E m hi]at hg;cases hg
  rw [QZ g];refine QZ fun r m hi=>?_;rcases (GY E G r).1 m with⟨h,_⟩|⟨_,rfl⟩
  · exact g r h hi
  · exact I hi
def Dc(rs:List AY)(cs:List Chg):List AY:=cs.foldl Ei rs
theorem EO(rs:List AY)(cs:List Chg)(i:Nat)(c:Chg)(h:cs[i]?=some c):Dc rs (cs.take (i+1))=Ei (Dc rs (cs.take i)) c:=by
 unfold Dc;rw [Kx,h,RW];rfl
def sJ(cs:List Chg):Prop:=∀(i j:Nat) (b c:Chg),i<j->cs[i]?=some b->cs[j]?=some c->b.lt c
theorem lN{a b:Chg}(h:a.lt b)(h2:b.lt c):a.lt c:=by unfold Chg.lt at*;omega
theorem Qg(h:∀(i:Nat) (b c:Chg),cs[i]?=some b->cs[i+1]?=some c->b.lt c):sJ cs:=by
 intro i j b c g m hc;obtain ⟨d,rfl⟩:∃d,j=i+1+d:=⟨j -(i+1),by omega⟩;clear g;induction d generalizing c with
 |zero=>exact h i b c m hc
 |succ d ih=>
  obtain ⟨x,hx⟩:∃x,cs[i+1+d]?=some x:=by
   have:=(zt.1 hc).1;exact ⟨_,zn A0⟩
  exact lN (ih x hx) (h (i+1+d) x c hx hc)
theorem Jr{rs:List AY}{cs:List Chg}(J:BL rs)(G:sJ cs)(I:∀c∈cs,Gb rs c):∀i,i<=cs.length->BL (Dc rs (cs.take i))/\∀(j:Nat) (c:Chg),i<=j->cs[j]?=some c->Gb (Dc rs (cs.take i)) c
 |0,_=>⟨J,fun j c _ hc=>I c (Cd hc)⟩
 |i+1,hi=>by
  obtain ⟨E,h2⟩:=Jr J G I i A0;obtain ⟨x,hx⟩:∃x,cs[i]?=some x:=⟨_,zn A0⟩;rw [EO rs cs i x hx];have g:=h2 i x (B8 _) hx
  refine ⟨Jg E g,fun j c M hc=>?_⟩;have m:=G i j x c A0 hx hc
  have K:=h2 j c A0 hc;unfold Gb at*;rw [vF E g (by unfold Chg.lt at m;omega)];exact K
def Nc(c:Chg):Int:=(if c.has then 1 else 0) -(if c.had then 1 else 0)
def Hq(rs:List AY)(cs:List Chg):Int:=cs.foldl (fun n c=>n+Nc c) (rs.length:Int)
theorem IM(rs:List AY)(cs:List Chg)(i:Nat)(c:Chg)(h:cs[i]?=some c):Hq rs (cs.take (i+1))=Hq rs (cs.take i)+Nc c:=by
 unfold Hq;rw [Kx,h,RW];rfl
theorem nE(c:Chg):-1<=Nc c/\Nc c<=1:=by unfold Nc;split<;>split<;>omega
theorem Oj(rs:List AY)(cs:List Chg):∀i,(rs.length:Int) -i<=Hq rs (cs.take i)/\Hq rs (cs.take i)<=rs.length+i
 |0=>by unfold Hq;simp
 |i+1=>by
  have m:=Oj rs cs i;cases h:cs[i]?with
  |none=>rw [Kx,h];simp only [Option.toList,H3];omega
  |some c=>have g:=nE c;rw [IM rs cs i c h];omega
theorem OH{rs:List AY}{cs:List Chg}(E:BL rs)(g:sJ cs)(m:∀c∈cs,Gb rs c):∀i,i<=cs.length->((Dc rs (cs.take i)).length:Int)=Hq rs (cs.take i)
 |0,_=>rfl
 |i+1,hi=>by
  obtain ⟨x,hx⟩:∃x,cs[i]?=some x:=⟨_,zn A0⟩;have I:=OH E g m i A0
  obtain ⟨G,h2⟩:=Jr E g m i A0;rw [EO rs cs i x hx,IM rs cs i x hx,uf G (h2 i x (B8 _) hx),I];unfold Nc;omega
structure Nt(rs:List AY)(p rp:Int)(cs:List Chg):Prop where
 ok:E9 rp cs
 pos:rp=p+1
 fit:∀c∈cs,Gb rs c
 size:Hq rs cs<=2000
theorem J8(h:∀c∈cs.take i,Gb rs c)(hx:cs[i]?=some x)(g:Gb rs x):∀c∈cs.take (i+1),Gb rs c:=by
 rw [Kx,hx];intro c hc;rcases DM.1 hc with h9|h9
 · exact h c h9
 · rw [D0.1 h9];exact g
theorem Bf(a b:List AY):Ac (a++b)=Ac a++Ac b:=by unfold Ac;rw [Ly]
theorem BG:∀(rs:List AY),(Ac rs).length=rs.length*5
 |[]=>rfl
 |r::rs=>by
  have:=BG rs;unfold Ac at*;rw [HF,zq,this,D3];simp;omega
theorem Du(rs:List AY)(k:Nat):(Ac rs).take (k*5)=Ac (rs.take k):=by
 rcases DP rs.length k with h|h
 · rw [HK (by rw [BG];omega),HK A0]
 · have e:Ac rs=Ac (rs.take k)++Ac (rs.drop k):=by rw [<-Bf,HW]
   rw [e,Hi (by rw [BG,zy];omega)]
theorem DX(rs:List AY)(k:Nat):(Ac rs).drop (k*5)=Ac (rs.drop k):=by
 rcases DP rs.length k with h|h
 · rw [P2 (by rw [BG];omega),P2 A0];rfl
 · have e:Ac rs=Ac (rs.take k)++Ac (rs.drop k):=by rw [<-Bf,HW]
   rw [e,S0 (by rw [BG,zy];omega)]
theorem CE(rs:List AY):∀u∈Ac rs,u.oneCell'=true:=by
 intro u g;unfold Ac at g;obtain ⟨r,_,h⟩:=N6.1 g;simp only [E4,Mu,N3]at h;rcases h with rfl|rfl|rfl|rfl|rfl<;>rfl
theorem BH{n n':Nat}{xs':List A4}(h:BZ sz e v n xs s)(hn:n=n')(hx:xs=xs'):BZ sz e v n' xs' s:=by subst hn hx;exact h
theorem Ex{b:B7}{n c:Nat}(h:BZ sz e (.slice b n c) n xs s):n<=c:=by
 obtain ⟨_,⟨hv,h0,_⟩|⟨_,_,_,_,hv,_,h2,_⟩⟩:=h;· omega
 · injection hv with _ _ hv3;omega
theorem Uv(sz:Nat)(b:B7)(c:Nat):MP sz (.slice b 0 c) 0 [] []:=⟨by simp,.inl ⟨rfl,b,c,rfl⟩⟩
theorem Dy(sz g k c:Nat)(e:AM)(z:Nat×Nat)(xs:List A4)(h:xs.length=k*sz):MP sz (I6 g k c) k xs [(g,.cells xs.toArray e z)]:=
 ⟨h,.inr ⟨g,0,c,xs.toArray,e,z,rfl,rfl,by unfold CG;rw [NO];simp⟩⟩
theorem X8(h:c.has=true):OE c=[⟨c.t,c.k,c.n⟩]:=B0 h
theorem X9(h:c.has=false):OE c=[]:=As (by rw [h];decide)
theorem gF(hx:cs[i]?=some x)(g:x.had=true)(h2:x.has=true):Hq rs (cs.take (i+1))=Hq rs (cs.take i) -1+1:=by rw [IM rs cs i x hx];unfold Nc;rw [B0 h2,B0 g];omega
theorem gG(hx:cs[i]?=some x)(g:x.had=true)(h2:x.has=false):Hq rs (cs.take (i+1))=Hq rs (cs.take i) -1:=by rw [IM rs cs i x hx];unfold Nc;rw [As (by rw [h2];decide),B0 g];omega
theorem gH(hx:cs[i]?=some x)(g:x.had=false)(h2:x.has=true):Hq rs (cs.take (i+1))=Hq rs (cs.take i)+1:=by rw [IM rs cs i x hx];unfold Nc;rw [B0 h2,As (by rw [g];decide)];omega
theorem gI(hx:cs[i]?=some x)(g:x.had=false)(h2:x.has=false):Hq rs (cs.take (i+1))=Hq rs (cs.take i):=by rw [IM rs cs i x hx];unfold Nc;rw [As (by rw [h2];decide),As (by rw [g];decide)];omega
theorem YV(sp:Nat)(p rp:Int)(v:A4)(rs:List AY)(sv M:List AU)(q:B7)(bf:Nat)(cs:List Chg)(gm:BZ 5 98 v rs.length (Ac rs) sv)(hO:Dq M (.slice q cs.length bf) cs)(hs:BL rs)(hn:rs.length<=2000)(hp:0<=p/\p<=10000):
 Bz prog 26 #[I5 sp,.agg #[I4 rp,.slice q cs.length bf]] [[(sp,.cells #[v,I4 p] 130 (0,0))],sv,M] (fun r H'=>(Nt rs p rp cs/\∃v' pg,r=I4 0/\BZ 5 98 v' (Dc rs cs).length (Ac (Dc rs cs)) pg/\H'=[[(sp,.cells #[v',I4 rp] 130 (0,0))],pg,M])\/(¬Nt rs p rp cs/\r=I4 40/\H'=[[(sp,.cells #[v,I4 p] 130 (0,0))],sv,M])):=by
 have qo:=mL;obtain ⟨qv,lv,rfl⟩:=gm.form;have pq:=Kj gm A0
 obtain ⟨p9,qc,e9,qx,hg⟩:=id hO;injection e9 with e91 e92 e93
 subst e91 e93;refine Se func26 ntmps26 [0,1] ?_;intro u R;refine A1<|Ze (Bx #[_,_])<|AF fun rb=>A3 Y<|A1<|Zo Wh (Pa #[_,_] HX E6 Y) ?_;refine Xr [_] Y call60 Y V (QD rp q bf cs M hO) ?_;refine A3 Y<|Zq<|Zq<|BJ (n:=12) (0::1::3::7::15::7::39::103::231::487::1023::2047::[]) 0 AG AG V<|A2 0 V (AJ Y)<|A2 1 V (C9 Y)<|A2 2 V (AJ Y)<|Cc (t:=23) Y (fun hv=>?_) (fun hv=>?_);·
  rw [CA hv];refine AW 3 V<|AW 4 V<|AW 5 V<|AW 6 V<|AW 7 V<|AW 8 V<|AW 9 V<|AW 10 V<|A2 11 V (AR Y Y)<|Ao<|Zn [0,3,32] ?_;refine Zx<|CQ Y<|A1<|A3 Y<|AA<|Zt<|AC V dc Y (by exact .inr ⟨fun h=>hv h.ok,V,V⟩)
 rw [Bm hv];refine B1 3 V (AV (off:=0) Ft V rfl A5 Y)<|D4 4 V Wh (Bj AE Y An) ?_;refine B1 5 V (AJ Y)<|B1 6 V (EY Y V)<|B1 7 V (AV (off:=1) Hs V rfl A5 Y)<|D4 8 V Wh (Bj AE Y An) ?_
 (refine B1 9 rfl (EU Y Y (IntWalk.i64_in _ ?_)) ?_;(focus (omega)))
 refine B1 10 V (IC Y Y)<|A2 11 V (AL Y Y)<|Ao<|Zn [0,3,32] ?_;refine Zx<|Ak Y (fun ek=>?_) (fun ek=>?_);·
  refine A1<|A3 Y<|AA<|Zt<|AC V dc Y (by exact .inr ⟨fun h=>ek h.pos,V,V⟩)
 refine AB<|Zx<|Zq ?_;have l9:=G2.1 hv
 have qa:=G2.1 ek;have qd:=l9.len
 have kv:=Qg l9.ord;refine Zg<|Zm Y<|Zp Y V<|Zh 0 Hs V rfl C4 Y<|Zl DO Y ?_;refine Zv (AP B4 Y)<|A3 Y<|Zq<|A1<|A3 Y<|AX<|Zb [6,7,0,3] ?_;refine BB (e0:=[(6,_),(7,_)]) (fun m e H=>∃(i:Nat),m=cs.length -i/\(i<=cs.length/\(∀c∈cs.take i,Gb rs c))/\e=[(6,I4 (Hq rs (cs.take i))),(7,I4 (i:Int))]/\H=[]) (by exact ⟨0,V,⟨C2 _,by simp⟩,V,V⟩) Wp ?_;rintro _ _ _ ⟨i,rfl,⟨hi,I⟩,rfl,rfl⟩;have o9:=Oj rs cs i
 refine Zq<|A1<|Zm Y<|Zh 1 Ft V rfl Hx Y<|Zl J1 Y ?_;refine Zv (AP Fk Y)<|Zv (Au Y Y)<|AD<|Ak Y (fun cO=>?_) (fun cO=>?_);·
  refine AB<|Zx<|Zq<|AX<|Zq ?_;obtain ⟨x,hx⟩:∃x,cs[i]?=some x:=⟨_,zn cO⟩;obtain ⟨g,off,cur,T,zz,rfl,hm,qb,l8⟩:=hg i x hx;refine Zg<|Zh 1 Ft V rfl Hx Y<|Zl J1 Y ?_;refine Zm Y<|Ap (AO Fk C5 Y Y A0)<|Ca (cs:=[(g,.cells cur T zz)]) (by simp [hm]) (A9 (cs:=x.Ao4) GC C5 Y A0 l8) V rfl ?_;refine Ze (Al K1 #[_,_,_,_,_,_,_,_,_,_])<|AF fun cb=>Xe (Xw C5 x.Ao4) ?_;refine AD<|A1<|Zm Y<|Zh 0 B9 V rfl A5 Y<|Zl AE Y ?_;refine Zh 1 B9 V rfl A5 Y<|Zl AE Y ?_;refine Xr [_,_,_] Y call61 Y V (nk sp qv lv p x.t x.k rs sv pq A0 hs) ?_;obtain ⟨gr,cu⟩:∃gr,gr=GZ rs x.t x.k:=⟨_,rfl⟩;rw [<-cu];refine Zm Y<|Zd Y V<|Zd Y V<|Ze (Al Dd #[_,_,_,_,_])<|AF fun xb=>Xe (Xw Ax #[I4 gr.1.t,I4 gr.1.k,I4 gr.1.v.a,I4 gr.1.v.b,I4 gr.1.v.c]) ?_;refine AH Y<|Zn [0,3,6,7,8,9,10] ?_;refine Zx<|Zq<|A1<|Zm Y<|Zh 2 B9 V rfl Cl Y<|Zl DH Y ?_;refine Zv (Lm On Y Y)<|Zm Y<|Ai (t:=63) Y V (fun gq=>?_) (fun gq=>?_);·
   refine A7 Y V<|A7 Y V<|A7 Y V<|A7 Y V<|A7 Y V<|A7 Y V<|A7 Y V<|A7 Y V<|Zv (AR Y Y)<|Z0<|Zn [0,3,6,7,8,72] ?_;refine Zx<|CQ Y<|A1<|A3 Y<|AA<|Zt<|Ab<|Zt<|Zt<|Ab<|Zt<|AC rfl dc Y (by exact .inr ⟨fun h=>by have h9:=(h.fit x (Cd hx)).1;rw [<-cu]at h9;exact gq h9,rfl,rfl⟩)
  refine Zf Y Y<|Zf Y Y ?_;refine Ah (t:=65) Y V (fun gy=>?_) (fun gy=>?_);·
   refine Yf 2 Ds V rfl CD Y<|DF Y Wh (Pa #[_,_,_] HB CD Y) V rfl ?_;refine Yf 3 B9 V rfl CD Y<|DF Y Wh (A9 (cs:=#[_,_,_]) HB CD Y B5 An) V rfl ?_;refine Yg (Lp AG G1 F0 AE A5 Y Y) ?_;refine Yg (AR Y Y)<|Zv (AL Y Y)<|Z0<|Zn [0,3,6,7,8,72] ?_;refine Zx<|Ak Y (fun kz=>?_) (fun kz=>?_);·
    refine A1<|A3 Y<|AA<|Zt<|Ab<|Zt<|Zt<|Ab<|Zt<|AC rfl dc Y (by exact .inr ⟨fun h=>by have h9:=(h.fit x (Cd hx)).2;rw [<-cu]at h9;exact kz (h9 gy),rfl,rfl⟩)
   refine AB<|Zx<|Zq<|Zq ?_;have U:Gb rs x:=by
    unfold Gb;rw [<-cu];refine ⟨by simpa using gq,fun h=>?_⟩;exact G2.1 kz
   refine Zg<|Zh 2 B9 V rfl Cl Y<|Zl DH Y ?_;refine AD<|Ad Y (fun G=>?_) (fun G=>?_);·
    refine Zg<|Zm Y ?_
    (refine Ap (HV Y Y (IntWalk.i64_in _ ?_)) ?_;(focus (omega)))
    refine A3 Y<|A1<|Zh 6 B9 V rfl Cl Y<|Zl DH Y ?_;refine AD<|Ad Y (fun E=>?_) (fun E=>?_);·
     refine Zg<|Zm Y<|Yi Y Y<|AH Y<|A8<|Zx<|Zg<|Zm Y<|Ya (n:=1) Y Y<|AH Y<|Zn [6,7,0,3] ?_;refine AZ (e':=[(6,_),(7,_)]) (by exact ⟨i+1,rfl,⟨by omega,J8 I hx U⟩,by rw [gF hx G E],rfl⟩)
    refine AB<|A8<|Zx<|Zg<|Zm Y<|Ya (n:=1) Y Y<|AH Y<|Zn [6,7,0,3] ?_;refine AZ (e':=[(6,_),(7,_)]) (by exact ⟨i+1,rfl,⟨by omega,J8 I hx U⟩,by rw [gG hx G E],rfl⟩)
   refine AB<|Zx<|A1<|Zh 6 B9 V rfl Cl Y<|Zl DH Y ?_;refine AD<|Ad Y (fun E=>?_) (fun E=>?_);·
    refine Zg<|Zm Y<|Yi Y Y<|AH Y<|A8<|Zx<|Zg<|Zm Y<|Ya (n:=1) Y Y<|AH Y<|Zn [6,7,0,3] ?_;refine AZ (e':=[(6,_),(7,_)]) (by exact ⟨i+1,rfl,⟨by omega,J8 I hx U⟩,by rw [gH hx G E],rfl⟩)
   refine AB<|A8<|Zx<|Zg<|Zm Y<|Ya (n:=1) Y Y<|AH Y<|Zn [6,7,0,3] ?_;refine AZ (e':=[(6,_),(7,_)]) (by exact ⟨i+1,rfl,⟨by omega,J8 I hx U⟩,by rw [gI hx G E],rfl⟩)
  refine A7 Y V<|A7 Y V<|A7 Y V<|A7 Y V<|A7 Y V<|Yg (AL Y Y)<|Zv (AL Y Y)<|Z0<|Zn [0,3,6,7,8,72] ?_;refine Zx<|Dj Y<|AB<|Zx<|Zq<|Zq ?_;have U:Gb rs x:=by
   unfold Gb;rw [<-cu];refine ⟨by simpa using gq,fun h=>?_⟩
   (rw [h]at gy;cases gy)
  refine Zg<|Zh 2 B9 V rfl Cl Y<|Zl DH Y ?_;refine AD<|Ad Y (fun G=>?_) (fun G=>?_);·
   refine Zg<|Zm Y ?_
   (refine Ap (HV Y Y (IntWalk.i64_in _ ?_)) ?_;(focus (omega)))
   refine A3 Y<|A1<|Zh 6 B9 V rfl Cl Y<|Zl DH Y ?_;refine AD<|Ad Y (fun E=>?_) (fun E=>?_);·
    refine Zg<|Zm Y<|Yi Y Y<|AH Y<|A8<|Zx<|Zg<|Zm Y<|Ya (n:=1) Y Y<|AH Y<|Zn [6,7,0,3] ?_;refine AZ (e':=[(6,_),(7,_)]) (by exact ⟨i+1,rfl,⟨by omega,J8 I hx U⟩,by rw [gF hx G E],rfl⟩)
   refine AB<|A8<|Zx<|Zg<|Zm Y<|Ya (n:=1) Y Y<|AH Y<|Zn [6,7,0,3] ?_;refine AZ (e':=[(6,_),(7,_)]) (by exact ⟨i+1,rfl,⟨by omega,J8 I hx U⟩,by rw [gG hx G E],rfl⟩)
  refine AB<|Zx<|A1<|Zh 6 B9 V rfl Cl Y<|Zl DH Y ?_;refine AD<|Ad Y (fun E=>?_) (fun E=>?_);·
   refine Zg<|Zm Y<|Yi Y Y<|AH Y<|A8<|Zx<|Zg<|Zm Y<|Ya (n:=1) Y Y<|AH Y<|Zn [6,7,0,3] ?_;refine AZ (e':=[(6,_),(7,_)]) (by exact ⟨i+1,rfl,⟨by omega,J8 I hx U⟩,by rw [gH hx G E],rfl⟩)
  refine AB<|A8<|Zx<|Zg<|Zm Y<|Ya (n:=1) Y Y<|AH Y<|Zn [6,7,0,3] ?_;refine AZ (e':=[(6,_),(7,_)]) (by exact ⟨i+1,rfl,⟨by omega,J8 I hx U⟩,by rw [gI hx G E],rfl⟩)
 have ei:i=cs.length:=by omega
 subst ei;rw [G0]at I o9⊢;refine Aw<|Zt<|Zt<|AQ<|Zx<|Zq<|A1<|Zm Y<|Zv (EI Y Y)<|AD<|Ak Y (fun mR=>?_) (fun mR=>?_);·
  refine A1<|A3 Y<|AA<|Zt<|AC V dc Y (by exact .inr ⟨fun h=>by have h9:=h.size;omega,V,V⟩)
 refine AB<|Zx<|Zq<|A1<|A3 Y<|AX<|Zb [11,0,3] ?_;refine BB (e0:=[(11,_)]) (fun m e H=>∃(i:Nat) (w:A4) (sw:List AU),m=cs.length -i/\(i<=cs.length/\BZ 5 98 w (Dc rs (cs.take i)).length (Ac (Dc rs (cs.take i))) sw)/\e=[(11,I4 (i:Int))]/\H=[[(sp,.cells #[w,I4 p] 130 (0,0))],sw]) (by exact ⟨0,_,sv,V,⟨C2 _,gm⟩,V,V⟩) Wp ?_;rintro _ _ _ ⟨i,w,sw,rfl,⟨hi,O⟩,rfl,rfl⟩;obtain ⟨p8,o8⟩:=Jr hs kv I i hi;have q9:=OH hs kv I i hi
 have o9:=Oj rs cs i;obtain ⟨J,ax⟩:∃J,J=Dc rs (cs.take i):=⟨_,rfl⟩;rw [<-ax]at O p8 q9 o8;obtain ⟨qw,bn,rfl⟩:=O.form;have qg:=Ex O
 have pz:=Kj O A0;refine Zq<|A1<|Zm Y<|Zh 1 Ft V rfl Hx Y<|Zl J1 Y ?_;refine Zv (AP Fk Y)<|Zv (Au Y Y)<|AD<|Ak Y (fun cO=>?_) (fun cO=>?_);·
  refine AB<|Zx<|Zq<|AX<|Zq ?_;obtain ⟨x,hx⟩:∃x,cs[i]?=some x:=⟨_,zn cO⟩;obtain ⟨g,off,cur,T,zz,rfl,hm,qb,l8⟩:=hg i x hx;have U:=o8 i x (B8 _) hx
  have d9:=VQ J x.t x.k;have K:Ei J x=J.take (EL J x.t x.k)++OE x++(J.drop (EL J x.t x.k)).drop (if x.had then 1 else 0):=rfl
  obtain ⟨k,hk⟩:∃k,k=EL J x.t x.k:=⟨_,rfl⟩;have q8:x.had=true->k<J.length:=fun h=>by
   obtain ⟨r,_,_,h9,_⟩:=Jq (by rw [U.1,h]:(GZ J x.t x.k).2=true);rw [<-hk]at h9;exact (zt.1 h9).1
  rw [<-hk]at d9 K;refine Zg<|Zh 1 Ft V rfl Hx Y<|Zl J1 Y ?_;refine Zm Y<|Ap (AO Fk C5 Y Y A0)<|Ca (cs:=[(g,.cells cur T zz)]) (by simp [hm]) (A9 (cs:=x.Ao4) GC C5 Y A0 l8) V rfl ?_;refine Ze (Al K1 #[_,_,_,_,_,_,_,_,_,_])<|AF fun cb=>Xe (Xw C5 x.Ao4) ?_;refine AD<|A1<|Zm Y<|Zh 0 B9 V rfl A5 Y<|Zl AE Y ?_;refine Zh 1 B9 V rfl A5 Y<|Zl AE Y ?_;refine Xr [_,_,_] Y call62 Y V (YU sp qw bn p x.t x.k J sw pz A0 p8) ?_;rw [<-hk];refine AH Y<|Zn [0,3,11,12,13] ?_;refine Zx<|A1<|Zm Y<|Zp Y V<|Zh 0 Hs V rfl C4 Y<|Zl DO Y ?_;refine Zm Y<|Ap (Bn B4 Ax Y Y A0)<|A3 Y<|Zq<|A1<|Zh 2 B9 V rfl Cl Y<|Zl DH Y ?_;refine AD<|Ad Y (fun G=>?_) (fun G=>?_);·
   have qh:=q8 G;refine Zg<|Zm Y<|Ap (Bn (l:=1) B4 Ax Y Y A0)<|A3 Y<|A1<|AH Y<|Zn [0,3,11,12,13,14,15] ?_;refine Zx<|A1<|Zo Wh (Pa #[_,_,_,_,_,_,_,_,_,_] GC C5 Y) ?_;refine Xr [_] Y call63 Y V (Sd x) ?_;refine Zm Y<|Zd Y V<|Zd Y V<|Ze (Al Dd #[_,_,_,_,_])<|AF fun xb=>Xe (Xw Ax x.after.Ao5) ?_;refine A3 Y<|Zq<|A1<|Zm Y<|AD<|Ad Y (fun E=>?_) (fun E=>?_);·
    refine Zg<|Zo Wh (Pa #[_,_,_,_,_] C7 Ax Y) ?_;refine Ze (Af (vs:=[_]) (cs:=[_,_,_,_,_]) B4 Ax Dd Y V rfl V rfl V)<|AF fun gb=>A3 Y<|A1<|AH Y<|Zn [0,3,11,13,14,15,18] ?_;refine Zx<|Zq<|Bl<|Zg<|Zm Y<|Zm Y<|Zp Y V<|Zh 0 Hs V rfl C4 Y<|Zl DO Y ?_;refine Zm Y<|Ap (Bc B4 Ax Y Y A0)<|Ze (BR (by_:=40) (sz:=5) B4 (V:Tryz.prog.info? 98=some Tryz.t98) V rfl V rfl Y (Ba 5 _) Y (IK O k _ d9) Wo Wo (by exact fun u hu=>CE J u (HI hu)) A0 A0) ?_;rintro _ _ ⟨sa,X,rfl⟩;obtain ⟨ga,ca,rfl⟩:=X.form;refine Zm Y<|Ze (BR (by_:=40) (sz:=5) B4 (V:Tryz.prog.info? 98=some Tryz.t98) V rfl V rfl Y (X) Y (Dy 5 gb 1 1 98 (0,0) (Ac [x.after]) V) Wo Wo (by exact CE _) A0 A0) ?_;rintro _ _ ⟨sb,Z,rfl⟩;obtain ⟨gb,cb,rfl⟩:=Z.form;refine Zm Y<|Ze (BR (by_:=40) (sz:=5) B4 (V:Tryz.prog.info? 98=some Tryz.t98) V rfl V rfl Y (Z) Y (Y2 (IL O k (J.length -k) (bn -k) A0) 1 (J.length -k -1) _ A0 A0) Wo Wo (by exact fun u hu=>CE J u (ID (ID hu))) A0 A0) ?_;rintro _ _ ⟨sc,af,rfl⟩;have W:=BH af (n':=(Ei J x).length) (xs':=Ac (Ei J x)) (by rw [K,X8 E,B0 G,zq,zq,zy,C0,C0];simp only [D3,KK];omega) (by rw [K,X8 E,B0 G,Bf,Bf,<-Du,<-DX (J.drop k) 1,<-DX];rw [KR E];rfl)
    obtain ⟨gc,cc,rfl⟩:=af.form;refine AH Y<|Zn [0,3,11,18] ?_;refine Zx<|Zg<|Zm Y<|Zm Y<|Zp Y V<|Zh 0 Hs V rfl C4 Y<|Xe (Zs C4 Y Y V) ?_;refine Z0<|A8<|Zx<|Zg<|Zm Y<|Ya (n:=1) Y Y<|AH Y<|Zn [11,0,3] ?_;refine AZ (e':=[(11,_)]) (by exact ⟨i+1,_,_,rfl,⟨by omega,by rw [EO rs cs i x hx,<-ax];exact W⟩,rfl,rfl⟩)
   refine Bl<|AB<|Zx<|A1<|A3 Y<|Zq<|Bl<|Zg<|Zm Y<|Zm Y<|Zp Y V<|Zh 0 Hs V rfl C4 Y<|Zl DO Y ?_;refine Zm Y<|Ap (Bc B4 Ax Y Y A0)<|Ze (BR (by_:=40) (sz:=5) B4 (V:Tryz.prog.info? 98=some Tryz.t98) V rfl V rfl Y (Ba 5 _) Y (IK O k _ d9) Wo Wo (by exact fun u hu=>CE J u (HI hu)) A0 A0) ?_;rintro _ _ ⟨sa,X,rfl⟩;obtain ⟨ga,ca,rfl⟩:=X.form;refine Zm Y<|Ze (BR (by_:=40) (sz:=5) B4 (V:Tryz.prog.info? 98=some Tryz.t98) V rfl V rfl Y (X) Y (Uv 5 none 0) Wo Wo B3 A0 A0) ?_;rintro _ _ ⟨sb,Z,rfl⟩;obtain ⟨gb,cb,rfl⟩:=Z.form;refine Zm Y<|Ze (BR (by_:=40) (sz:=5) B4 (V:Tryz.prog.info? 98=some Tryz.t98) V rfl V rfl Y (Z) Y (Y2 (IL O k (J.length -k) (bn -k) A0) 1 (J.length -k -1) _ A0 A0) Wo Wo (by exact fun u hu=>CE J u (ID (ID hu))) A0 A0) ?_;rintro _ _ ⟨sc,af,rfl⟩;have W:=BH af (n':=(Ei J x).length) (xs':=Ac (Ei J x)) (by rw [K,X9 E,B0 G,zq,zq,zy,C0,C0];simp only [D3,KK];omega) (by rw [K,X9 E,B0 G,Bf,Bf,<-Du,<-DX (J.drop k) 1,<-DX];rfl)
   obtain ⟨gc,cc,rfl⟩:=af.form;refine AH Y<|Zn [0,3,11,18] ?_;refine Zx<|Zg<|Zm Y<|Zm Y<|Zp Y V<|Zh 0 Hs V rfl C4 Y<|Xe (Zs C4 Y Y V) ?_;refine Z0<|A8<|Zx<|Zg<|Zm Y<|Ya (n:=1) Y Y<|AH Y<|Zn [11,0,3] ?_;refine AZ (e':=[(11,_)]) (by exact ⟨i+1,_,_,rfl,⟨by omega,by rw [EO rs cs i x hx,<-ax];exact W⟩,rfl,rfl⟩)
  refine AB<|Zx<|A1<|A3 Y<|A1<|Zo Wh (Pa #[_,_,_,_,_,_,_,_,_,_] GC C5 Y) ?_;refine Xr [_] Y call63 Y V (Sd x) ?_;refine Zm Y<|Zd Y V<|Zd Y V<|Ze (Al Dd #[_,_,_,_,_])<|AF fun xb=>Xe (Xw Ax x.after.Ao5) ?_;refine AH Y<|Zn [0,3,11,13,14,15,16,17] ?_;refine Zx<|Zq<|A1<|Zm Y<|AD<|Ad Y (fun E=>?_) (fun E=>?_);·
   refine Zg<|Zo Wh (Pa #[_,_,_,_,_] C7 Ax Y) ?_;refine Ze (Af (vs:=[_]) (cs:=[_,_,_,_,_]) B4 Ax Dd Y V rfl V rfl V)<|AF fun gb=>A3 Y<|A1<|A3 Y<|Zq<|Bl<|Zg<|Zm Y<|Zm Y<|Zp Y V<|Zh 0 Hs V rfl C4 Y<|Zl DO Y ?_;refine Zm Y<|Ap (Bc B4 Ax Y Y A0)<|Ze (BR (by_:=40) (sz:=5) B4 (V:Tryz.prog.info? 98=some Tryz.t98) V rfl V rfl Y (Ba 5 _) Y (IK O k _ d9) Wo Wo (by exact fun u hu=>CE J u (HI hu)) A0 A0) ?_;rintro _ _ ⟨sa,X,rfl⟩;obtain ⟨ga,ca,rfl⟩:=X.form;refine Zm Y<|Ze (BR (by_:=40) (sz:=5) B4 (V:Tryz.prog.info? 98=some Tryz.t98) V rfl V rfl Y (X) Y (Dy 5 gb 1 1 98 (0,0) (Ac [x.after]) V) Wo Wo (by exact CE _) A0 A0) ?_;rintro _ _ ⟨sb,Z,rfl⟩;obtain ⟨gb,cb,rfl⟩:=Z.form;refine Zm Y<|Ze (BR (by_:=40) (sz:=5) B4 (V:Tryz.prog.info? 98=some Tryz.t98) V rfl V rfl Y (Z) Y (IL O k (J.length -k) _ A0) Wo Wo (by exact fun u hu=>CE J u (ID hu)) A0 A0) ?_;rintro _ _ ⟨sc,af,rfl⟩;have W:=BH af (n':=(Ei J x).length) (xs':=Ac (Ei J x)) (by rw [K,X8 E,As (by rw [G];decide),zq,zq,zy,C0,C0];simp only [D3,KK];omega) (by rw [K,X8 E,As (by rw [G];decide),Bf,Bf,<-Du,<-DX (J.drop k) 0,<-DX,Tr,NO];rw [KR E];rfl)
   obtain ⟨gc,cc,rfl⟩:=af.form;refine AH Y<|Zn [0,3,11,18] ?_;refine Zx<|Zg<|Zm Y<|Zm Y<|Zp Y V<|Zh 0 Hs V rfl C4 Y<|Xe (Zs C4 Y Y V) ?_;refine Z0<|A8<|Zx<|Zg<|Zm Y<|Ya (n:=1) Y Y<|AH Y<|Zn [11,0,3] ?_;refine AZ (e':=[(11,_)]) (by exact ⟨i+1,_,_,rfl,⟨by omega,by rw [EO rs cs i x hx,<-ax];exact W⟩,rfl,rfl⟩)
  refine Bl<|AB<|Zx<|A1<|A3 Y<|Zq<|Bl<|Zg<|Zm Y<|Zm Y<|Zp Y V<|Zh 0 Hs V rfl C4 Y<|Zl DO Y ?_;refine Zm Y<|Ap (Bc B4 Ax Y Y A0)<|Ze (BR (by_:=40) (sz:=5) B4 (V:Tryz.prog.info? 98=some Tryz.t98) V rfl V rfl Y (Ba 5 _) Y (IK O k _ d9) Wo Wo (by exact fun u hu=>CE J u (HI hu)) A0 A0) ?_;rintro _ _ ⟨sa,X,rfl⟩;obtain ⟨ga,ca,rfl⟩:=X.form;refine Zm Y<|Ze (BR (by_:=40) (sz:=5) B4 (V:Tryz.prog.info? 98=some Tryz.t98) V rfl V rfl Y (X) Y (Uv 5 none 0) Wo Wo B3 A0 A0) ?_;rintro _ _ ⟨sb,Z,rfl⟩;obtain ⟨gb,cb,rfl⟩:=Z.form;refine Zm Y<|Ze (BR (by_:=40) (sz:=5) B4 (V:Tryz.prog.info? 98=some Tryz.t98) V rfl V rfl Y (Z) Y (IL O k (J.length -k) _ A0) Wo Wo (by exact fun u hu=>CE J u (ID hu)) A0 A0) ?_;rintro _ _ ⟨sc,af,rfl⟩;have W:=BH af (n':=(Ei J x).length) (xs':=Ac (Ei J x)) (by rw [K,X9 E,As (by rw [G];decide),zq,zq,zy,C0,C0];simp only [D3,KK];omega) (by rw [K,X9 E,As (by rw [G];decide),Bf,Bf,<-Du,<-DX (J.drop k) 0,<-DX,Tr,NO];rfl)
  obtain ⟨gc,cc,rfl⟩:=af.form;refine AH Y<|Zn [0,3,11,18] ?_;refine Zx<|Zg<|Zm Y<|Zm Y<|Zp Y V<|Zh 0 Hs V rfl C4 Y<|Xe (Zs C4 Y Y V) ?_;refine Z0<|A8<|Zx<|Zg<|Zm Y<|Ya (n:=1) Y Y<|AH Y<|Zn [11,0,3] ?_;refine AZ (e':=[(11,_)]) (by exact ⟨i+1,_,_,rfl,⟨by omega,by rw [EO rs cs i x hx,<-ax];exact W⟩,rfl,rfl⟩)
 have ei:i=cs.length:=by omega
 subst ei;rw [G0]at ax;refine Aw<|Zt<|Zt<|AQ<|Zx<|A1<|Zm Y<|Zh 0 Ft V rfl A5 Y<|Zl AE Y ?_;refine Zp Y V<|Zh 1 Hs V rfl A5 Y<|Xe (Zs A5 Y Y V) ?_;refine AD<|A1<|A3 Y<|AA<|AC rfl dc Y (by exact .inl ⟨⟨l9,qa,I,by omega⟩,_,sw,rfl,by rw [<-ax];exact O,rfl⟩)
structure Bg where
 p:Int
 q:B7
 cap:Nat
 cs:List Chg
def Dl(l:List Bg):List A4:=l.flatMap (fun r=>[I4 r.p,.slice r.q r.cs.length r.cap])
def WP(l:List Bg):Prop:=∀r∈l,r.cs.length<=r.cap
def Cw(M:List AU)(v:A4)(l:List Bg):Prop:=∃p cap,v= .slice p l.length cap/\(l.length<=maxLen/\l.length<=cap)/\∀(i:Nat) (r:Bg),l[i]?=some r->Dq M (.slice r.q r.cs.length r.cap) r.cs/\∃g off cur T zz,p=some ⟨g,off,none⟩/\(g,Obj.cells cur T zz)∈M/\off+i*2+2<=cur.size/\cur.extract (off+i*2) (off+i*2+2)=#[I4 r.p,.slice r.q r.cs.length r.cap]
def Bd(l:List Bg):List AY:=l.foldl (fun rs r=>Dc rs r.cs) []
theorem Ew(l:List Bg)(r:Bg):Bd (l++[r])=Dc (Bd l) r.cs:=by unfold Bd;rw [RW];rfl
def DN(l:List Bg):Prop:=∀(i:Nat) (r:Bg),l[i]?=some r->Nt (Bd (l.take i)) (i:Int) r.p r.cs/\r.cs.length<=3
theorem U5{p rp:Int}(E:BL rs)(h:Nt rs p rp cs):BL (Dc rs cs)/\(Dc rs cs).length<=2000:=by
 have m:=Qg h.ok.ord;obtain ⟨g,_⟩:=Jr E m h.fit cs.length (B8 _);have h2:=OH E m h.fit cs.length (B8 _)
 rw [G0]at g h2;exact ⟨g,by have:=h.size;omega⟩
variable{l:List Bg}
theorem DN.rows(h:DN l):∀i,i<=l.length->BL (Bd (l.take i))/\(Bd (l.take i)).length<=2000
 |0,_=>⟨List.Pairwise.nil,C2 _⟩
 |i+1,hi=>by
  obtain ⟨r,g⟩:∃r,l[i]?=some r:=⟨_,zn A0⟩;have m:=DN.rows h i A0
  rw [Kx,g];show BL (Bd (l.take i++[r]))/\_
  rw [show(some r).toList=[r] from rfl,Ew];exact U5 m.1 (h i r g).1
theorem DN.all(h:DN l):BL (Bd l)/\(Bd l).length<=2000:=by
 have:=h.rows l.length (B8 _);rwa [G0]at this
theorem DN.snoc(h:DN l){r:Bg}(E:Nt (Bd l) (l.length:Int) r.p r.cs)(m:r.cs.length<=3):DN (l++[r]):=by
 intro i x hx;rw [iv]at hx;split at hx
 · rename_i hi
   rw [W3 A0];exact h i x hx
 · rename_i hi
   have g:=(zt.1 hx).1;simp only [FF]at g;have e:i=l.length:=by omega
   subst e;rw [S1]at hx;injection hx with hx
   subst hx;rw [Hi rfl];exact ⟨E,m⟩
theorem I9:∀(cs:List Chg),(D9 cs).length=cs.length*10
 |[]=>rfl
 |c::cs=>by
  have:=I9 cs;unfold D9 at*;rw [HF,zq,this,D3];simp;omega
theorem JU(a b:List Chg):D9 (a++b)=D9 a++D9 b:=by unfold D9;rw [Ly]
theorem UW(cs:List Chg)(k:Nat):(D9 cs).take (k*10)=D9 (cs.take k):=by
 rcases DP cs.length k with h|h
 · rw [HK (by rw [I9];omega),HK A0]
 · have e:D9 cs=D9 (cs.take k)++D9 (cs.drop k):=by rw [<-JU,HW]
   rw [e,Hi (by rw [I9,zy];omega)]
theorem UX(cs:List Chg)(k:Nat):(D9 cs).drop (k*10)=D9 (cs.drop k):=by
 rcases DP cs.length k with h|h
 · rw [P2 (by rw [I9];omega),P2 A0];rfl
 · have e:D9 cs=D9 (cs.take k)++D9 (cs.drop k):=by rw [<-JU,HW]
   rw [e,S0 (by rw [I9,zy];omega)]
theorem XU(cs:List Chg):∀u∈D9 cs,u.oneCell'=true:=by
 intro u g;unfold D9 at g;obtain ⟨r,_,h⟩:=N6.1 g;simp only [E4,Mu,N3]at h;rcases h with rfl|rfl|rfl|rfl|rfl|rfl|rfl|rfl|rfl|rfl<;>rfl
theorem rR{cur:AN}{j:Nat}(h:CG cur 0 (D9 cs))(hy:cs[j]?=some y):cur[j*10]?=some (I4 y.t)/\cur[j*10+1]?=some (I4 y.k):=by
 have m:=Gq (fun c:Chg=>[I4 c.t,I4 c.k,.bool c.had,I4 c.o.a,I4 c.o.b,I4 c.o.c,.bool c.has,I4 c.n.a,I4 c.n.b,I4 c.n.c]) 10 (fun _=>rfl) cs j y hy;have e:∀q,((D9 cs).drop (j*10)).take 10=[I4 y.t,I4 y.k,.bool y.had,I4 y.o.a,I4 y.o.b,I4 y.o.c,.bool y.has,I4 y.n.a,I4 y.n.b,I4 y.n.c]->q<10->(D9 cs)[j*10+q]?=([I4 y.t,I4 y.k,.bool y.had,I4 y.o.a,I4 y.o.b,I4 y.o.c,.bool y.has,I4 y.n.a,I4 y.n.b,I4 y.n.c]:List A4)[q]?:=fun q E G=>by
  rw [<-E,Gk,B0 G,Hh]
 have a0:=h.get (j*10+0) _ ((e 0 m A0).trans rfl);have g:=h.get (j*10+1) _ ((e 1 m A0).trans rfl)
 rw [C6]at a0 g;exact ⟨a0,g⟩
theorem aS{M:List AU}(h:Dq M v cs)(s:List AU):Dq (M++s) v cs:=by
 obtain ⟨p,cap,hv,I,G⟩:=h;refine ⟨p,cap,hv,I,fun i c hc=>?_⟩;obtain ⟨g,off,cur,T,zz,m,h2,E⟩:=G i c hc;exact ⟨g,off,cur,T,zz,m,E3 _ h2,E⟩
theorem PY{M:List AU}(h:Dq M v cs)(s:List AU):Dq (s++M) v cs:=by
 obtain ⟨p,cap,hv,I,G⟩:=h;refine ⟨p,cap,hv,I,fun i c hc=>?_⟩;obtain ⟨g,off,cur,T,zz,m,h2,E⟩:=G i c hc;exact ⟨g,off,cur,T,zz,m,DA _ h2,E⟩
def Pm(M:List AU)(v:A4)(xs:List (List Int)):Prop:=∃p cap,v= .slice p xs.length cap/\(xs.length<=maxLen/\xs.length<=cap)/\∀(i:Nat) (z:List Int),xs[i]?=some z->z.length=6/\(∀n∈z,-9223372036854775808<=n/\n<=9223372036854775807)/\∃g off cur T zz,p=some ⟨g,off,none⟩/\(g,Obj.cells cur T zz)∈M/\∀(j:Nat) (n:Int),z[j]?=some n->cur[off+i*6+j]?=some (I4 n)
theorem NJ{G:List AU}(h:BZ 2 81 v l.length (Dl l) s)(hn:l.length<=maxLen)(J:∀r∈l,Dq G (.slice r.q r.cs.length r.cap) r.cs):Cw (s++G) v l:=by
 obtain ⟨b,cap,rfl⟩:=h.form;refine ⟨b,cap,V,⟨hn,Ex h⟩,fun i r E=>⟨PY (J r (Cd E)) s,?_⟩⟩;obtain ⟨g,I,cur,z,hv,rfl,K,m⟩:=Ir h i (zt.1 E).1;injection hv with hv1 hv2 hv3
 refine ⟨g,0,cur,81,z,hv1,E3 _ (D0.2 V),by omega,?_⟩;rw [C6];apply MA.1;rw [m];exact Gq _ 2 (fun _=>rfl) l i r E
theorem Ow(a b:List Bg):Dl (a++b)=Dl a++Dl b:=by unfold Dl;rw [Ly]
theorem bX:Bz prog 24 #[] [] (fun r H'=>∃sp,r=I5 sp/\H'=[[(sp,.cells #[.slice none 0 0,I4 0] 130 (0,0))]]):=by
 refine Se func24 ntmps24 [] ?_;intro u R;refine A1<|A3 Y<|A1<|Zv (BQ (vs:=[]) (cs:=#[_,_]) Y (Aa (pl:=#[(0,1),(1,1)]) zeroValue130 Hs (fun _=>by kernel_rfl) V))<|Ze (Bx #[_,_])<|AF fun sp=>A3 Y<|AA<|AC V results24 Y (by exact ⟨sp,V,V⟩)
end Go.Proofs.YtlkdhannldcfbaaGreatDoor
