/- The program's layer 3: ValidChange. -/
import Derived.Test.YthhakdmlpngcmaaGreatDoorLg4
set_option linter.unusedVariables false
set_option linter.unusedSimpArgs false
namespace Go.Proofs.YthhakdmlpngcmaaGreatDoor
open Go.Proofs.Tryz
open Go Go.RowKit Gw
set_option maxRecDepth 100000
attribute [local irreducible] Gw.At Gw.Nx Gw.Ops
def zn(c:Chg):Bool:=if c.had then decide c.before.ok else decide (c.o=V3.zero)
def zo(c:Chg):Bool:=if c.has then decide c.after.ok else decide (c.n=V3.zero)
theorem S9(c:Chg):BJ prog 150 #[.agg c.A70,.bool c.had,.agg #[I4 c.o.a,I4 c.o.b,I4 c.o.c]] [] (.bool (zn c)):=YL c c.had c.o
theorem SA(c:Chg):BJ prog 150 #[.agg c.A70,.bool c.has,.agg #[I4 c.n.a,I4 c.n.b,I4 c.n.c]] [] (.bool (zo c)):=YL c c.has c.n
variable{c:Chg}
theorem LK(g:c.had≠c.has\/(c.had=true/\c.o≠c.n)):decide c.ok=(zn c&&zo c):=by
 unfold zn zo;cases h1:c.had<;>cases h2:c.has<;>simp_all [Chg.ok]
 all_goals (by_cases m:c.before.ok<;>by_cases B:c.after.ok<;>by_cases G:c.o=V3.zero<;>by_cases I:c.n=V3.zero<;>simp_all)
theorem vL(h:c.had=c.has)(h2:c.had=true->c.o=c.n):decide c.ok=false:=by
 cases h1:c.had<;>simp_all [Chg.ok]
 all_goals (rw [<-h]at*;simp_all)
set_option maxHeartbeats 4000000 in
theorem VC(c:Chg):BJ prog 94 #[.agg c.A70] [] (.bool (decide c.ok)):=by
 refine Se func94 ntmps94 [0] ?_;intro u R;refine A1<|Ze (Bx #[_,_,_,_,_,_,_,_,_,_])<|AG fun K=>A5 Y<|A1<|Zh 2 C3 V rfl DM Y<|Zl Fk Y<|Zh 6 C3 V rfl DM Y<|Zl Fk Y<|Zv (JF N6 Y Y)<|Zm Y<|Ao (t:=9) Y V (fun g=>?_) (fun g=>?_);·
  refine A7 Y V<|A7 Y V<|A7 Y V<|A7 Y V<|A7 Y V<|A7 Y V<|A7 Y V<|A7 Y V<|A7 Y V<|Zv (AX Y Y)<|AW Y<|Zn [1,3] ?_;refine Zx<|A1<|Zm Y<|Zm Y<|Dw Y Wh (Pa #[_,_,_,_,_,_,_,_,_,_] GF CC Y) V rfl<|Yf 2 C3 V rfl DM Y<|Yl Fk Y<|Yf 3 C3 V rfl Dg Y<|Dw Y Wh (Pa #[_,_,_] HN Dg Y) V rfl<|Xr [_,_,_] Y call150 Y V (S9 c)<|Zv (AX Y Y)<|Zm Y<|Ah (t:=29) Y V (fun G=>?_) (fun G=>?_);·
   refine Dw Y Wh (Pa #[_,_,_,_,_,_,_,_,_,_] GF CC Y) V rfl<|Yf 6 C3 V rfl DM Y<|Yl Fk Y<|Yf 7 C3 V rfl Dg Y<|Dw Y Wh (Pa #[_,_,_] HN Dg Y) V rfl<|Xr [_,_,_] Y call150 Y V (SA c)<|Zv (AX Y Y)<|AW Y<|Zn [2] ?_;refine Zx<|AJ<|AP rfl eS Y (by exact ⟨by rw [LK (.inl g),G,V1],rfl⟩)
  refine A7 Y V<|A7 Y V<|A7 Y V<|A7 Y V<|A7 Y V<|A7 Y V<|Zv (AL Y Y)<|AW Y<|Zn [2] ?_;refine Zx<|AJ<|AP rfl eS Y (by exact ⟨by rw [LK (.inl g),G,Bool.false_and],rfl⟩)
 refine Yf 2 C3 V rfl DM Y<|Yl Fk Y<|Zf Y Y<|Ah (t:=12) Y V (fun m=>?_) (fun m=>?_);·
  refine Yf 3 C3 V rfl Dg Y<|Dw Y Wh (Pa #[_,_,_] HN Dg Y) V rfl<|Yf 7 C3 V rfl Dg Y<|Dw Y Wh (Pa #[_,_,_] HN Dg Y) V rfl<|Yg (Ku AF HM D4 AH AE Y Y) ?_;refine Yg (AX Y Y)<|Zv (AL Y Y)<|AW Y<|Zn [1,3] ?_;refine Zx<|A1<|Zm Y<|Zm Y<|Ao (t:=21) Y V (fun B=>?_) (fun B=>?_);·
   refine Dw Y Wh (Pa #[_,_,_,_,_,_,_,_,_,_] GF CC Y) V rfl<|Yf 2 C3 V rfl DM Y<|Yl Fk Y<|Yf 3 C3 V rfl Dg Y<|Dw Y Wh (Pa #[_,_,_] HN Dg Y) V rfl<|Xr [_,_,_] Y call150 Y V (S9 c)<|Zv (AX Y Y)<|Zm Y<|Ah (t:=29) Y V (fun I=>?_) (fun I=>?_);·
    refine Dw Y Wh (Pa #[_,_,_,_,_,_,_,_,_,_] GF CC Y) V rfl<|Yf 6 C3 V rfl DM Y<|Yl Fk Y<|Yf 7 C3 V rfl Dg Y<|Dw Y Wh (Pa #[_,_,_] HN Dg Y) V rfl<|Xr [_,_,_] Y call150 Y V (SA c)<|Zv (AX Y Y)<|AW Y<|Zn [2] ?_;refine Zx<|AJ<|AP rfl eS Y (by exact ⟨by rw [LK (.inr ⟨m,B⟩),I,V1],rfl⟩)
   refine A7 Y V<|A7 Y V<|A7 Y V<|A7 Y V<|A7 Y V<|A7 Y V<|Zv (AL Y Y)<|AW Y<|Zn [2] ?_;refine Zx<|AJ<|AP rfl eS Y (by exact ⟨by rw [LK (.inr ⟨m,B⟩),I,Bool.false_and],rfl⟩)
  refine A7 Y V<|A7 Y V<|A7 Y V<|A7 Y V<|A7 Y V<|A7 Y V<|Zv (AL Y Y)<|Zm Y<|A7 Y V<|A7 Y V<|A7 Y V<|A7 Y V<|A7 Y V<|A7 Y V<|Zv (AL Y Y)<|AW Y<|Zn [2] ?_;refine Zx<|AJ<|AP rfl eS Y (by exact ⟨by rw [vL (I0.1 g) (fun _=>I0.1 B)],rfl⟩)
 refine A7 Y V<|A7 Y V<|A7 Y V<|A7 Y V<|A7 Y V<|Yg (AL Y Y)<|Zv (AL Y Y)<|AW Y<|Zn [1,3] ?_;refine Zx<|A1<|Zm Y<|Zm Y<|A7 Y V<|A7 Y V<|A7 Y V<|A7 Y V<|A7 Y V<|A7 Y V<|Zv (AL Y Y)<|Zm Y<|A7 Y V<|A7 Y V<|A7 Y V<|A7 Y V<|A7 Y V<|A7 Y V<|Zv (AL Y Y)<|AW Y<|Zn [2] ?_;refine Zx<|AJ<|AP rfl eS Y (by exact ⟨by rw [vL (I0.1 g) (fun J=>by rw [m]at J;cases J)],rfl⟩)
theorem vi(h:c.ok):0<=c.t:=by
 obtain ⟨B,h2,_,_⟩:=h;have I:c.had=true->c.before.ok:=fun g=>aq fun m=>h2 (.inl ⟨g,m⟩)
 have G:c.has=true->c.after.ok:=fun g=>aq fun m=>h2 (.inr ⟨g,m⟩);cases e1:c.had with
 |true=>have:=(I e1).2.1.1;rw [PP e1]at this;exact this
 |false=>
  cases e2:c.has with
  |true=>have:=(G e2).2.1.1;rw [LU e2]at this;exact this
  |false=>exact absurd (.inl ⟨by simp [e1],by simp [e2]⟩) B
variable{cs:List Chg}{i:Nat}{x:Chg}
theorem XK{p:Int}{y:Chg}(B:i=0/\y.t=-1\/0<i/\cs[i -1]?=some y)(h:EK p cs)(m:cs[i]?=some x):y.lt x:=by
 rcases B with⟨h0,g⟩|⟨h0,g⟩
 · left;have:=vi (h.all i x m);omega
 · exact h.ord (i -1) y x g (by rw [show i -1+1=i by omega];exact m)
theorem jT{y:Chg}(m:i=0/\y.t=-1\/0<i/\cs[i -1]?=some y)(h:y.lt x):i=0\/∃y,cs[i -1]?=some y/\y.lt x:=by
 rcases m with⟨h0,g⟩|⟨h0,g⟩
 · exact .inl h0
 · exact .inr ⟨y,g,h⟩
theorem Ph(p:Int)(q:B8)(cap:Nat)(cs:List Chg)(M:List A9)(hO:Cv M (.slice q cs.length cap) cs):BJ prog 44 #[.agg #[I4 p,.slice q cs.length cap]] [M] (.bool (decide (EK p cs))):=by
 have bn:=mL;obtain ⟨p9,ax,e9,cu,hg⟩:=hO;injection e9 with e91 e92 e93
 subst e91 e93;refine Se func44 ntmps44 [0] ?_;intro u R;refine A1<|Ze (Bx #[_,_])<|AG fun b1=>A5 Y<|Zq<|A1<|Zh 0 HE V rfl AE Y<|Zl AH Y<|Ze (Ai (vs:=[_]) (cs:=[_]) DE AE HJ Y V rfl V rfl V)<|AG fun b2=>Xr [_,_,_] Y call93 Y V (Km _ 0 1 _ _ _ _ _ p V)<|Zv (DD Y)<|Zm Y<|Ao (t:=11) Y V (fun hp=>?_) (fun hp=>?_);·
  refine A7 Y V<|A7 Y V<|A7 Y V<|A7 Y V<|A7 Y V<|A7 Y V<|Zv (AX Y Y)<|Z0<|Zn [1,18] ?_;refine Zx<|DT Y<|A1<|A5 Y<|AJ<|Zt<|AP rfl eV Y (by exact ⟨by rw [Cl (fun h9:EK p cs=>by have G:=h9.pos;have J:=h9.len;exact hp G)],rfl⟩)
 refine Yf 1 HE V rfl MA Y<|Yl OK Y<|Yg (Ac Gk Y)<|Ze (Ai (vs:=[_]) (cs:=[_]) DE AE HJ Y V rfl V rfl V)<|AG fun b3=>Xr [_,_,_] Y call93 Y V (Km _ 0 1 _ _ _ _ _ (cs.length:Int) V)<|Yg (DD Y)<|Zv (AL Y Y)<|Z0<|Zn [1,18] ?_;refine Zx<|Aw Y (fun hl=>?_) (fun hl=>?_);·
  refine A1<|A5 Y<|AJ<|Zt<|AP rfl eV Y (by exact ⟨by rw [Cl (fun h9:EK p cs=>by have G:=h9.pos;have J:=h9.len;(apply hl;omega))],rfl⟩)
 refine AC<|Zx<|A1<|Zv (BM (vs:=[(0,_)]) (cs:=#[_,_,_,_,_,_,_,_,_,_]) Y (AY (pl:=#[(0,1),(1,1),(2,1),(3,3),(6,1),(7,3)]) LS C3 (fun _=>by kernel_rfl) V))<|Ze (Al LS #[_,_,_,_,_,_,_,_,_,_])<|AG fun lb=>Xe (BL CC Y Y (by(simp [Value.oneCell',Value.cells];done)) Wu B0 FA Wn (by exact BC _))<|A6<|Zq<|A1<|Zh 1 HE rfl rfl MA Y<|Zl OK Y<|Zv (Ac Gk Y)<|Zm Y<|A6<|AQ<|Zb [23,3,21,22] ?_;refine BI (e0:=[(23,_)]) (fun m e H=>∃(i:Nat) (y:Chg),m=cs.length -i/\(i<=cs.length/\(∀(j:Nat) (c:Chg),j<i->cs[j]?=some c->c.ok)/\(∀(j:Nat) (b c:Chg),j+1<i->cs[j]?=some b->cs[j+1]?=some c->b.lt c)/\(i=0/\y.t=-1\/0<i/\cs[i -1]?=some y))/\e=[(23,I4 (i:Int))]/\H=[[(lb,.cells y.A70 74 (0,0))]]) (by exact ⟨0,⟨-1,0,false,V3.zero,false,V3.zero⟩,V,⟨by omega,by intro j c hj;omega,by intro j b c hj;omega,.inl ⟨V,V⟩⟩,V,V⟩) Wp ?_;rintro _ _ _ ⟨i,y,rfl,⟨hi,K,O,B⟩,rfl,rfl⟩;refine A1<|Zv (Ay Y Y)<|A6<|Zq<|Aw Y (fun W=>?_) (fun W=>?_);·
  obtain ⟨x,I⟩:∃x,cs[i]?=some x:=⟨_,BT W⟩;obtain ⟨g,off,cur,T,zz,rfl,hm,cO,X⟩:=hg i x I;refine AC<|Zx<|Zq<|AQ<|A1<|BU (Ae Gk CC Y Y A0)<|CS (cs:=[(g,.cells cur T zz)]) (by simp [hm]) (AB (cs:=x.A70) GF CC Y A0 X) V rfl<|Ze (Al LS #[_,_,_,_,_,_,_,_,_,_])<|AG fun b5=>Xe (Xw CC _)<|A6<|Zq<|A1<|Zo Wh (Pa #[_,_,_,_,_,_,_,_,_,_] GF CC Y)<|Xr [_] Y call94 Y V (VC x)<|Zv (DD Y)<|Zm Y<|Ao (t:=30) Y V (fun U=>?_) (fun U=>?_);·
   refine A7 Y V<|A7 Y V<|A7 Y V<|A7 Y V<|A7 Y V<|Zv (AX Y Y)<|Zm Y<|A7 Y V<|A7 Y V<|A7 Y V<|A7 Y V<|A7 Y V<|A7 Y V<|A7 Y V<|A7 Y V<|A7 Y V<|A7 Y V<|A7 Y V<|A7 Y V<|Zv (AX Y Y)<|Z0<|Zn [3,5,21,22,23,50] ?_;refine Zx<|DT Y<|A1<|A5 Y<|AJ<|Zt<|Ab<|Zt<|Zt<|Ab<|Zt<|AP rfl eV Y (by exact ⟨by rw [Cl (fun h9:EK p cs=>by have G:=XK B h9 I;have J:=h9.all i x I;unfold Chg.lt at G;exact U J)],rfl⟩)
  refine Yf 0 C3 V rfl AE Y<|Yl AH Y<|Yf 0 C3 V rfl AE Y<|Yl AH Y<|Yg (EH Y Y)<|Zv (AL Y Y)<|Zm Y<|Ao (t:=37) Y V (fun Z=>?_) (fun Z=>?_);·
   refine A7 Y V<|A7 Y V<|A7 Y V<|A7 Y V<|A7 Y V<|A7 Y V<|A7 Y V<|A7 Y V<|A7 Y V<|A7 Y V<|A7 Y V<|A7 Y V<|Zv (AX Y Y)<|Z0<|Zn [3,5,21,22,23,50] ?_;refine Zx<|DT Y<|A1<|A5 Y<|AJ<|Zt<|Ab<|Zt<|Zt<|Ab<|Zt<|AP rfl eV Y (by exact ⟨by rw [Cl (fun h9:EK p cs=>by have G:=XK B h9 I;have J:=h9.all i x I;unfold Chg.lt at G;omega)],rfl⟩)
  refine Yf 0 C3 V rfl AE Y<|Yl AH Y<|Yf 0 C3 V rfl AE Y<|Yl AH Y<|Yg (CP Y Y)<|Zf Y Y<|Ao (t:=43) Y V (fun af=>?_) (fun af=>?_);·
   refine Yf 1 C3 V rfl AE Y<|Yl AH Y<|Yf 1 C3 V rfl AE Y<|Yl AH Y<|Yg (NJ Y Y)<|Yg (AX Y Y)<|Zv (AL Y Y)<|Z0<|Zn [3,5,21,22,23,50] ?_;refine Zx<|Aw Y (fun ho=>?_) (fun ho=>?_);·
    refine A1<|A5 Y<|AJ<|Zt<|Ab<|Zt<|Zt<|Ab<|Zt<|AP rfl eV Y (by exact ⟨by rw [Cl (fun h9:EK p cs=>by have G:=XK B h9 I;have J:=h9.all i x I;unfold Chg.lt at G;omega)],rfl⟩)
   refine AC<|Zx<|Zg<|Zo Wh (Pa x.A70 GF CC Y)<|Xe (Xw CC _)<|Z0<|A8<|Zx<|Zg<|Ya (n:=1) Y Y<|Zm Y<|Z0<|Zn [23,3,21,22] ?_;refine Aa (e':=[(23,_)]) (by exact ⟨i+1,x,V,⟨by omega,MX K I (I0.1 U),M3 O I (jT B (by unfold Chg.lt;omega)),.inr ⟨by omega,I⟩⟩,V,V⟩)
  refine A7 Y V<|A7 Y V<|A7 Y V<|A7 Y V<|A7 Y V<|Yg (AL Y Y)<|Zv (AL Y Y)<|Z0<|Zn [3,5,21,22,23,50] ?_;refine Zx<|D9 Y<|AC<|Zx<|Zg<|Zo Wh (Pa x.A70 GF CC Y)<|Xe (Xw CC _)<|Z0<|A8<|Zx<|Zg<|Ya (n:=1) Y Y<|Zm Y<|Z0<|Zn [23,3,21,22] ?_;refine Aa (e':=[(23,_)]) (by exact ⟨i+1,x,V,⟨by omega,MX K I (I0.1 U),M3 O I (jT B (by unfold Chg.lt;omega)),.inr ⟨by omega,I⟩⟩,V,V⟩)
 refine BD<|Zt<|Zt<|AV<|Zx<|A1<|A5 Y<|AJ<|AP rfl eV Y (by exact ⟨by rw [DG (⟨by omega,by omega,fun j c hc=>K j c (by have:=(C4.1 hc).1;omega) hc,fun j b c hb hc=>O j b c (by have:=(C4.1 hc).1;omega) hb hc⟩:EK p cs)],rfl⟩)
def Hr(ls:List Int):List UInt8:=ls.flatMap U3
theorem Hq:∀(ls:List Int),(∀n∈ls,-4611686018427387903<=n/\n<=4611686018427387903)->(Hr ls).length<=ls.length*9
 |[],_=>by simp [Hr]
 |n::ls,h=>by
  have B:=Hq ls (fun m g=>h m (by simp [g]));have h2:=PN n (h n B4).1 (h n B4).2
  unfold Hr at*;rw [HW,Bm,E3];omega
theorem Yc(ls:List Int)(n:Int):Hr (ls++[n])=Hr ls++U3 n:=by simp [Hr]
theorem qO(g off cap:Nat)(cur:AK)(T:AM)(z:Nat×Nat)(ls:List Int)(I:LW cur off ls)(hn:ls.length<=1073741824)(O:∀n∈ls,-4611686018427387903<=n/\n<=4611686018427387903):
 BJ prog 235 #[.slice (some ⟨g,off,none⟩) ls.length cap] [[(g,.cells cur T z)]] (.string (str (Hr ls))):=by
 have X:=mL;refine Se func235 ntmps235 [0] ?_;intro u R;refine A1<|A5 Y<|A1<|A5 Y<|Zq<|A1<|Zm Y<|Zv (Ac DE Y)<|Zm Y<|A6<|AQ<|Zb [3,10,8,9] ?_;refine BI (e0:=[(3,_),(10,_)]) (fun m e H=>∃(i:Nat),m=ls.length -i/\(i<=ls.length)/\e=[(3,.string (str (Hr (ls.take i)))),(10,I4 (i:Int))]/\H=[]) (by exact ⟨0,V,C7 _,V,V⟩) Wp ?_;rintro _ _ _ ⟨i,rfl,hi,rfl,rfl⟩;refine A1<|Zv (Ay Y Y)<|A6<|Zq<|Aw Y (fun G=>?_) (fun G=>?_);·
  obtain ⟨x,K⟩:∃x,ls[i]?=some x:=⟨_,BT G⟩;have B:=O x (DQ K)
  have J:ls.take (i+1)=ls.take i++[x]:=by rw [PF,K];rfl
  have Z:=Hq (ls.take i) (fun m W=>O m (On W));have af:(ls.take i).length<=i:=List.length_take_le ..
  have U:=PN x B.1 B.2;refine AC<|Zx<|Zq<|AQ<|A1<|BU (CG DE AE Y Y A0)<|Zl AH Y (hv:=by exact I i x K)<|A5 Y<|A1<|Zm Y<|Xr [_] Y call190 Y rfl (Qb x B.1 B.2)<|Zm Y<|Zd Y rfl<|Zd Y rfl<|Za Y<|A5 Y<|Zg<|Zm Y<|Zm Y<|BU (Ml Y Y (by rw [Gq,Gq];omega))<|AW Y<|Zn [3,8,9,10] ?_;refine A8<|Zx<|Zg<|Ya (n:=1) Y Y<|Zm Y<|Z0<|Zn [3,10,8,9] ?_;refine Aa (e':=[(3,_),(10,_)]) (by exact ⟨i+1,rfl,by omega,by rw [J,Yc,<-RI],rfl⟩)
 refine BD<|Zt<|Zt<|AV<|Zx<|A1<|Zm Y<|A5 Y<|AJ<|AP rfl results235 Y (by exact ⟨by rw [Hx A0],rfl⟩)
structure Ir where
 p:Int
 ch:List UInt8
 st:List UInt8
variable{sz:Nat}{e:AM}{v:A4}{xs:List A4}{s:List A9}
theorem KE{k:Nat}(h:Bd sz e v k xs s)(i:Nat)(hi:i<k):∃g cap cur z,v=I6 g k cap/\s=[(g,.cells cur e z)]/\i*sz+sz<=cur.size/\(cur.extract (i*sz) (i*sz+sz)).toList=(xs.drop (i*sz)).take sz:=by
 obtain ⟨K,⟨_,h0,_⟩|⟨g,cap,cur,z,rfl,rfl,B,hc,G,m,J⟩⟩:=h;· omega
 · have I:i*sz+sz<=k*sz:=by
    have:=Tr sz (Nat.succ_le_of_lt hi);rw [Nat.succ_mul]at this;exact this
   have h2:k*sz<=cap*sz:=Tr sz B;refine ⟨g,cap,cur,z,V,V,by omega,?_⟩;rw [<-m,Array.toList_extract,r3,fX,V0];congr 1;omega
def Af(rs:List AR):List A4:=rs.flatMap (fun r=>[I4 r.t,I4 r.k,I4 r.v.a,I4 r.v.b,I4 r.v.c])
theorem J2{α:Type}(f:α->List A4)(sz:Nat)(g:∀a,(f a).length=sz):∀(l:List α) (i:Nat) (a:α),l[i]?=some a->((l.flatMap f).drop (i*sz)).take sz=f a
 |x::l,0,a,h=>by
  injection h with h;subst h
  rw [ff,Pr,HW,cJ (by rw [g];exact CI _),Hx (by rw [g];exact CI _)]
 |x::l,i+1,a,h=>by
  have e1:(f x++l.flatMap f).drop sz=l.flatMap f:=by
   have m:=List.drop_left (l₁:=f x) (l₂:=l.flatMap f);rwa [g]at m
  rw [HW,Nat.succ_mul,Nat.add_comm,<-cA,e1];exact J2 f sz g l i a h
variable{rs:List AR}
theorem Pk(h:Bd 5 e v rs.length (Af rs) s)(I:rs.length<=maxLen):iP s v rs:=by
 obtain ⟨b,cap,rfl⟩:=h.form;refine ⟨b,cap,V,I,fun i r G=>?_⟩;obtain ⟨g,B,cur,z,hv,rfl,J,m⟩:=KE h i (C4.1 G).1;injection hv with hv1 hv2 hv3
 refine ⟨g,0,cur,e,z,hv1,C5.2 V,by omega,?_⟩;rw [D3];apply I2.1;rw [m];exact J2 _ 5 (fun _=>rfl) rs i r G
def Cm(cs:List Chg):List A4:=cs.flatMap (fun c=>[I4 c.t,I4 c.k,.bool c.had,I4 c.o.a,I4 c.o.b,I4 c.o.c,.bool c.has,I4 c.n.a,I4 c.n.b,I4 c.n.c])
theorem QO{rs:List Chg}(h:Bd 10 e v rs.length (Cm rs) s)(I:rs.length<=maxLen):Cv s v rs:=by
 obtain ⟨b,cap,rfl⟩:=h.form;refine ⟨b,cap,V,I,fun i r G=>?_⟩;obtain ⟨g,B,cur,z,hv,rfl,J,m⟩:=KE h i (C4.1 G).1;injection hv with hv1 hv2 hv3
 refine ⟨g,0,cur,e,z,hv1,C5.2 V,by omega,?_⟩;rw [D3];apply I2.1;rw [m];exact J2 _ 10 (fun _=>rfl) rs i r G
theorem Lv:∀(rs:List AR) (t k:Int),BP rs->∃A B,rs=A++B/\A.length=E8 rs t k/\(∀r∈A,r.lt2 t k)/\(∀r∈B,¬r.lt2 t k)
 |[],t,k,_=>⟨[],[],rfl,rfl,by simp,by simp⟩
 |r::rs,t,k,hs=>by
  have m:=PC.1 hs;by_cases h:r.lt2 t k
  · obtain ⟨A,B,G,h2,I,J⟩:=Lv rs t k m.2
    refine ⟨r::A,B,by rw [G];rfl,?_,?_,J⟩
    · unfold E8 at*
      rw [PA,Ax (by simpa using h),E3,E3,h2]
    · intro x g
      rcases DB.1 g with rfl|g
      · exact h
      · exact I x g
  · refine ⟨[],r::rs,rfl,?_,by simp,?_⟩
    · unfold E8
      rw [PA,As (by simpa using h)]
    · intro x g hc
      rcases DB.1 g with rfl|g
      · exact h hc
      · exact h (QE (m.1 x g) hc)
variable{k t:Int}
theorem Vp{r:AR}(h:r.is t k):¬r.lt2 t k:=by unfold AR.is AR.lt2 at*;omega
theorem KU{r:AR}(m:BP rs)(K:r∈rs)(h:r.is t k):Fy rs t k=(r,true):=by
 obtain ⟨A,B,g,h2,O,U⟩:=Lv rs t k m;have J:r∈B:=by
  rw [g]at K;rcases C2.1 K with h9|h9
  · exact absurd (O r h9) (Vp h)
  · exact h9
 cases B with
 |nil=>cases J
 |cons b B=>
  have X:b=r:=by
   rcases DB.1 J with h9|h9
   · exact h9.symm
   · exfalso
     have G:BP (b::B):=by rw [g]at m;exact (P0.1 m).2.1
     have I:=(PC.1 G).1 r h9;have W:=U b B4
     unfold AR.is at h;rw [h.1,h.2]at I;exact W I
  subst X;have Z:rs[E8 rs t k]?=some b:=by rw [<-h2,g,RM (CI _),T5];rfl
  unfold Fy;rw [Z];simp only;rw [Ax h]
theorem QH(h:∀r∈rs,¬r.is t k):Fy rs t k=(AR.zero,false):=by
 unfold Fy;split
 · rename_i r hr
   rw [As (h r (DQ hr))]
 · rfl
theorem JM(h:(Fy rs t k).2=true):∃r∈rs,r.is t k/\rs[E8 rs t k]?=some r/\Fy rs t k=(r,true):=by
 unfold Fy at*;split at h
 · rename_i r hr
   split at h
   · rename_i hi
     exact ⟨r,DQ hr,hi,hr,by rw [Ax hi]⟩
   · cases h
 · cases h
def GX(rs:List AR)(c:Chg):Prop:=(Fy rs c.t c.k).2=c.had/\((Fy rs c.t c.k).2=true->(Fy rs c.t c.k).1.v=c.o)
def Nh(c:Chg):List AR:=if c.has then [⟨c.t,c.k,c.n⟩]else []
def EL(rs:List AR)(c:Chg):List AR:=rs.take (E8 rs c.t c.k)++Nh c++(rs.drop (E8 rs c.t c.k)).drop (if c.had then 1 else 0)
theorem M6{x:AR}:x∈Nh c↔c.has=true/\x=⟨c.t,c.k,c.n⟩:=by
 unfold Nh;cases c.has<;>simp
theorem Py(K:BP rs)(hf:GX rs c):∃A B,EL rs c=A++Nh c++B/\(∀x,x∈rs↔x∈A\/x∈B\/(x∈rs/\x.is c.t c.k))/\BP A/\BP B/\(∀r∈A,r.lt2 c.t c.k)/\(∀r∈B,c.t<r.t\/c.t=r.t/\c.k<r.k)/\rs.length=A.length+B.length+(if c.had then 1 else 0):=by
 obtain ⟨A,B,g,h2,h3,h4⟩:=Lv rs c.t c.k K;have U:BP A:=by rw [g]at K;exact (P0.1 K).1
 have W:BP B:=by rw [g]at K;exact (P0.1 K).2.1
 have ax:rs.take (E8 rs c.t c.k)=A:=by rw [<-h2,g,HX rfl]
 have Z:rs.drop (E8 rs c.t c.k)=B:=by rw [<-h2,g,X1 rfl]
 unfold EL;rw [ax,Z];have G:∀x∈B,¬x.is c.t c.k->c.t<x.t\/c.t=x.t/\c.k<x.k:=fun x I hn=>by
  have J:=h4 x I;unfold AR.lt2 at J;unfold AR.is at hn;omega
 cases hh:c.had with
 |false=>
  have af:∀r∈rs,¬r.is c.t c.k:=fun r O hi=>by
   have J:=hf.1;rw [KU K O hi,hh]at J;cases J
  refine ⟨A,B,by simp,fun x=>?_,U,W,h3,fun r O=>G r O (af r (by rw [g];exact G2 _ O)),by rw [g];simp⟩;rw [g,C2];constructor
  · rintro (h|h)
    · exact .inl h
    · exact .inr (.inl h)
  · rintro (h|h|⟨h,_⟩)
    · exact .inl h
    · exact .inr h
    · exact h
 |true=>
  obtain ⟨r,O,hi,hp,hg⟩:=JM (by rw [hf.1,hh]:(Fy rs c.t c.k).2=true);have X:B[0]?=some r:=by rw [<-h2,g,RM (CI _),T5]at hp;exact hp
  cases B with
  |nil=>cases X
  |cons b B=>
   injection X with X
   subst X;have m:=PC.1 W
   refine ⟨A,B,by simp,fun x=>?_,U,m.2,h3,fun x I=>?_,by rw [g];simp;omega⟩
   · constructor
     · intro I
       have bn:=I;rw [g]at I;rcases C2.1 I with h|h
       · exact .inl h
       · rcases DB.1 h with rfl|h
         · exact .inr (.inr ⟨bn,hi⟩)
         · exact .inr (.inl h)
     · rintro (h|h|⟨h,_⟩)
       · rw [g];exact Ek _ h
       · rw [g];exact G2 _ (E7 _ h)
       · exact h
   · have J:=m.1 x I
     unfold AR.lt2 at J;unfold AR.is at hi;omega
theorem GA(W:BP rs)(U:GX rs c)(x:AR):x∈EL rs c↔(x∈rs/\¬x.is c.t c.k)\/(c.has=true/\x=⟨c.t,c.k,c.n⟩):=by
 obtain ⟨A,B,J,h2,_,_,K,O,_⟩:=Py W U;rw [J,C2,C2,M6];have G:∀x∈A,¬x.is c.t c.k:=fun x m hi=>Vp hi (K x m)
 have I:∀x∈B,¬x.is c.t c.k:=fun x m hi=>by have g:=O x m;unfold AR.is at hi;omega
 constructor
 · rintro ((h|h)|h)
   · exact .inl ⟨(h2 x).2 (.inl h),G x h⟩
   · exact .inr h
   · exact .inl ⟨(h2 x).2 (.inr (.inl h)),I x h⟩
 · rintro (⟨h,hn⟩|h)
   · rcases (h2 x).1 h with g|g|⟨_,g⟩
     · exact .inl (.inl g)
     · exact .inr g
     · exact absurd g hn
   · exact .inl (.inr h)
theorem JE(X:BP rs)(W:GX rs c):BP (EL rs c):=by
 obtain ⟨A,B,K,_,O,U,I,J,_⟩:=Py X W;rw [K];have m:∀a b:AR,a.lt2 c.t c.k->(c.t<b.t\/c.t=b.t/\c.k<b.k)->a.lt2 b.t b.k:=fun a b g G=>by unfold AR.lt2 at*;omega
 refine P0.2 ⟨P0.2 ⟨O,?_,?_⟩,U,?_⟩;· unfold Nh;split<;>simp
 · intro a g b G
   obtain ⟨_,rfl⟩:=M6.1 G;exact I a g
 · intro a g b G
   rcases C2.1 g with g|g
   · exact m a b (I a g) (J b G)
   · obtain ⟨_,rfl⟩:=M6.1 g
     have:=J b G;unfold AR.lt2;simp only;omega
theorem xc(I:BP rs)(G:GX rs c):((EL rs c).length:Int)=rs.length+(if c.has then 1 else 0) -(if c.had then 1 else 0):=by
 obtain ⟨A,B,g,_,_,_,_,_,m⟩:=Py I G;rw [g,m];unfold Nh;cases c.has<;>cases c.had<;>simp<;>omega
theorem yI(B:BP rs)(G:GX rs c)(I:¬(c.t=t/\c.k=k)):Fy (EL rs c) t k=Fy rs t k:=by
 cases hg:(Fy rs t k).2 with
 |true=>
  obtain ⟨r,m,hi,_,J⟩:=JM hg;rw [J];exact KU (JE B G) ((GA B G r).2 (.inl ⟨m,fun h=>by unfold AR.is at h hi;omega⟩)) hi
 |false=>
  have g:∀r∈rs,¬r.is t k:=fun r m hi=>by rw [KU B m hi]at hg;cases hg
  rw [QH g];refine QH fun r m hi=>?_;rcases (GA B G r).1 m with⟨h,_⟩|⟨_,rfl⟩
  · exact g r h hi
  · exact I hi
def DV(rs:List AR)(cs:List Chg):List AR:=cs.foldl EL rs
theorem EP(rs:List AR)(cs:List Chg)(i:Nat)(c:Chg)(h:cs[i]?=some c):DV rs (cs.take (i+1))=EL (DV rs (cs.take i)) c:=by
 unfold DV;rw [PF,h,bm];rfl
def yo(cs:List Chg):Prop:=∀(i j:Nat) (b c:Chg),i<j->cs[i]?=some b->cs[j]?=some c->b.lt c
theorem oQ{a b:Chg}(h:a.lt b)(h2:b.lt c):a.lt c:=by unfold Chg.lt at*;omega
theorem UC(h:∀(i:Nat) (b c:Chg),cs[i]?=some b->cs[i+1]?=some c->b.lt c):yo cs:=by
 intro i j b c g B hc;obtain ⟨d,rfl⟩:∃d,j=i+1+d:=⟨j -(i+1),by omega⟩;clear g;induction d generalizing c with
 |zero=>exact h i b c B hc
 |succ d ih=>
  obtain ⟨x,m⟩:∃x,cs[i+1+d]?=some x:=by
   have:=(C4.1 hc).1;exact ⟨_,BT A0⟩
  exact oQ (ih x m) (h (i+1+d) x c m hc)
theorem KV{rs:List AR}{cs:List Chg}(K:BP rs)(I:yo cs)(J:∀c∈cs,GX rs c):∀i,i<=cs.length->BP (DV rs (cs.take i))/\∀(j:Nat) (c:Chg),i<=j->cs[j]?=some c->GX (DV rs (cs.take i)) c
 |0,_=>⟨K,fun j c _ hc=>J c (DQ hc)⟩
 |i+1,hi=>by
  obtain ⟨G,h2⟩:=KV K I J i A0;obtain ⟨x,B⟩:∃x,cs[i]?=some x:=⟨_,BT A0⟩;rw [EP rs cs i x B];have g:=h2 i x (CI _) B
  refine ⟨JE G g,fun j c U hc=>?_⟩;have m:=I i j x c A0 B hc
  have O:=h2 j c A0 hc;unfold GX at*;rw [yI G g (by unfold Chg.lt at m;omega)];exact O
def NE(c:Chg):Int:=(if c.has then 1 else 0) -(if c.had then 1 else 0)
def Gr(rs:List AR)(cs:List Chg):Int:=cs.foldl (fun n c=>n+NE c) (rs.length:Int)
theorem Hg(rs:List AR)(cs:List Chg)(i:Nat)(c:Chg)(h:cs[i]?=some c):Gr rs (cs.take (i+1))=Gr rs (cs.take i)+NE c:=by
 unfold Gr;rw [PF,h,bm];rfl
theorem qG(c:Chg):-1<=NE c/\NE c<=1:=by unfold NE;split<;>split<;>omega
theorem OP(rs:List AR)(cs:List Chg):∀i,(rs.length:Int) -i<=Gr rs (cs.take i)/\Gr rs (cs.take i)<=rs.length+i
 |0=>by unfold Gr;simp
 |i+1=>by
  have m:=OP rs cs i;cases h:cs[i]?with
  |none=>rw [PF,h];simp only [Option.toList,D2];omega
  |some c=>have g:=qG c;rw [Hg rs cs i c h];omega
theorem Nj{rs:List AR}{cs:List Chg}(G:BP rs)(m:yo cs)(B:∀c∈cs,GX rs c):∀i,i<=cs.length->((DV rs (cs.take i)).length:Int)=Gr rs (cs.take i)
 |0,_=>rfl
 |i+1,hi=>by
  obtain ⟨x,g⟩:∃x,cs[i]?=some x:=⟨_,BT A0⟩;have J:=Nj G m B i A0
  obtain ⟨I,h2⟩:=KV G m B i A0;rw [EP rs cs i x g,Hg rs cs i x g,xc I (h2 i x (CI _) g),J];unfold NE;omega
structure Ke(rs:List AR)(p rp:Int)(cs:List Chg):Prop where
 ok:EK rp cs
 pos:rp=p+1
 fit:∀c∈cs,GX rs c
 size:Gr rs cs<=2000
theorem IZ(h:∀c∈cs.take i,GX rs c)(m:cs[i]?=some x)(g:GX rs x):∀c∈cs.take (i+1),GX rs c:=by
 rw [PF,m];intro c hc;rcases C2.1 hc with h9|h9
 · exact h c h9
 · rw [C5.1 h9];exact g
theorem Bo(a b:List AR):Af (a++b)=Af a++Af b:=by unfold Af;rw [P2]
theorem BH:∀(rs:List AR),(Af rs).length=rs.length*5
 |[]=>rfl
 |r::rs=>by
  have:=BH rs;unfold Af at*;rw [HW,Bm,this,E3];simp;omega
theorem ED(rs:List AR)(k:Nat):(Af rs).take (k*5)=Af (rs.take k):=by
 rcases FF rs.length k with h|h
 · rw [Hx (by rw [BH];omega),Hx A0]
 · have e:Af rs=Af (rs.take k)++Af (rs.drop k):=by rw [<-Bo,J0]
   rw [e,HX (by rw [BH,CD];omega)]
theorem Di(rs:List AR)(k:Nat):(Af rs).drop (k*5)=Af (rs.drop k):=by
 rcases FF rs.length k with h|h
 · rw [SZ (by rw [BH];omega),SZ A0];rfl
 · have e:Af rs=Af (rs.take k)++Af (rs.drop k):=by rw [<-Bo,J0]
   rw [e,X1 (by rw [BH,CD];omega)]
theorem CV(rs:List AR):∀u∈Af rs,u.oneCell'=true:=by
 intro u g;unfold Af at g;obtain ⟨r,_,h⟩:=S1.1 g;simp only [DB,Pc,OR]at h;rcases h with rfl|rfl|rfl|rfl|rfl<;>rfl
theorem BZ{n n':Nat}{xs':List A4}(h:Bd sz e v n xs s)(g:n=n')(m:xs=xs'):Bd sz e v n' xs' s:=by subst g m;exact h
theorem Ez{b:B8}{n c:Nat}(h:Bd sz e (.slice b n c) n xs s):n<=c:=by
 obtain ⟨_,⟨hv,h0,_⟩|⟨_,_,_,_,hv,_,h2,_⟩⟩:=h;· omega
 · injection hv with _ _ hv3;omega
theorem V7(sz:Nat)(b:B8)(c:Nat):NQ sz (.slice b 0 c) 0 [] []:=⟨by simp,.inl ⟨rfl,b,c,rfl⟩⟩
theorem Dl(sz g k c:Nat)(e:AM)(z:Nat×Nat)(xs:List A4)(h:xs.length=k*sz):NQ sz (I6 g k c) k xs [(g,.cells xs.toArray e z)]:=
 ⟨h,.inr ⟨g,0,c,xs.toArray,e,z,rfl,rfl,by unfold Bz;rw [Pr];simp⟩⟩
theorem XE(h:c.has=true):Nh c=[⟨c.t,c.k,c.n⟩]:=Ax h
theorem XF(h:c.has=false):Nh c=[]:=As (by rw [h];decide)
theorem ig(m:cs[i]?=some x)(g:x.had=true)(h2:x.has=true):Gr rs (cs.take (i+1))=Gr rs (cs.take i) -1+1:=by rw [Hg rs cs i x m];unfold NE;rw [Ax h2,Ax g];omega
theorem ik(m:cs[i]?=some x)(g:x.had=true)(h2:x.has=false):Gr rs (cs.take (i+1))=Gr rs (cs.take i) -1:=by rw [Hg rs cs i x m];unfold NE;rw [As (by rw [h2];decide),Ax g];omega
theorem il(m:cs[i]?=some x)(g:x.had=false)(h2:x.has=true):Gr rs (cs.take (i+1))=Gr rs (cs.take i)+1:=by rw [Hg rs cs i x m];unfold NE;rw [Ax h2,As (by rw [g];decide)];omega
theorem iw(m:cs[i]?=some x)(g:x.had=false)(h2:x.has=false):Gr rs (cs.take (i+1))=Gr rs (cs.take i):=by rw [Hg rs cs i x m];unfold NE;rw [As (by rw [h2];decide),As (by rw [g];decide)];omega
theorem rD(sp:Nat)(p rp:Int)(v:A4)(rs:List AR)(sv M:List A9)(q:B8)(bn:Nat)(cs:List Chg)(gm:Bd 5 80 v rs.length (Af rs) sv)(hO:Cv M (.slice q cs.length bn) cs)(hs:BP rs)(hn:rs.length<=2000)(hp:0<=p/\p<=10000):
 BR prog 25 #[I5 sp,.agg #[I4 rp,.slice q cs.length bn]] [[(sp,.cells #[v,I4 p] 84 (0,0))],sv,M] (fun r H'=>(Ke rs p rp cs/\∃v' p8,r=I4 0/\Bd 5 80 v' (DV rs cs).length (Af (DV rs cs)) p8/\H'=[[(sp,.cells #[v',I4 rp] 84 (0,0))],p8,M])\/(¬Ke rs p rp cs/\r=I4 40/\H'=[[(sp,.cells #[v,I4 p] 84 (0,0))],sv,M])):=by
 have qz:=mL;obtain ⟨qv,l5,rfl⟩:=gm.form;have pg:=Pk gm A0
 obtain ⟨p9,qj,e9,r9,hg⟩:=id hO;injection e9 with e91 e92 e93
 subst e91 e93;refine Se func25 ntmps25 [0,1] ?_;intro u R;refine A1<|Ze (Bx #[_,_])<|AG fun rb=>A5 Y<|A1<|Zo Wh (Pa #[_,_] Iv GC Y) ?_;refine Xr [_] Y call64 Y V (lD rp q bn cs M hO) ?_;refine A5 Y<|Zq<|Zq<|BA (n:=12) (0::1::3::7::15::7::39::103::231::487::1023::2047::[]) 0 AF AF V<|A3 0 V (AO Y)<|A3 1 V (DD Y)<|A3 2 V (AO Y)<|DF (t:=23) Y (fun hv=>?_) (fun hv=>?_);·
  rw [DG hv];refine AN 3 V<|AN 4 V<|AN 5 V<|AN 6 V<|AN 7 V<|AN 8 V<|AN 9 V<|AN 10 V<|A3 11 V (AX Y Y)<|Ag<|Zn [0,3,32] ?_;refine Zx<|DT Y<|A1<|A5 Y<|AJ<|Zt<|AP V eW Y (by exact .inr ⟨fun h=>hv h.ok,V,V⟩)
 rw [Cl hv];refine An 3 V (AA (off:=0) HE V rfl AE Y)<|DO 4 V Wh (BF AH Y B0) ?_;refine An 5 V (AO Y)<|An 6 V (Ak Y V)<|An 7 V (AA (off:=1) IH V rfl AE Y)<|DO 8 V Wh (BF AH Y B0) ?_
 (refine An 9 rfl (Gm Y Y (IntWalk.i64_in _ ?_)) ?_;(focus (omega)))
 refine An 10 V (Im Y Y)<|A3 11 V (AL Y Y)<|Ag<|Zn [0,3,32] ?_;refine Zx<|Aw Y (fun ek=>?_) (fun ek=>?_);·
  refine A1<|A5 Y<|AJ<|Zt<|AP V eW Y (by exact .inr ⟨fun h=>ek h.pos,V,V⟩)
 refine AC<|Zx<|Zq ?_;have kv:=I0.1 hv
 have qa:=I0.1 ek;have ql:=kv.len
 have ic:=UC kv.ord;refine Zg<|Zm Y<|Zp Y V<|Zh 0 IH V rfl DA Y<|Zl GP Y ?_;refine Zv (Ac C1 Y)<|A5 Y<|Zq<|A1<|A5 Y<|AQ<|Zb [6,7,0,3] ?_;refine BI (e0:=[(6,_),(7,_)]) (fun m e H=>∃(i:Nat),m=cs.length -i/\(i<=cs.length/\(∀c∈cs.take i,GX rs c))/\e=[(6,I4 (Gr rs (cs.take i))),(7,I4 (i:Int))]/\H=[]) (by exact ⟨0,V,⟨C7 _,by simp⟩,V,V⟩) Wp ?_;rintro _ _ _ ⟨i,rfl,⟨hi,I⟩,rfl,rfl⟩;have o8:=OP rs cs i
 refine Zq<|A1<|Zm Y<|Zh 1 HE V rfl MA Y<|Zl OK Y ?_;refine Zv (Ac Gk Y)<|Zv (Ay Y Y)<|A6<|Aw Y (fun d9=>?_) (fun d9=>?_);·
  refine AC<|Zx<|Zq<|AQ<|Zq ?_;obtain ⟨x,O⟩:∃x,cs[i]?=some x:=⟨_,BT d9⟩;obtain ⟨g,off,cur,T,zz,rfl,hm,qb,j5⟩:=hg i x O;refine Zg<|Zh 1 HE V rfl MA Y<|Zl OK Y ?_;refine Zm Y<|BU (Ae Gk CC Y Y A0)<|CS (cs:=[(g,.cells cur T zz)]) (by simp [hm]) (AB (cs:=x.A70) GF CC Y A0 j5) V rfl ?_;refine Ze (Al LS #[_,_,_,_,_,_,_,_,_,_])<|AG fun cb=>Xe (Xw CC x.A70) ?_;refine A6<|A1<|Zm Y<|Zh 0 C3 V rfl AE Y<|Zl AH Y ?_;refine Zh 1 C3 V rfl AE Y<|Zl AH Y ?_;refine Xr [_,_,_] Y call24 Y V (rC sp qv l5 p x.t x.k rs sv pg A0 hs) ?_;obtain ⟨gr,cO⟩:∃gr,gr=Fy rs x.t x.k:=⟨_,rfl⟩;rw [<-cO];refine Zm Y<|Zd Y V<|Zd Y V<|Ze (Al F0 #[_,_,_,_,_])<|AG fun xb=>Xe (Xw B3 #[I4 gr.1.t,I4 gr.1.k,I4 gr.1.v.a,I4 gr.1.v.b,I4 gr.1.v.c]) ?_;refine AW Y<|Zn [0,3,6,7,8,9,10] ?_;refine Zx<|Zq<|A1<|Zm Y<|Zh 2 C3 V rfl DM Y<|Zl Fk Y ?_;refine Zv (JF N6 Y Y)<|Zm Y<|Ao (t:=63) Y V (fun gq=>?_) (fun gq=>?_);·
   refine A7 Y V<|A7 Y V<|A7 Y V<|A7 Y V<|A7 Y V<|A7 Y V<|A7 Y V<|A7 Y V<|Zv (AX Y Y)<|Z0<|Zn [0,3,6,7,8,72] ?_;refine Zx<|DT Y<|A1<|A5 Y<|AJ<|Zt<|Ab<|Zt<|Zt<|Ab<|Zt<|AP rfl eW Y (by exact .inr ⟨fun h=>by have h9:=(h.fit x (DQ O)).1;rw [<-cO]at h9;exact gq h9,rfl,rfl⟩)
  refine Zf Y Y<|Zf Y Y ?_;refine Ah (t:=65) Y V (fun gy=>?_) (fun gy=>?_);·
   refine Yf 2 G1 V rfl Dg Y<|Dw Y Wh (Pa #[_,_,_] HN Dg Y) V rfl ?_;refine Yf 3 C3 V rfl Dg Y<|Dw Y Wh (AB (cs:=#[_,_,_]) HN Dg Y B5 B0) V rfl ?_;refine Yg (Ku AF HM D4 AH AE Y Y) ?_;refine Yg (AX Y Y)<|Zv (AL Y Y)<|Z0<|Zn [0,3,6,7,8,72] ?_;refine Zx<|Aw Y (fun j3=>?_) (fun j3=>?_);·
    refine A1<|A5 Y<|AJ<|Zt<|Ab<|Zt<|Zt<|Ab<|Zt<|AP rfl eW Y (by exact .inr ⟨fun h=>by have h9:=(h.fit x (DQ O)).2;rw [<-cO]at h9;exact j3 (h9 gy),rfl,rfl⟩)
   refine AC<|Zx<|Zq<|Zq ?_;have U:GX rs x:=by
    unfold GX;rw [<-cO];refine ⟨by simpa using gq,fun h=>?_⟩;exact I0.1 j3
   refine Zg<|Zh 2 C3 V rfl DM Y<|Zl Fk Y ?_;refine A6<|AU Y (fun G=>?_) (fun G=>?_);·
    refine Zg<|Zm Y ?_
    (refine BU (FP Y Y (IntWalk.i64_in _ ?_)) ?_;(focus (omega)))
    refine A5 Y<|A1<|Zh 6 C3 V rfl DM Y<|Zl Fk Y ?_;refine A6<|AU Y (fun B=>?_) (fun B=>?_);·
     refine Zg<|Zm Y<|Yi Y Y<|AW Y<|A8<|Zx<|Zg<|Zm Y<|Ya (n:=1) Y Y<|AW Y<|Zn [6,7,0,3] ?_;refine Aa (e':=[(6,_),(7,_)]) (by exact ⟨i+1,rfl,⟨by omega,IZ I O U⟩,by rw [ig O G B],rfl⟩)
    refine AC<|A8<|Zx<|Zg<|Zm Y<|Ya (n:=1) Y Y<|AW Y<|Zn [6,7,0,3] ?_;refine Aa (e':=[(6,_),(7,_)]) (by exact ⟨i+1,rfl,⟨by omega,IZ I O U⟩,by rw [ik O G B],rfl⟩)
   refine AC<|Zx<|A1<|Zh 6 C3 V rfl DM Y<|Zl Fk Y ?_;refine A6<|AU Y (fun B=>?_) (fun B=>?_);·
    refine Zg<|Zm Y<|Yi Y Y<|AW Y<|A8<|Zx<|Zg<|Zm Y<|Ya (n:=1) Y Y<|AW Y<|Zn [6,7,0,3] ?_;refine Aa (e':=[(6,_),(7,_)]) (by exact ⟨i+1,rfl,⟨by omega,IZ I O U⟩,by rw [il O G B],rfl⟩)
   refine AC<|A8<|Zx<|Zg<|Zm Y<|Ya (n:=1) Y Y<|AW Y<|Zn [6,7,0,3] ?_;refine Aa (e':=[(6,_),(7,_)]) (by exact ⟨i+1,rfl,⟨by omega,IZ I O U⟩,by rw [iw O G B],rfl⟩)
  refine A7 Y V<|A7 Y V<|A7 Y V<|A7 Y V<|A7 Y V<|Yg (AL Y Y)<|Zv (AL Y Y)<|Z0<|Zn [0,3,6,7,8,72] ?_;refine Zx<|D9 Y<|AC<|Zx<|Zq<|Zq ?_;have U:GX rs x:=by
   unfold GX;rw [<-cO];refine ⟨by simpa using gq,fun h=>?_⟩
   (rw [h]at gy;cases gy)
  refine Zg<|Zh 2 C3 V rfl DM Y<|Zl Fk Y ?_;refine A6<|AU Y (fun G=>?_) (fun G=>?_);·
   refine Zg<|Zm Y ?_
   (refine BU (FP Y Y (IntWalk.i64_in _ ?_)) ?_;(focus (omega)))
   refine A5 Y<|A1<|Zh 6 C3 V rfl DM Y<|Zl Fk Y ?_;refine A6<|AU Y (fun B=>?_) (fun B=>?_);·
    refine Zg<|Zm Y<|Yi Y Y<|AW Y<|A8<|Zx<|Zg<|Zm Y<|Ya (n:=1) Y Y<|AW Y<|Zn [6,7,0,3] ?_;refine Aa (e':=[(6,_),(7,_)]) (by exact ⟨i+1,rfl,⟨by omega,IZ I O U⟩,by rw [ig O G B],rfl⟩)
   refine AC<|A8<|Zx<|Zg<|Zm Y<|Ya (n:=1) Y Y<|AW Y<|Zn [6,7,0,3] ?_;refine Aa (e':=[(6,_),(7,_)]) (by exact ⟨i+1,rfl,⟨by omega,IZ I O U⟩,by rw [ik O G B],rfl⟩)
  refine AC<|Zx<|A1<|Zh 6 C3 V rfl DM Y<|Zl Fk Y ?_;refine A6<|AU Y (fun B=>?_) (fun B=>?_);·
   refine Zg<|Zm Y<|Yi Y Y<|AW Y<|A8<|Zx<|Zg<|Zm Y<|Ya (n:=1) Y Y<|AW Y<|Zn [6,7,0,3] ?_;refine Aa (e':=[(6,_),(7,_)]) (by exact ⟨i+1,rfl,⟨by omega,IZ I O U⟩,by rw [il O G B],rfl⟩)
  refine AC<|A8<|Zx<|Zg<|Zm Y<|Ya (n:=1) Y Y<|AW Y<|Zn [6,7,0,3] ?_;refine Aa (e':=[(6,_),(7,_)]) (by exact ⟨i+1,rfl,⟨by omega,IZ I O U⟩,by rw [iw O G B],rfl⟩)
 have ei:i=cs.length:=by omega
 subst ei;rw [G3]at I o8⊢;refine BD<|Zt<|Zt<|AV<|Zx<|Zq<|A1<|Zm Y<|Zv (Ed Y Y)<|A6<|Aw Y (fun l8=>?_) (fun l8=>?_);·
  refine A1<|A5 Y<|AJ<|Zt<|AP V eW Y (by exact .inr ⟨fun h=>by have h9:=h.size;omega,V,V⟩)
 refine AC<|Zx<|Zq<|A1<|A5 Y<|AQ<|Zb [11,0,3] ?_;refine BI (e0:=[(11,_)]) (fun m e H=>∃(i:Nat) (w:A4) (sw:List A9),m=cs.length -i/\(i<=cs.length/\Bd 5 80 w (DV rs (cs.take i)).length (Af (DV rs (cs.take i))) sw)/\e=[(11,I4 (i:Int))]/\H=[[(sp,.cells #[w,I4 p] 84 (0,0))],sw]) (by exact ⟨0,_,sv,V,⟨C7 _,gm⟩,V,V⟩) Wp ?_;rintro _ _ _ ⟨i,w,sw,rfl,⟨hi,K⟩,rfl,rfl⟩;obtain ⟨o9,l9⟩:=KV hs ic I i hi;have q9:=Nj hs ic I i hi
 have o8:=OP rs cs i;obtain ⟨qs,ax⟩:∃qs,qs=DV rs (cs.take i):=⟨_,rfl⟩;rw [<-ax]at K o9 q9 l9;obtain ⟨qw,cu,rfl⟩:=K.form;have qo:=Ez K
 have pq:=Pk K A0;refine Zq<|A1<|Zm Y<|Zh 1 HE V rfl MA Y<|Zl OK Y ?_;refine Zv (Ac Gk Y)<|Zv (Ay Y Y)<|A6<|Aw Y (fun d9=>?_) (fun d9=>?_);·
  refine AC<|Zx<|Zq<|AQ<|Zq ?_;obtain ⟨x,O⟩:∃x,cs[i]?=some x:=⟨_,BT d9⟩;obtain ⟨g,off,cur,T,zz,rfl,hm,qb,j5⟩:=hg i x O;have U:=l9 i x (CI _) O
  have dn:=VS qs x.t x.k;have J:EL qs x=qs.take (E8 qs x.t x.k)++Nh x++(qs.drop (E8 qs x.t x.k)).drop (if x.had then 1 else 0):=rfl
  obtain ⟨k,hk⟩:∃k,k=E8 qs x.t x.k:=⟨_,rfl⟩;have pz:x.had=true->k<qs.length:=fun h=>by
   obtain ⟨r,_,_,h9,_⟩:=JM (by rw [U.1,h]:(Fy qs x.t x.k).2=true);rw [<-hk]at h9;exact (C4.1 h9).1
  rw [<-hk]at dn J;refine Zg<|Zh 1 HE V rfl MA Y<|Zl OK Y ?_;refine Zm Y<|BU (Ae Gk CC Y Y A0)<|CS (cs:=[(g,.cells cur T zz)]) (by simp [hm]) (AB (cs:=x.A70) GF CC Y A0 j5) V rfl ?_;refine Ze (Al LS #[_,_,_,_,_,_,_,_,_,_])<|AG fun cb=>Xe (Xw CC x.A70) ?_;refine A6<|A1<|Zm Y<|Zh 0 C3 V rfl AE Y<|Zl AH Y ?_;refine Zh 1 C3 V rfl AE Y<|Zl AH Y ?_;refine Xr [_,_,_] Y call63 Y V (YW sp qw cu p x.t x.k qs sw pq A0 o9) ?_;rw [<-hk];refine AW Y<|Zn [0,3,11,12,13] ?_;refine Zx<|A1<|Zm Y<|Zp Y V<|Zh 0 IH V rfl DA Y<|Zl GP Y ?_;refine Zm Y<|BU (C8 C1 B3 Y Y A0)<|A5 Y<|Zq<|A1<|Zh 2 C3 V rfl DM Y<|Zl Fk Y ?_;refine A6<|AU Y (fun G=>?_) (fun G=>?_);·
   have qx:=pz G;refine Zg<|Zm Y<|BU (C8 (l:=1) C1 B3 Y Y A0)<|A5 Y<|A1<|AW Y<|Zn [0,3,11,12,13,14,15] ?_;refine Zx<|A1<|Zo Wh (Pa #[_,_,_,_,_,_,_,_,_,_] GF CC Y) ?_;refine Xr [_] Y call65 Y V (SX x) ?_;refine Zm Y<|Zd Y V<|Zd Y V<|Ze (Al F0 #[_,_,_,_,_])<|AG fun xb=>Xe (Xw B3 x.after.A71) ?_;refine A5 Y<|Zq<|A1<|Zm Y<|A6<|AU Y (fun B=>?_) (fun B=>?_);·
    refine Zg<|Zo Wh (Pa #[_,_,_,_,_] D0 B3 Y) ?_;refine Ze (Ai (vs:=[_]) (cs:=[_,_,_,_,_]) C1 B3 F0 Y V rfl V rfl V)<|AG fun gb=>A5 Y<|A1<|AW Y<|Zn [0,3,11,13,14,15,18] ?_;refine Zx<|Zq<|Bc<|Zg<|Zm Y<|Zm Y<|Zp Y V<|Zh 0 IH V rfl DA Y<|Zl GP Y ?_;refine Zm Y<|BU (Bq C1 B3 Y Y A0)<|Ze (BV (by_:=40) (sz:=5) C1 (V:Tryz.prog.info? 80=some Tryz.t80) V rfl V rfl Y (Bj 5 _) Y (K8 K k _ dn) Wo Wo (by exact fun u hu=>CV qs u (On hu)) A0 A0) ?_;rintro _ _ ⟨sa,X,rfl⟩;obtain ⟨ga,ca,rfl⟩:=X.form;refine Zm Y<|Ze (BV (by_:=40) (sz:=5) C1 (V:Tryz.prog.info? 80=some Tryz.t80) V rfl V rfl Y (X) Y (Dl 5 gb 1 1 80 (0,0) (Af [x.after]) V) Wo Wo (by exact CV _) A0 A0) ?_;rintro _ _ ⟨sb,Z,rfl⟩;obtain ⟨gb,cb,rfl⟩:=Z.form;refine Zm Y<|Ze (BV (by_:=40) (sz:=5) C1 (V:Tryz.prog.info? 80=some Tryz.t80) V rfl V rfl Y (Z) Y (YC (K9 K k (qs.length -k) (cu -k) A0) 1 (qs.length -k -1) _ A0 A0) Wo Wo (by exact fun u hu=>CV qs u (KB (KB hu))) A0 A0) ?_;rintro _ _ ⟨sc,af,rfl⟩;have W:=BZ af (n':=(EL qs x).length) (xs':=Af (EL qs x)) (by rw [J,XE B,Ax G,Bm,Bm,CD,CH,CH];simp only [E3,KK];omega) (by rw [J,XE B,Ax G,Bo,Bo,<-ED,<-Di (qs.drop k) 1,<-Di];rw [LU B];rfl)
    obtain ⟨gc,cc,rfl⟩:=af.form;refine AW Y<|Zn [0,3,11,18] ?_;refine Zx<|Zg<|Zm Y<|Zm Y<|Zp Y V<|Zh 0 IH V rfl DA Y<|Xe (Zs DA Y Y V) ?_;refine Z0<|A8<|Zx<|Zg<|Zm Y<|Ya (n:=1) Y Y<|AW Y<|Zn [11,0,3] ?_;refine Aa (e':=[(11,_)]) (by exact ⟨i+1,_,_,rfl,⟨by omega,by rw [EP rs cs i x O,<-ax];exact W⟩,rfl,rfl⟩)
   refine Bc<|AC<|Zx<|A1<|A5 Y<|Zq<|Bc<|Zg<|Zm Y<|Zm Y<|Zp Y V<|Zh 0 IH V rfl DA Y<|Zl GP Y ?_;refine Zm Y<|BU (Bq C1 B3 Y Y A0)<|Ze (BV (by_:=40) (sz:=5) C1 (V:Tryz.prog.info? 80=some Tryz.t80) V rfl V rfl Y (Bj 5 _) Y (K8 K k _ dn) Wo Wo (by exact fun u hu=>CV qs u (On hu)) A0 A0) ?_;rintro _ _ ⟨sa,X,rfl⟩;obtain ⟨ga,ca,rfl⟩:=X.form;refine Zm Y<|Ze (BV (by_:=40) (sz:=5) C1 (V:Tryz.prog.info? 80=some Tryz.t80) V rfl V rfl Y (X) Y (V7 5 none 0) Wo Wo B4 A0 A0) ?_;rintro _ _ ⟨sb,Z,rfl⟩;obtain ⟨gb,cb,rfl⟩:=Z.form;refine Zm Y<|Ze (BV (by_:=40) (sz:=5) C1 (V:Tryz.prog.info? 80=some Tryz.t80) V rfl V rfl Y (Z) Y (YC (K9 K k (qs.length -k) (cu -k) A0) 1 (qs.length -k -1) _ A0 A0) Wo Wo (by exact fun u hu=>CV qs u (KB (KB hu))) A0 A0) ?_;rintro _ _ ⟨sc,af,rfl⟩;have W:=BZ af (n':=(EL qs x).length) (xs':=Af (EL qs x)) (by rw [J,XF B,Ax G,Bm,Bm,CD,CH,CH];simp only [E3,KK];omega) (by rw [J,XF B,Ax G,Bo,Bo,<-ED,<-Di (qs.drop k) 1,<-Di];rfl)
   obtain ⟨gc,cc,rfl⟩:=af.form;refine AW Y<|Zn [0,3,11,18] ?_;refine Zx<|Zg<|Zm Y<|Zm Y<|Zp Y V<|Zh 0 IH V rfl DA Y<|Xe (Zs DA Y Y V) ?_;refine Z0<|A8<|Zx<|Zg<|Zm Y<|Ya (n:=1) Y Y<|AW Y<|Zn [11,0,3] ?_;refine Aa (e':=[(11,_)]) (by exact ⟨i+1,_,_,rfl,⟨by omega,by rw [EP rs cs i x O,<-ax];exact W⟩,rfl,rfl⟩)
  refine AC<|Zx<|A1<|A5 Y<|A1<|Zo Wh (Pa #[_,_,_,_,_,_,_,_,_,_] GF CC Y) ?_;refine Xr [_] Y call65 Y V (SX x) ?_;refine Zm Y<|Zd Y V<|Zd Y V<|Ze (Al F0 #[_,_,_,_,_])<|AG fun xb=>Xe (Xw B3 x.after.A71) ?_;refine AW Y<|Zn [0,3,11,13,14,15,16,17] ?_;refine Zx<|Zq<|A1<|Zm Y<|A6<|AU Y (fun B=>?_) (fun B=>?_);·
   refine Zg<|Zo Wh (Pa #[_,_,_,_,_] D0 B3 Y) ?_;refine Ze (Ai (vs:=[_]) (cs:=[_,_,_,_,_]) C1 B3 F0 Y V rfl V rfl V)<|AG fun gb=>A5 Y<|A1<|A5 Y<|Zq<|Bc<|Zg<|Zm Y<|Zm Y<|Zp Y V<|Zh 0 IH V rfl DA Y<|Zl GP Y ?_;refine Zm Y<|BU (Bq C1 B3 Y Y A0)<|Ze (BV (by_:=40) (sz:=5) C1 (V:Tryz.prog.info? 80=some Tryz.t80) V rfl V rfl Y (Bj 5 _) Y (K8 K k _ dn) Wo Wo (by exact fun u hu=>CV qs u (On hu)) A0 A0) ?_;rintro _ _ ⟨sa,X,rfl⟩;obtain ⟨ga,ca,rfl⟩:=X.form;refine Zm Y<|Ze (BV (by_:=40) (sz:=5) C1 (V:Tryz.prog.info? 80=some Tryz.t80) V rfl V rfl Y (X) Y (Dl 5 gb 1 1 80 (0,0) (Af [x.after]) V) Wo Wo (by exact CV _) A0 A0) ?_;rintro _ _ ⟨sb,Z,rfl⟩;obtain ⟨gb,cb,rfl⟩:=Z.form;refine Zm Y<|Ze (BV (by_:=40) (sz:=5) C1 (V:Tryz.prog.info? 80=some Tryz.t80) V rfl V rfl Y (Z) Y (K9 K k (qs.length -k) _ A0) Wo Wo (by exact fun u hu=>CV qs u (KB hu)) A0 A0) ?_;rintro _ _ ⟨sc,af,rfl⟩;have W:=BZ af (n':=(EL qs x).length) (xs':=Af (EL qs x)) (by rw [J,XE B,As (by rw [G];decide),Bm,Bm,CD,CH,CH];simp only [E3,KK];omega) (by rw [J,XE B,As (by rw [G];decide),Bo,Bo,<-ED,<-Di (qs.drop k) 0,<-Di,ff,Pr];rw [LU B];rfl)
   obtain ⟨gc,cc,rfl⟩:=af.form;refine AW Y<|Zn [0,3,11,18] ?_;refine Zx<|Zg<|Zm Y<|Zm Y<|Zp Y V<|Zh 0 IH V rfl DA Y<|Xe (Zs DA Y Y V) ?_;refine Z0<|A8<|Zx<|Zg<|Zm Y<|Ya (n:=1) Y Y<|AW Y<|Zn [11,0,3] ?_;refine Aa (e':=[(11,_)]) (by exact ⟨i+1,_,_,rfl,⟨by omega,by rw [EP rs cs i x O,<-ax];exact W⟩,rfl,rfl⟩)
  refine Bc<|AC<|Zx<|A1<|A5 Y<|Zq<|Bc<|Zg<|Zm Y<|Zm Y<|Zp Y V<|Zh 0 IH V rfl DA Y<|Zl GP Y ?_;refine Zm Y<|BU (Bq C1 B3 Y Y A0)<|Ze (BV (by_:=40) (sz:=5) C1 (V:Tryz.prog.info? 80=some Tryz.t80) V rfl V rfl Y (Bj 5 _) Y (K8 K k _ dn) Wo Wo (by exact fun u hu=>CV qs u (On hu)) A0 A0) ?_;rintro _ _ ⟨sa,X,rfl⟩;obtain ⟨ga,ca,rfl⟩:=X.form;refine Zm Y<|Ze (BV (by_:=40) (sz:=5) C1 (V:Tryz.prog.info? 80=some Tryz.t80) V rfl V rfl Y (X) Y (V7 5 none 0) Wo Wo B4 A0 A0) ?_;rintro _ _ ⟨sb,Z,rfl⟩;obtain ⟨gb,cb,rfl⟩:=Z.form;refine Zm Y<|Ze (BV (by_:=40) (sz:=5) C1 (V:Tryz.prog.info? 80=some Tryz.t80) V rfl V rfl Y (Z) Y (K9 K k (qs.length -k) _ A0) Wo Wo (by exact fun u hu=>CV qs u (KB hu)) A0 A0) ?_;rintro _ _ ⟨sc,af,rfl⟩;have W:=BZ af (n':=(EL qs x).length) (xs':=Af (EL qs x)) (by rw [J,XF B,As (by rw [G];decide),Bm,Bm,CD,CH,CH];simp only [E3,KK];omega) (by rw [J,XF B,As (by rw [G];decide),Bo,Bo,<-ED,<-Di (qs.drop k) 0,<-Di,ff,Pr];rfl)
  obtain ⟨gc,cc,rfl⟩:=af.form;refine AW Y<|Zn [0,3,11,18] ?_;refine Zx<|Zg<|Zm Y<|Zm Y<|Zp Y V<|Zh 0 IH V rfl DA Y<|Xe (Zs DA Y Y V) ?_;refine Z0<|A8<|Zx<|Zg<|Zm Y<|Ya (n:=1) Y Y<|AW Y<|Zn [11,0,3] ?_;refine Aa (e':=[(11,_)]) (by exact ⟨i+1,_,_,rfl,⟨by omega,by rw [EP rs cs i x O,<-ax];exact W⟩,rfl,rfl⟩)
 have ei:i=cs.length:=by omega
 subst ei;rw [G3]at ax;refine BD<|Zt<|Zt<|AV<|Zx<|A1<|Zm Y<|Zh 0 HE V rfl AE Y<|Zl AH Y ?_;refine Zp Y V<|Zh 1 IH V rfl AE Y<|Xe (Zs AE Y Y V) ?_;refine A6<|A1<|A5 Y<|AJ<|AP rfl eW Y (by exact .inl ⟨⟨kv,qa,I,by omega⟩,_,sw,rfl,by rw [<-ax];exact K,rfl⟩)
end Go.Proofs.YthhakdmlpngcmaaGreatDoor
