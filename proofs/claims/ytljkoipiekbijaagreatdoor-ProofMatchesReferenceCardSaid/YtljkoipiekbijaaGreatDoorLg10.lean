/- The program's layer 3: ValidChange. -/
import Derived.Test.YtljkoipiekbijaaGreatDoorLg4
set_option linter.unusedVariables false
set_option linter.unusedSimpArgs false
namespace Go.Proofs.YtljkoipiekbijaaGreatDoor
open Go.Proofs.Tryz
open Go Go.RowKit Gw
set_option maxRecDepth 100000
attribute [local irreducible] Gw.At Gw.Nx Gw.Ops
def xk(c:Chg):Bool:=if c.had then decide c.before.ok else decide (c.o=V3.zero)
def xm(c:Chg):Bool:=if c.has then decide c.after.ok else decide (c.n=V3.zero)
theorem SA(c:Chg):BB prog 210 #[.agg c.Ax2,.bool c.had,.agg #[I4 c.o.a,I4 c.o.b,I4 c.o.c]] [] (.bool (xk c)):=Y3 c c.had c.o
theorem SB(c:Chg):BB prog 210 #[.agg c.Ax2,.bool c.has,.agg #[I4 c.n.a,I4 c.n.b,I4 c.n.c]] [] (.bool (xm c)):=Y3 c c.has c.n
variable{c:Chg}
theorem M0(g:c.had≠c.has\/(c.had=true/\c.o≠c.n)):decide c.ok=(xk c&&xm c):=by
 unfold xk xm;cases h1:c.had<;>cases h2:c.has<;>simp_all [Chg.ok]
 all_goals (by_cases m:c.before.ok<;>by_cases z:c.after.ok<;>by_cases E:c.o=V3.zero<;>by_cases G:c.n=V3.zero<;>simp_all)
theorem sK(h:c.had=c.has)(h2:c.had=true->c.o=c.n):decide c.ok=false:=by
 cases h1:c.had<;>simp_all [Chg.ok]
 all_goals (rw [<-h]at*;simp_all)
set_option maxHeartbeats 4000000 in
theorem Ut(c:Chg):BB prog 182 #[.agg c.Ax2] [] (.bool (decide c.ok)):=by
 refine Se func182 ntmps182 [0] ?_;intro u R;refine A2<|Ze (Bx #[_,_,_,_,_,_,_,_,_,_])<|AE fun J=>AF Y<|A2<|Zh 2 CM V rfl DP Y<|Zl Fc Y<|Zh 6 CM V rfl DP Y<|Zl Fc Y<|Zv (Ho MY Y Y)<|Zm Y<|AZ (t:=9) Y V (fun g=>?_) (fun g=>?_);·
  refine Sk 10 V<|AN Y<|Zn [1,3] ?_;refine BT<|Sk 2 V<|DK Y Wh (Pa #[_,_,_,_,_,_,_,_,_,_] G1 D2 Y) V rfl<|Yf 2 CM V rfl DP Y<|Yl Fc Y<|Yf 3 CM V rfl Dg Y<|DK Y Wh (Pa #[_,_,_] Hv Dg Y) V rfl<|Xr [_,_,_] Y call210 Y V (SA c)<|Sk 2 V ?_;refine Ae (t:=29) Y V (fun E=>?_) (fun E=>?_);·
   refine DK Y Wh (Pa #[_,_,_,_,_,_,_,_,_,_] G1 D2 Y) V rfl<|Yf 6 CM V rfl DP Y<|Yl Fc Y<|Yf 7 CM V rfl Dg Y<|DK Y Wh (Pa #[_,_,_] Hv Dg Y) V rfl<|Xr [_,_,_] Y call210 Y V (SB c)<|HR Y Y<|AN Y<|Zn [2] ?_;refine Zx<|AC<|AO rfl ew Y (by exact ⟨by rw [M0 (.inl g),E,M1],rfl⟩)
  refine Sk 7 V<|AN Y<|Zn [2] ?_;refine Zx<|AC<|AO rfl ew Y (by exact ⟨by rw [M0 (.inl g),E,Bool.false_and],rfl⟩)
 refine Yf 2 CM V rfl DP Y<|Yl Fc Y<|Zf Y Y<|Ae (t:=12) Y V (fun m=>?_) (fun m=>?_);·
  refine Yf 3 CM V rfl Dg Y<|DK Y Wh (Pa #[_,_,_] Hv Dg Y) V rfl<|Yf 7 CM V rfl Dg Y<|DK Y Wh (Pa #[_,_,_] Hv Dg Y) V rfl<|Yg (Lh AG HS Ge A5 A4 Y Y) ?_;refine Sk 2 V<|AN Y<|Zn [1,3] ?_;refine BT<|Sk 2 V ?_;refine AZ (t:=21) Y V (fun z=>?_) (fun z=>?_);·
   refine DK Y Wh (Pa #[_,_,_,_,_,_,_,_,_,_] G1 D2 Y) V rfl<|Yf 2 CM V rfl DP Y<|Yl Fc Y<|Yf 3 CM V rfl Dg Y<|DK Y Wh (Pa #[_,_,_] Hv Dg Y) V rfl<|Xr [_,_,_] Y call210 Y V (SA c)<|Sk 2 V ?_;refine Ae (t:=29) Y V (fun G=>?_) (fun G=>?_);·
    refine DK Y Wh (Pa #[_,_,_,_,_,_,_,_,_,_] G1 D2 Y) V rfl<|Yf 6 CM V rfl DP Y<|Yl Fc Y<|Yf 7 CM V rfl Dg Y<|DK Y Wh (Pa #[_,_,_] Hv Dg Y) V rfl<|Xr [_,_,_] Y call210 Y V (SB c)<|HR Y Y<|AN Y<|Zn [2] ?_;refine Zx<|AC<|AO rfl ew Y (by exact ⟨by rw [M0 (.inr ⟨m,z⟩),G,M1],rfl⟩)
   refine Sk 7 V<|AN Y<|Zn [2] ?_;refine Zx<|AC<|AO rfl ew Y (by exact ⟨by rw [M0 (.inr ⟨m,z⟩),G,Bool.false_and],rfl⟩)
  refine Sk 15 V<|AN Y<|Zn [2] ?_;refine Zx<|AC<|AO rfl ew Y (by exact ⟨by rw [sK (Fi.1 g) (fun _=>Fi.1 z)],rfl⟩)
 refine Sk 7 V<|AN Y<|Zn [1,3] ?_;refine BT<|Sk 17 V<|AN Y<|Zn [2] ?_;refine Zx<|AC<|AO rfl ew Y (by exact ⟨by rw [sK (Fi.1 g) (fun I=>by rw [m]at I;cases I)],rfl⟩)
theorem pS(h:c.ok):0<=c.t:=by
 obtain ⟨m,h2,_,_⟩:=h;have E:c.had=true->c.before.ok:=fun g=>Z1 fun hn=>h2 (.inl ⟨g,hn⟩)
 have z:c.has=true->c.after.ok:=fun g=>Z1 fun hn=>h2 (.inr ⟨g,hn⟩);cases e1:c.had with
 |true=>have:=(E e1).2.1.1;rw [KE e1]at this;exact this
 |false=>
  cases e2:c.has with
  |true=>have:=(z e2).2.1.1;rw [Hl e2]at this;exact this
  |false=>exact absurd (.inl ⟨by simp [e1],by simp [e2]⟩) m
variable{cs:List Chg}{i:Nat}{y x:Chg}
theorem XD{p:Int}(m:i=0/\y.t=-1\/0<i/\cs[i -1]?=some y)(h:Es p cs)(hx:cs[i]?=some x):y.lt x:=by
 rcases m with⟨h0,g⟩|⟨h0,g⟩
 · left;have:=pS (h.all i x hx);omega
 · exact h.ord (i -1) y x g (by rw [show i -1+1=i by omega];exact hx)
theorem vN(m:i=0/\y.t=-1\/0<i/\cs[i -1]?=some y)(h:y.lt x):i=0\/∃y,cs[i -1]?=some y/\y.lt x:=by
 rcases m with⟨h0,g⟩|⟨h0,g⟩
 · exact .inl h0
 · exact .inr ⟨y,g,h⟩
theorem Q3(p:Int)(q:C1)(cap:Nat)(cs:List Chg)(M:List AR)(hO:DJ M (.slice q cs.length cap) cs):BB prog 139 #[.agg #[I4 p,.slice q cs.length cap]] [M] (.bool (decide (Es p cs))):=by
 have af:=mL;obtain ⟨p9,Z,e9,ax,hg⟩:=hO;injection e9 with e91 e92 e93
 subst e91 e93;refine Se func139 ntmps139 [0] ?_;intro u R;refine A2<|Ze (Bx #[_,_])<|AE fun b1=>CT Y<|A2<|Zh 0 G3 V rfl A4 Y<|Zl A5 Y<|Ze (Ah (vs:=[_]) (cs:=[_]) HF A4 K1 Y V rfl V rfl V)<|AE fun b2=>Xr [_,_,_] Y call181 Y V (LZ _ 0 1 _ _ _ _ _ p V)<|Zv (Bp Y)<|Zm Y<|AZ (t:=11) Y V (fun hp=>?_) (fun hp=>?_);·
  refine Sk 7 V<|Z0<|Zn [1,18] ?_;refine Zx<|BV Y<|A2<|AM Y<|Zt<|AO rfl ey Y (by exact ⟨by rw [CC (fun h9:Es p cs=>by have E:=h9.pos;have G:=h9.len;exact hp E)],rfl⟩)
 refine Yf 1 G3 V rfl ID Y<|Yl J0 Y<|Yg (AJ GF Y)<|Ze (Ah (vs:=[_]) (cs:=[_]) HF A4 K1 Y V rfl V rfl V)<|AE fun b3=>Xr [_,_,_] Y call181 Y V (LZ _ 0 1 _ _ _ _ _ (cs.length:Int) V)<|Yg (Bp Y)<|H3 Y Y<|Z0<|Zn [1,18] ?_;refine Zx<|Ad Y (fun hl=>?_) (fun hl=>?_);·
  refine A2<|AM Y<|Zt<|AO rfl ey Y (by exact ⟨by rw [CC (fun h9:Es p cs=>by have E:=h9.pos;have G:=h9.len;(apply hl;omega))],rfl⟩)
 refine AB<|BT<|Zv (BK (vs:=[(0,_)]) (cs:=#[_,_,_,_,_,_,_,_,_,_]) Y (AY (pl:=#[(0,1),(1,1),(2,1),(3,3),(6,1),(7,3)]) MT CM (fun _=>by kernel_rfl) V))<|Ze (Al MT #[_,_,_,_,_,_,_,_,_,_])<|AE fun lb=>Xe (Ao D2 Y Y (by(simp [Value.oneCell',Value.cells];done)) Wu B5 DO Wn (by exact Aw _))<|A6<|Zq<|A2<|Zh 1 G3 rfl rfl ID Y<|Zl J0 Y<|Zv (AJ GF Y)<|Zm Y<|A6<|AQ<|Zb [23,3,21,22] ?_;refine Av (e0:=[(23,_)]) (fun m e H=>∃(i:Nat) (y:Chg),m=cs.length -i/\(i<=cs.length/\(∀(j:Nat) (c:Chg),j<i->cs[j]?=some c->c.ok)/\(∀(j:Nat) (b c:Chg),j+1<i->cs[j]?=some b->cs[j+1]?=some c->b.lt c)/\(i=0/\y.t=-1\/0<i/\cs[i -1]?=some y))/\e=[(23,I4 (i:Int))]/\H=[[(lb,.cells y.Ax2 126 (0,0))]]) (by exact ⟨0,⟨-1,0,false,V3.zero,false,V3.zero⟩,V,⟨by omega,by intro j c hj;omega,by intro j b c hj;omega,.inl ⟨V,V⟩⟩,V,V⟩) Wp ?_;rintro _ _ _ ⟨i,y,rfl,⟨hi,I,J,z⟩,rfl,rfl⟩;refine A2<|Zv (Ak Y Y)<|A6<|Zq<|Ad Y (fun O=>?_) (fun O=>?_);·
  obtain ⟨x,hx⟩:∃x,cs[i]?=some x:=⟨_,Bk O⟩;obtain ⟨g,off,cur,T,zz,rfl,hm,bf,U⟩:=hg i x hx;refine B3<|Zq<|AQ<|A2<|BN (A9 GF D2 Y Y A0)<|Cj (cs:=[(g,.cells cur T zz)]) (by simp [hm]) (A7 (cs:=x.Ax2) G1 D2 Y A0 U) V rfl<|Ze (Al MT #[_,_,_,_,_,_,_,_,_,_])<|AE fun b5=>Xe (Xw D2 _)<|A6<|Zq<|A2<|Zo Wh (Pa #[_,_,_,_,_,_,_,_,_,_] G1 D2 Y)<|Xr [_] Y call182 Y V (Ut x)<|Zv (Bp Y)<|Zm Y<|AZ (t:=30) Y V (fun K=>?_) (fun K=>?_);·
   refine Sk 20 V<|Z0<|Zn [3,5,21,22,23,50] ?_;refine Zx<|BV Y<|A2<|AM Y<|Zt<|AX<|Zt<|Zt<|AX<|Zt<|AO rfl ey Y (by exact ⟨by rw [CC (fun h9:Es p cs=>by have E:=XD z h9 hx;have G:=h9.all i x hx;unfold Chg.lt at E;exact K G)],rfl⟩)
  refine Yf 0 CM V rfl A4 Y<|Yl A5 Y<|Yf 0 CM V rfl A4 Y<|Yl A5 Y<|Yg (Dq Y Y)<|Sk 2 V ?_;refine AZ (t:=37) Y V (fun W=>?_) (fun W=>?_);·
   refine Sk 13 V<|Z0<|Zn [3,5,21,22,23,50] ?_;refine Zx<|BV Y<|A2<|AM Y<|Zt<|AX<|Zt<|Zt<|AX<|Zt<|AO rfl ey Y (by exact ⟨by rw [CC (fun h9:Es p cs=>by have E:=XD z h9 hx;have G:=h9.all i x hx;unfold Chg.lt at E;omega)],rfl⟩)
  refine Yf 0 CM V rfl A4 Y<|Yl A5 Y<|Yf 0 CM V rfl A4 Y<|Yl A5 Y<|Yg (Bd Y Y)<|Zf Y Y<|AZ (t:=43) Y V (fun X=>?_) (fun X=>?_);focus
   refine Yf 1 CM V rfl A4 Y<|Yl A5 Y<|Yf 1 CM V rfl A4 Y<|Yl A5 Y<|Yg (JB Y Y)<|Sk 2 V<|Z0<|Zn [3,5,21,22,23,50] ?_;refine Zx<|Ad Y (fun ho=>?_) (fun ho=>?_);refine A2<|AM Y<|Zt<|AX<|Zt<|Zt<|AX<|Zt<|AO rfl ey Y (by exact ⟨by rw [CC (fun h9:Es p cs=>by have E:=XD z h9 hx;have G:=h9.all i x hx;unfold Chg.lt at E;omega)],rfl⟩)
  rotate_left
  focus
   refine Sk 7 V<|Z0<|Zn [3,5,21,22,23,50] ?_;refine Zx<|DY Y ?_
  all_goals
   refine B3<|Zg<|Zo Wh (Pa x.Ax2 G1 D2 Y)<|Xe (Xw D2 _)<|Z0<|A8<|Zx<|GP Y Y Y<|HN (by exact ⟨i+1,x,V,⟨by omega,U5 I hx (Fi.1 K),TG J hx (vN z (by unfold Chg.lt;omega)),.inr ⟨by omega,hx⟩⟩,V,V⟩)
 refine Az<|Zt<|Zt<|AU<|BT<|AM Y<|AO rfl ey Y (by exact ⟨by rw [Cp (⟨by omega,by omega,fun j c hc=>I j c (by have:=(D3.1 hc).1;omega) hc,fun j b c hb hc=>J j b c (by have:=(D3.1 hc).1;omega) hb hc⟩:Es p cs)],rfl⟩)
def Cw(ls:List Int):List UInt8:=ls.flatMap MG
theorem De:∀(ls:List Int),(∀n∈ls,-4611686018427387903<=n/\n<=4611686018427387903)->(Cw ls).length<=ls.length*9
 |[],_=>by simp [Cw]
 |n::ls,h=>by
  have z:=De ls (fun m g=>h m (by simp [g]));have h2:=H9 n (h n C4).1 (h n C4).2
  unfold Cw at*;rw [L0,C7,GB];omega
theorem Qt(ls:List Int)(n:Int):Cw (ls++[n])=Cw ls++MG n:=by simp [Cw]
theorem SC(g off cap:Nat)(cur:As)(T:An)(z:Nat×Nat)(ls:List Int)(I:Ip cur off ls)(hn:ls.length<=1073741824)(K:∀n∈ls,-4611686018427387903<=n/\n<=4611686018427387903):
 BB prog 171 #[.slice (some ⟨g,off,none⟩) ls.length cap] [[(g,.cells cur T z)]] (.string (str (Cw ls))):=by
 have U:=mL;refine Se func171 ntmps171 [0] ?_;intro u R;refine A2<|AF Y<|A2<|AF Y<|C0 Y<|Zv (AJ HF Y)<|Zm Y<|A6<|AQ<|Zb [3,10,8,9] ?_;refine Av (e0:=[(3,_),(10,_)]) (fun m e H=>∃(i:Nat),m=ls.length -i/\(i<=ls.length)/\e=[(3,.string (str (Cw (ls.take i)))),(10,I4 (i:Int))]/\H=[]) (by exact ⟨0,V,CD _,V,V⟩) Wp ?_;rintro _ _ _ ⟨i,rfl,hi,rfl,rfl⟩;refine A2<|Zv (Ak Y Y)<|A6<|Zq<|Ad Y (fun G=>?_) (fun G=>?_);·
  obtain ⟨x,hx⟩:∃x,ls[i]?=some x:=⟨_,Bk G⟩;have E:=K x (Fm hx)
  have J:ls.take (i+1)=ls.take i++[x]:=by rw [OK,hx];rfl
  have W:=De (ls.take i) (fun m O=>K m (Ks O));have X:(ls.take i).length<=i:=cV ..
  have M:=H9 x E.1 E.2;refine B3<|Zq<|AQ<|A2<|BN (BO HF A4 Y Y A0)<|Zl A5 Y (hv:=by exact I i x hx)<|AF Y<|B7 Y<|Xr [_] Y call123 Y V (MW x E.1 E.2)<|Sk 4 V<|AF Y<|Zg<|Sk 2 V ?_;refine BN (EH Y Y (by rw [Be,Be];omega))<|AN Y<|Zn [3,8,9,10] ?_;refine A8<|Zx<|GP Y Y Y<|DH (e:=[(3,_),(10,_)]) (h:=by exact ⟨i+1,rfl,by omega,by rw [J,Qt,<-Ec],rfl⟩)
 refine Az<|Zt<|Zt<|AU<|Zx<|B7 Y<|AM Y<|AO rfl results171 Y (by exact ⟨by rw [Hx A0],rfl⟩)
theorem dz(s:List UInt8):BB prog 161 #[.string (str s)] [] (.bool (decide (s.length=32))):=by
 have g:=Be s;refine Se func161 ntmps161 [0] ?_;intro u R;refine A2<|AF Y<|B7 Y<|Zv (Da HM Y)<|Zv (Bg (n:=32) Y Y)<|AM Y<|AO rfl results161 Y (by exact ⟨by rw [g],rfl⟩)
theorem TQ(p:Int)(a b:List UInt8):BB prog 119 #[.agg #[I4 p,.string (str a),.string (str b)]] [] (.bool (decide ((0<=p/\p<=10000)/\a.length=32/\b.length=32))):=by
 refine Se func119 ntmps119 [0] ?_;intro u R;refine A2<|Ze (Bx #[_,_,_])<|AE fun G=>AF Y<|A2<|Zh 0 Hc V rfl A4 Y<|Zl A5 Y<|Zv (Fa Y Y)<|Zm Y<|AZ (t:=6) Y V (fun g=>?_) (fun g=>?_);focus
  refine Yf 0 Hc V rfl A4 Y<|Yl A5 Y<|Yg (JB Y Y)<|Sk 2 V ?_;refine AZ (t:=11) Y V (fun h2=>?_) (fun h2=>?_);focus
   refine Yf 1 Hc V rfl F2 Y<|Yl HG Y<|Xr [_] Y call161 Y V (dz a)<|Sk 2 V ?_;refine AZ (t:=16) Y V (fun m=>?_) (fun m=>?_);focus
    refine Yf 2 Hc V rfl F2 Y<|Yl HG Y<|Xr [_] Y call161 Y V (dz b)<|Zv (Ay Y Y) ?_
   rotate_left
   focus
    refine Sk 4 V ?_
   all_goals
    refine AN Y<|Zn [2] ?_;refine Zx<|AC<|AO V results119 Y (by exact ⟨by(simp_all;done),V⟩)
 rotate_left
 focus
  refine Sk 5 V ?_
 all_goals
  refine Sk 9 V<|AN Y<|Zn [2] ?_;refine Zx<|AC<|AO rfl results119 Y (by exact ⟨by rw [CC (fun z=>by have E:=z.1;omega)],rfl⟩)
structure D5 where
 p:Int
 ch:List UInt8
 st:List UInt8
variable{sz:Nat}{e:An}{v:A3}{xs:List A3}{s:List AR}
theorem J7{k:Nat}(h:BS sz e v k xs s)(i:Nat)(hi:i<k):∃g cap cur z,v=I6 g k cap/\s=[(g,.cells cur e z)]/\i*sz+sz<=cur.size/\(cur.extract (i*sz) (i*sz+sz)).toList=(xs.drop (i*sz)).take sz:=by
 obtain ⟨K,⟨_,h0,_⟩|⟨g,cap,cur,z,rfl,rfl,E,hc,G,m,J⟩⟩:=h;· omega
 · have I:i*sz+sz<=k*sz:=by
    have:=T7 sz (Nat.succ_le_of_lt hi);rw [Nat.succ_mul]at this;exact this
   have h2:k*sz<=cap*sz:=T7 sz E;refine ⟨g,cap,cur,z,V,V,by omega,?_⟩;rw [<-m,Array.toList_extract,List.extract_eq_take_drop,kc,Wc];congr 1;omega
def Aa(rs:List AV):List A3:=rs.flatMap (fun r=>[I4 r.t,I4 r.k,I4 r.v.a,I4 r.v.b,I4 r.v.c])
theorem Hg{α:Type}(f:α->List A3)(sz:Nat)(g:∀a,(f a).length=sz):∀(l:List α) (i:Nat) (a:α),l[i]?=some a->((l.flatMap f).drop (i*sz)).take sz=f a
 |x::l,0,a,h=>by
  injection h with h;subst h
  rw [Wf,RR,L0,aw (by rw [g];exact B4 _),Hx (by rw [g];exact B4 _)]
 |x::l,i+1,a,h=>by
  have m:(f x++l.flatMap f).drop sz=l.flatMap f:=by
   have z:=List.drop_left (l₁:=f x) (l₂:=l.flatMap f);rwa [g]at z
  rw [L0,Nat.succ_mul,Nat.add_comm,<-eh,m];exact Hg f sz g l i a h
variable{rs:List AV}
theorem Kq(h:BS 5 e v rs.length (Aa rs) s)(hn:rs.length<=maxLen):fw s v rs:=by
 obtain ⟨b,cap,rfl⟩:=h.form;refine ⟨b,cap,V,hn,fun i r G=>?_⟩;obtain ⟨g,E,cur,z,hv,rfl,I,m⟩:=J7 h i (D3.1 G).1;injection hv with hv1 hv2 hv3
 refine ⟨g,0,cur,e,z,hv1,HA.2 V,by omega,?_⟩;rw [Dd];apply L5.1;rw [m];exact Hg _ 5 (fun _=>rfl) rs i r G
def DT(cs:List Chg):List A3:=cs.flatMap (fun c=>[I4 c.t,I4 c.k,.bool c.had,I4 c.o.a,I4 c.o.b,I4 c.o.c,.bool c.has,I4 c.n.a,I4 c.n.b,I4 c.n.c])
theorem WC{rs:List Chg}(h:BS 10 e v rs.length (DT rs) s)(hn:rs.length<=maxLen):DJ s v rs:=by
 obtain ⟨b,cap,rfl⟩:=h.form;refine ⟨b,cap,V,hn,fun i r G=>?_⟩;obtain ⟨g,E,cur,z,hv,rfl,I,m⟩:=J7 h i (D3.1 G).1;injection hv with hv1 hv2 hv3
 refine ⟨g,0,cur,e,z,hv1,HA.2 V,by omega,?_⟩;rw [Dd];apply L5.1;rw [m];exact Hg _ 10 (fun _=>rfl) rs i r G
def Ik(hs:List D5):List A3:=hs.flatMap (fun h=>[I4 h.p,.string (str h.ch),.string (str h.st)])
theorem MZ:∀(rs:List AV) (t k:Int),BP rs->∃A B,rs=A++B/\A.length=EL rs t k/\(∀r∈A,r.lt2 t k)/\(∀r∈B,¬r.lt2 t k)
 |[],t,k,_=>⟨[],[],rfl,rfl,by simp,by simp⟩
 |r::rs,t,k,hs=>by
  have g:=TX.1 hs;by_cases h:r.lt2 t k
  · obtain ⟨A,B,m,h2,z,E⟩:=MZ rs t k g.2
    refine ⟨r::A,B,by rw [m];rfl,?_,?_,E⟩
    · unfold EL at*
      rw [cC,B2 (by simpa using h),GB,GB,h2]
    · intro x hx
      rcases H4.1 hx with rfl|hx
      · exact h
      · exact z x hx
  · refine ⟨[],r::rs,rfl,?_,by simp,?_⟩
    · unfold EL
      rw [cC,Ax (by simpa using h)]
    · intro x hx hc
      rcases H4.1 hx with rfl|hx
      · exact h hc
      · exact h (QU (g.1 x hx) hc)
variable{k t:Int}
theorem Vq{r:AV}(h:r.is t k):¬r.lt2 t k:=by unfold AV.is AV.lt2 at*;omega
theorem LG{r:AV}(m:BP rs)(I:r∈rs)(h:r.is t k):Gq rs t k=(r,true):=by
 obtain ⟨A,B,g,h2,J,K⟩:=MZ rs t k m;have G:r∈B:=by
  rw [g]at I;rcases GS.1 I with h9|h9
  · exact absurd (J r h9) (Vq h)
  · exact h9
 cases B with
 |nil=>cases G
 |cons b B=>
  have O:b=r:=by
   rcases H4.1 G with h9|h9
   · exact h9.symm
   · exfalso
     have z:BP (b::B):=by rw [g]at m;exact (RE.1 m).2.1
     have E:=(TX.1 z).1 r h9;have M:=K b C4
     unfold AV.is at h;rw [h.1,h.2]at E;exact M E
  subst O;have U:rs[EL rs t k]?=some b:=by rw [<-h2,g,Ss (B4 _),Tr];rfl
  unfold Gq;rw [U];simp only;rw [B2 h]
theorem QX(h:∀r∈rs,¬r.is t k):Gq rs t k=(AV.zero,false):=by
 unfold Gq;split
 · rename_i r hr
   rw [Ax (h r (Fm hr))]
 · rfl
theorem KC(h:(Gq rs t k).2=true):∃r∈rs,r.is t k/\rs[EL rs t k]?=some r/\Gq rs t k=(r,true):=by
 unfold Gq at*;split at h
 · rename_i r hr
   split at h
   · rename_i hi
     exact ⟨r,Fm hr,hi,hr,by rw [B2 hi]⟩
   · cases h
 · cases h
def Gy(rs:List AV)(c:Chg):Prop:=(Gq rs c.t c.k).2=c.had/\((Gq rs c.t c.k).2=true->(Gq rs c.t c.k).1.v=c.o)
def OA(c:Chg):List AV:=if c.has then [⟨c.t,c.k,c.n⟩]else []
def Ej(rs:List AV)(c:Chg):List AV:=rs.take (EL rs c.t c.k)++OA c++(rs.drop (EL rs c.t c.k)).drop (if c.had then 1 else 0)
theorem PO{x:AV}:x∈OA c↔c.has=true/\x=⟨c.t,c.k,c.n⟩:=by
 unfold OA;cases c.has<;>simp
theorem QB(G:BP rs)(hf:Gy rs c):∃A B,Ej rs c=A++OA c++B/\(∀x,x∈rs↔x∈A\/x∈B\/(x∈rs/\x.is c.t c.k))/\BP A/\BP B/\(∀r∈A,r.lt2 c.t c.k)/\(∀r∈B,c.t<r.t\/c.t=r.t/\c.k<r.k)/\rs.length=A.length+B.length+(if c.had then 1 else 0):=by
 obtain ⟨A,B,g,h2,Z,h4⟩:=MZ rs c.t c.k G;have J:BP A:=by rw [g]at G;exact (RE.1 G).1
 have K:BP B:=by rw [g]at G;exact (RE.1 G).2.1
 have W:rs.take (EL rs c.t c.k)=A:=by rw [<-h2,g,L7 rfl]
 have O:rs.drop (EL rs c.t c.k)=B:=by rw [<-h2,g,SJ rfl]
 unfold Ej;rw [W,O];have z:∀x∈B,¬x.is c.t c.k->c.t<x.t\/c.t=x.t/\c.k<x.k:=fun x hx hn=>by
  have E:=h4 x hx;unfold AV.lt2 at E;unfold AV.is at hn;omega
 cases hh:c.had with
 |false=>
  have U:∀r∈rs,¬r.is c.t c.k:=fun r I hi=>by
   have E:=hf.1;rw [LG G I hi,hh]at E;cases E
  refine ⟨A,B,by simp,fun x=>?_,J,K,Z,fun r I=>z r I (U r (by rw [g];exact G2 _ I)),by rw [g];simp⟩;rw [g,GS];constructor
  · rintro (h|h)
    · exact .inl h
    · exact .inr (.inl h)
  · rintro (h|h|⟨h,_⟩)
    · exact .inl h
    · exact .inr h
    · exact h
 |true=>
  obtain ⟨r,I,hi,hp,hg⟩:=KC (by rw [hf.1,hh]:(Gq rs c.t c.k).2=true);have M:B[0]?=some r:=by rw [<-h2,g,Ss (B4 _),Tr]at hp;exact hp
  cases B with
  |nil=>cases M
  |cons b B=>
   injection M with M
   subst M;have m:=TX.1 K
   refine ⟨A,B,by simp,fun x=>?_,J,m.2,Z,fun x hx=>?_,by rw [g];simp;omega⟩
   · constructor
     · intro hx
       have X:=hx;rw [g]at hx;rcases GS.1 hx with h|h
       · exact .inl h
       · rcases H4.1 h with rfl|h
         · exact .inr (.inr ⟨X,hi⟩)
         · exact .inr (.inl h)
     · rintro (h|h|⟨h,_⟩)
       · rw [g];exact HE _ h
       · rw [g];exact G2 _ (Mu _ h)
       · exact h
   · have E:=m.1 x hx
     unfold AV.lt2 at E;unfold AV.is at hi;omega
theorem Gp(K:BP rs)(J:Gy rs c)(x:AV):x∈Ej rs c↔(x∈rs/\¬x.is c.t c.k)\/(c.has=true/\x=⟨c.t,c.k,c.n⟩):=by
 obtain ⟨A,B,E,h2,_,_,G,I,_⟩:=QB K J;rw [E,GS,GS,PO];have m:∀x∈A,¬x.is c.t c.k:=fun x hx hi=>Vq hi (G x hx)
 have z:∀x∈B,¬x.is c.t c.k:=fun x hx hi=>by have g:=I x hx;unfold AV.is at hi;omega
 constructor
 · rintro ((h|h)|h)
   · exact .inl ⟨(h2 x).2 (.inl h),m x h⟩
   · exact .inr h
   · exact .inl ⟨(h2 x).2 (.inr (.inl h)),z x h⟩
 · rintro (⟨h,hn⟩|h)
   · rcases (h2 x).1 h with g|g|⟨_,g⟩
     · exact .inl (.inl g)
     · exact .inr g
     · exact absurd g hn
   · exact .inl (.inr h)
theorem Jz(O:BP rs)(M:Gy rs c):BP (Ej rs c):=by
 obtain ⟨A,B,I,_,J,K,E,G,_⟩:=QB O M;rw [I];have m:∀a b:AV,a.lt2 c.t c.k->(c.t<b.t\/c.t=b.t/\c.k<b.k)->a.lt2 b.t b.k:=fun a b g z=>by unfold AV.lt2 at*;omega
 refine RE.2 ⟨RE.2 ⟨J,?_,?_⟩,K,?_⟩;· unfold OA;split<;>simp
 · intro a g b z
   obtain ⟨_,rfl⟩:=PO.1 z;exact E a g
 · intro a g b z
   rcases GS.1 g with g|g
   · exact m a b (E a g) (G b z)
   · obtain ⟨_,rfl⟩:=PO.1 g
     have:=G b z;unfold AV.lt2;simp only;omega
theorem vJ(E:BP rs)(z:Gy rs c):((Ej rs c).length:Int)=rs.length+(if c.has then 1 else 0) -(if c.had then 1 else 0):=by
 obtain ⟨A,B,g,_,_,_,_,_,m⟩:=QB E z;rw [g,m];unfold OA;cases c.has<;>cases c.had<;>simp<;>omega
theorem w9(z:BP rs)(E:Gy rs c)(G:¬(c.t=t/\c.k=k)):Gq (Ej rs c) t k=Gq rs t k:=by
 cases hg:(Gq rs t k).2 with
 |true=>
  obtain ⟨r,m,hi,_,I⟩:=KC hg;rw [I];exact LG (Jz z E) ((Gp z E r).2 (.inl ⟨m,fun h=>by unfold AV.is at h hi;omega⟩)) hi
 |false=>
  have g:∀r∈rs,¬r.is t k:=fun r m hi=>by rw [LG z m hi]at hg;cases hg
  rw [QX g];refine QX fun r m hi=>?_;rcases (Gp z E r).1 m with⟨h,_⟩|⟨_,rfl⟩
  · exact g r h hi
  · exact G hi
def Du(rs:List AV)(cs:List Chg):List AV:=cs.foldl Ej rs
theorem Gi(rs:List AV)(cs:List Chg)(i:Nat)(c:Chg)(h:cs[i]?=some c):Du rs (cs.take (i+1))=Ej (Du rs (cs.take i)) c:=by
 unfold Du;rw [OK,h,RM];rfl
def wU(cs:List Chg):Prop:=∀(i j:Nat) (b c:Chg),i<j->cs[i]?=some b->cs[j]?=some c->b.lt c
theorem mK{a b:Chg}(h:a.lt b)(h2:b.lt c):a.lt c:=by unfold Chg.lt at*;omega
theorem U2(h:∀(i:Nat) (b c:Chg),cs[i]?=some b->cs[i+1]?=some c->b.lt c):wU cs:=by
 intro i j b c g m hc;obtain ⟨d,rfl⟩:∃d,j=i+1+d:=⟨j -(i+1),by omega⟩;clear g;induction d generalizing c with
 |zero=>exact h i b c m hc
 |succ d ih=>
  obtain ⟨x,hx⟩:∃x,cs[i+1+d]?=some x:=by
   have:=(D3.1 hc).1;exact ⟨_,Bk A0⟩
  exact mK (ih x hx) (h (i+1+d) x c hx hc)
theorem LH{rs:List AV}{cs:List Chg}(I:BP rs)(E:wU cs)(G:∀c∈cs,Gy rs c):∀i,i<=cs.length->BP (Du rs (cs.take i))/\∀(j:Nat) (c:Chg),i<=j->cs[j]?=some c->Gy (Du rs (cs.take i)) c
 |0,_=>⟨I,fun j c _ hc=>G c (Fm hc)⟩
 |i+1,hi=>by
  obtain ⟨z,h2⟩:=LH I E G i A0;obtain ⟨x,hx⟩:∃x,cs[i]?=some x:=⟨_,Bk A0⟩;rw [Gi rs cs i x hx];have g:=h2 i x (B4 _) hx
  refine ⟨Jz z g,fun j c K hc=>?_⟩;have m:=E i j x c A0 hx hc
  have J:=h2 j c A0 hc;unfold Gy at*;rw [w9 z g (by unfold Chg.lt at m;omega)];exact J
def NY(c:Chg):Int:=(if c.has then 1 else 0) -(if c.had then 1 else 0)
def IG(rs:List AV)(cs:List Chg):Int:=cs.foldl (fun n c=>n+NY c) (rs.length:Int)
theorem Ic(rs:List AV)(cs:List Chg)(i:Nat)(c:Chg)(h:cs[i]?=some c):IG rs (cs.take (i+1))=IG rs (cs.take i)+NY c:=by
 unfold IG;rw [OK,h,RM];rfl
theorem nX(c:Chg):-1<=NY c/\NY c<=1:=by unfold NY;split<;>split<;>omega
theorem Om(rs:List AV)(cs:List Chg):∀i,(rs.length:Int) -i<=IG rs (cs.take i)/\IG rs (cs.take i)<=rs.length+i
 |0=>by unfold IG;simp
 |i+1=>by
  have m:=Om rs cs i;cases h:cs[i]?with
  |none=>rw [OK,h];simp only [Option.toList,HT];omega
  |some c=>have g:=nX c;rw [Ic rs cs i c h];omega
theorem OC{rs:List AV}{cs:List Chg}(z:BP rs)(g:wU cs)(m:∀c∈cs,Gy rs c):∀i,i<=cs.length->((Du rs (cs.take i)).length:Int)=IG rs (cs.take i)
 |0,_=>rfl
 |i+1,hi=>by
  obtain ⟨x,hx⟩:∃x,cs[i]?=some x:=⟨_,Bk A0⟩;have G:=OC z g m i A0
  obtain ⟨E,h2⟩:=LH z g m i A0;rw [Gi rs cs i x hx,Ic rs cs i x hx,vJ E (h2 i x (B4 _) hx),G];unfold NY;omega
structure Ns(rs:List AV)(p rp:Int)(cs:List Chg):Prop where
 ok:Es rp cs
 pos:rp=p+1
 fit:∀c∈cs,Gy rs c
 size:IG rs cs<=2000
theorem PV(h:∀c∈cs.take i,Gy rs c)(hx:cs[i]?=some x)(g:Gy rs x):∀c∈cs.take (i+1),Gy rs c:=by
 rw [OK,hx];intro c hc;rcases GS.1 hc with h9|h9
 · exact h c h9
 · rw [HA.1 h9];exact g
theorem BR(a b:List AV):Aa (a++b)=Aa a++Aa b:=by unfold Aa;rw [O2]
theorem BG:∀(rs:List AV),(Aa rs).length=rs.length*5
 |[]=>rfl
 |r::rs=>by
  have:=BG rs;unfold Aa at*;rw [L0,C7,this,GB];simp;omega
theorem DV(rs:List AV)(k:Nat):(Aa rs).take (k*5)=Aa (rs.take k):=by
 rcases FA rs.length k with h|h
 · rw [Hx (by rw [BG];omega),Hx A0]
 · have e:Aa rs=Aa (rs.take k)++Aa (rs.drop k):=by rw [<-BR,Ln]
   rw [e,L7 (by rw [BG,CI];omega)]
theorem DF(rs:List AV)(k:Nat):(Aa rs).drop (k*5)=Aa (rs.drop k):=by
 rcases FA rs.length k with h|h
 · rw [S3 (by rw [BG];omega),S3 A0];rfl
 · have e:Aa rs=Aa (rs.take k)++Aa (rs.drop k):=by rw [<-BR,Ln]
   rw [e,SJ (by rw [BG,CI];omega)]
theorem CK(rs:List AV):∀u∈Aa rs,u.oneCell'=true:=by
 intro u g;unfold Aa at g;obtain ⟨r,_,h⟩:=cE.1 g;simp only [H4,PJ,R0]at h;rcases h with rfl|rfl|rfl|rfl|rfl<;>rfl
theorem BJ{n n':Nat}{xs':List A3}(h:BS sz e v n xs s)(hn:n=n')(hx:xs=xs'):BS sz e v n' xs' s:=by subst hn hx;exact h
theorem Ew{b:C1}{n c:Nat}(h:BS sz e (.slice b n c) n xs s):n<=c:=by
 obtain ⟨_,⟨hv,h0,_⟩|⟨_,_,_,_,hv,_,h2,_⟩⟩:=h;· omega
 · injection hv with _ _ hv3;omega
theorem Uo(sz:Nat)(b:C1)(c:Nat):MB sz (.slice b 0 c) 0 [] []:=⟨by simp,.inl ⟨rfl,b,c,rfl⟩⟩
theorem D7(sz g k c:Nat)(e:An)(z:Nat×Nat)(xs:List A3)(h:xs.length=k*sz):MB sz (I6 g k c) k xs [(g,.cells xs.toArray e z)]:=
 ⟨h,.inr ⟨g,0,c,xs.toArray,e,z,rfl,rfl,by unfold CY;rw [RR];simp⟩⟩
theorem X7(h:c.has=true):OA c=[⟨c.t,c.k,c.n⟩]:=B2 h
theorem X8(h:c.has=false):OA c=[]:=Ax (by rw [h];decide)
theorem wY(hx:cs[i]?=some x)(g:x.had=true)(h2:x.has=true):IG rs (cs.take (i+1))=IG rs (cs.take i) -1+1:=by rw [Ic rs cs i x hx];unfold NY;rw [B2 h2,B2 g];omega
theorem wZ(hx:cs[i]?=some x)(g:x.had=true)(h2:x.has=false):IG rs (cs.take (i+1))=IG rs (cs.take i) -1:=by rw [Ic rs cs i x hx];unfold NY;rw [Ax (by rw [h2];decide),B2 g];omega
theorem wh(hx:cs[i]?=some x)(g:x.had=false)(h2:x.has=true):IG rs (cs.take (i+1))=IG rs (cs.take i)+1:=by rw [Ic rs cs i x hx];unfold NY;rw [B2 h2,Ax (by rw [g];decide)];omega
theorem wm(hx:cs[i]?=some x)(g:x.had=false)(h2:x.has=false):IG rs (cs.take (i+1))=IG rs (cs.take i):=by rw [Ic rs cs i x hx];unfold NY;rw [Ax (by rw [h2];decide),Ax (by rw [g];decide)];omega
theorem YP(sp:Nat)(p rp:Int)(v:A3)(rs:List AV)(sv M:List AR)(q:C1)(ax:Nat)(cs:List Chg)(ek:BS 5 91 v rs.length (Aa rs) sv)(hO:DJ M (.slice q cs.length ax) cs)(hs:BP rs)(hn:rs.length<=2000)(hp:0<=p/\p<=10000):
 CJ prog 30 #[I5 sp,.agg #[I4 rp,.slice q cs.length ax]] [[(sp,.cells #[v,I4 p] 138 (0,0))],sv,M] (fun r H'=>(Ns rs p rp cs/\∃v' p8,r=I4 0/\BS 5 91 v' (Du rs cs).length (Aa (Du rs cs)) p8/\H'=[[(sp,.cells #[v',I4 rp] 138 (0,0))],p8,M])\/(¬Ns rs p rp cs/\r=I4 40/\H'=[[(sp,.cells #[v,I4 p] 138 (0,0))],sv,M])):=by
 have r9:=mL;obtain ⟨qv,lv,rfl⟩:=ek.form;have pg:=Kq ek A0
 obtain ⟨p9,qo,e9,sj,hg⟩:=id hO;injection e9 with e91 e92 e93
 subst e91 e93;refine Se func30 ntmps30 [0,1] ?_;intro u R;refine A2<|Ze (Bx #[_,_])<|AE fun rb=>AF Y<|A2<|Zo Wh (Pa #[_,_] J1 Fk Y) ?_;refine Xr [_] Y call74 Y V (NH rp q ax cs M hO) ?_;refine CT Y<|Zq<|Au (n:=12) (0::1::3::7::15::7::39::103::231::487::1023::2047::[]) 0 AG AG V<|A1 0 V (AA Y)<|A1 1 V (Bp Y)<|A1 2 V (AA Y)<|CS (t:=23) Y (fun hv=>?_) (fun hv=>?_);·
  rw [Cp hv];refine AK 3 V<|AK 4 V<|AK 5 V<|AK 6 V<|AK 7 V<|AK 8 V<|AK 9 V<|AK 10 V<|A1 11 V (Ay Y Y)<|Am<|Zn [0,3,32] ?_;refine Zx<|BV Y<|A2<|AM Y<|Zt<|AO V fN Y (by exact .inr ⟨fun h=>hv h.ok,V,V⟩)
 rw [CC hv];refine B1 3 V (AL (off:=0) G3 V rfl A4 Y)<|DG 4 V Wh (BZ A5 Y B5) ?_;refine B1 5 V (AA Y)<|B1 6 V (EY Y V)<|B1 7 V (AL (off:=1) MD V rfl A4 Y)<|DG 8 V Wh (BZ A5 Y B5) ?_
 (refine B1 9 rfl (Fw Y Y (IntWalk.i64_in _ ?_)) ?_;(focus (omega)))
 refine B1 10 V (ED Y Y)<|A1 11 V (BC Y Y)<|Am<|Zn [0,3,32] ?_;refine Zx<|Ad Y (fun d9=>?_) (fun d9=>?_);·
  refine A2<|AM Y<|Zt<|AO V fN Y (by exact .inr ⟨fun h=>d9 h.pos,V,V⟩)
 refine B3<|Zq ?_;have l9:=Fi.1 hv
 have qa:=Fi.1 d9;have qx:=l9.len
 have kv:=U2 l9.ord;refine Zg<|Zm Y<|Zp Y V<|Zh 0 MD V rfl Cl Y<|Zl DQ Y ?_;refine Zv (AJ B0 Y)<|CT Y<|A2<|AF Y<|AQ<|Zb [6,7,0,3] ?_;refine Av (e0:=[(6,_),(7,_)]) (fun m e H=>∃(i:Nat),m=cs.length -i/\(i<=cs.length/\(∀c∈cs.take i,Gy rs c))/\e=[(6,I4 (IG rs (cs.take i))),(7,I4 (i:Int))]/\H=[]) (by exact ⟨0,V,⟨CD _,by simp⟩,V,V⟩) Wp ?_;rintro _ _ _ ⟨i,rfl,⟨hi,K⟩,rfl,rfl⟩;have o9:=Om rs cs i
 refine C0 Y<|Zh 1 G3 V rfl ID Y<|Zl J0 Y ?_;refine Zv (AJ GF Y)<|Zv (Ak Y Y)<|A6<|Ad Y (fun cu=>?_) (fun cu=>?_);·
  refine B3<|Zq<|AQ<|Zq ?_;obtain ⟨x,hx⟩:∃x,cs[i]?=some x:=⟨_,Bk cu⟩;obtain ⟨g,off,cur,T,zz,rfl,hm,qb,l8⟩:=hg i x hx;refine Zg<|Zh 1 G3 V rfl ID Y<|Zl J0 Y ?_;refine Zm Y<|BN (A9 GF D2 Y Y A0)<|Cj (cs:=[(g,.cells cur T zz)]) (by simp [hm]) (A7 (cs:=x.Ax2) G1 D2 Y A0 l8) V rfl ?_;refine Ze (Al MT #[_,_,_,_,_,_,_,_,_,_])<|AE fun cb=>Xe (Xw D2 x.Ax2) ?_;refine A6<|B7 Y<|Zh 0 CM V rfl A4 Y<|Zl A5 Y ?_;refine Zh 1 CM V rfl A4 Y<|Zl A5 Y ?_;refine Xr [_,_,_] Y call75 Y V (oO sp qv lv p x.t x.k rs sv pg A0 hs) ?_;obtain ⟨gr,bn⟩:∃gr,gr=Gq rs x.t x.k:=⟨_,rfl⟩;rw [<-bn];refine Sk 3 V<|Ze (Al DS #[_,_,_,_,_])<|AE fun xb=>Xe (Xw AW #[I4 gr.1.t,I4 gr.1.k,I4 gr.1.v.a,I4 gr.1.v.b,I4 gr.1.v.c]) ?_;refine AN Y<|Zn [0,3,6,7,8,9,10] ?_;refine Zx<|C0 Y<|Zh 2 CM V rfl DP Y<|Zl Fc Y ?_;refine Zv (Ho MY Y Y)<|Zm Y<|AZ (t:=63) Y V (fun gm=>?_) (fun gm=>?_);·
   refine Sk 9 V<|Z0<|Zn [0,3,6,7,8,72] ?_;refine Zx<|BV Y<|A2<|AM Y<|Zt<|AX<|Zt<|Zt<|AX<|Zt<|AO rfl fN Y (by exact .inr ⟨fun h=>by have h9:=(h.fit x (Fm hx)).1;rw [<-bn]at h9;exact gm h9,rfl,rfl⟩)
  refine Sk 2 V ?_;refine Ae (t:=65) Y V (fun gq=>?_) (fun gq=>?_);focus
   refine Yf 2 F1 V rfl Dg Y<|DK Y Wh (Pa #[_,_,_] Hv Dg Y) V rfl ?_;refine Yf 3 CM V rfl Dg Y<|DK Y Wh (A7 (cs:=#[_,_,_]) Hv Dg Y BW B5) V rfl ?_;refine Yg (Lh AG HS Ge A5 A4 Y Y) ?_;refine Sk 2 V<|Z0<|Zn [0,3,6,7,8,72] ?_;refine Zx<|Ad Y (fun kz=>?_) (fun kz=>?_);·
    refine A2<|AM Y<|Zt<|AX<|Zt<|Zt<|AX<|Zt<|AO rfl fN Y (by exact .inr ⟨fun h=>by have h9:=(h.fit x (Fm hx)).2;rw [<-bn]at h9;exact kz (h9 gq),rfl,rfl⟩)
   focus
    refine B3<|Zq<|Zq ?_;have X:Gy rs x:=by
     unfold Gy;rw [<-bn];refine ⟨by simpa using gm,fun h=>?_⟩;exact Fi.1 kz
  rotate_left
  focus
   refine Sk 7 V<|Z0<|Zn [0,3,6,7,8,72] ?_;refine Zx<|DY Y<|B3<|Zq<|Zq ?_;have X:Gy rs x:=by
    unfold Gy;rw [<-bn];refine ⟨by simpa using gm,fun h=>?_⟩
    (rw [h]at gq;cases gq)
  all_goals
   refine Zg<|Zh 2 CM V rfl DP Y<|Zl Fc Y ?_;refine A6<|Af Y (fun G=>?_) (fun G=>?_);·
    refine Zg<|Zm Y ?_
    (refine BN (GI Y Y (IntWalk.i64_in _ ?_)) ?_;(focus (omega)))
    refine AF Y<|A2<|Zh 6 CM V rfl DP Y<|Zl Fc Y ?_;refine A6<|Af Y (fun z=>?_) (fun z=>?_);·
     refine Zg<|Zm Y<|Yi Y Y<|AN Y<|A8<|Zx<|Zg<|Zm Y<|Ya (n:=1) Y Y<|AN Y<|DH (e:=[(6,_),(7,_)]) (h:=by exact ⟨i+1,rfl,⟨by omega,PV K hx X⟩,by rw [wY hx G z],rfl⟩)
    refine AB<|A8<|Zx<|Zg<|Zm Y<|Ya (n:=1) Y Y<|AN Y<|DH (e:=[(6,_),(7,_)]) (h:=by exact ⟨i+1,rfl,⟨by omega,PV K hx X⟩,by rw [wZ hx G z],rfl⟩)
   refine AB<|BT<|Zh 6 CM V rfl DP Y<|Zl Fc Y ?_;refine A6<|Af Y (fun z=>?_) (fun z=>?_);·
    refine Zg<|Zm Y<|Yi Y Y<|AN Y<|A8<|Zx<|Zg<|Zm Y<|Ya (n:=1) Y Y<|AN Y<|DH (e:=[(6,_),(7,_)]) (h:=by exact ⟨i+1,rfl,⟨by omega,PV K hx X⟩,by rw [wh hx G z],rfl⟩)
   refine AB<|A8<|Zx<|Zg<|Zm Y<|Ya (n:=1) Y Y<|AN Y<|DH (e:=[(6,_),(7,_)]) (h:=by exact ⟨i+1,rfl,⟨by omega,PV K hx X⟩,by rw [wm hx G z],rfl⟩)
 have ei:i=cs.length:=by omega
 subst ei;rw [HJ]at K o9⊢;refine Az<|Zt<|Zt<|AU<|Zx<|C0 Y<|Zv (EE Y Y)<|A6<|Ad Y (fun mR=>?_) (fun mR=>?_);·
  refine A2<|AM Y<|Zt<|AO V fN Y (by exact .inr ⟨fun h=>by have h9:=h.size;omega,V,V⟩)
 refine B3<|Zq<|A2<|AF Y<|AQ<|Zb [11,0,3] ?_;refine Av (e0:=[(11,_)]) (fun m e H=>∃(i:Nat) (w:A3) (sw:List AR),m=cs.length -i/\(i<=cs.length/\BS 5 91 w (Du rs (cs.take i)).length (Aa (Du rs (cs.take i))) sw)/\e=[(11,I4 (i:Int))]/\H=[[(sp,.cells #[w,I4 p] 138 (0,0))],sw]) (by exact ⟨0,_,sv,V,⟨CD _,ek⟩,V,V⟩) Wp ?_;rintro _ _ _ ⟨i,w,sw,rfl,⟨hi,J⟩,rfl,rfl⟩;obtain ⟨oq,o8⟩:=LH hs kv K i hi;have q9:=OC hs kv K i hi
 have o9:=Om rs cs i;obtain ⟨E,gy⟩:∃E,E=Du rs (cs.take i):=⟨_,rfl⟩;rw [<-gy]at J oq q9 o8;obtain ⟨qw,bf,rfl⟩:=J.form;have qy:=Ew J
 have pq:=Kq J A0;refine C0 Y<|Zh 1 G3 V rfl ID Y<|Zl J0 Y ?_;refine Zv (AJ GF Y)<|Zv (Ak Y Y)<|A6<|Ad Y (fun cu=>?_) (fun cu=>?_);·
  refine B3<|Zq<|AQ<|Zq ?_;obtain ⟨x,hx⟩:∃x,cs[i]?=some x:=⟨_,Bk cu⟩;obtain ⟨g,off,cur,T,zz,rfl,hm,qb,l8⟩:=hg i x hx;have X:=o8 i x (B4 _) hx
  have cO:=VR E x.t x.k;have I:Ej E x=E.take (EL E x.t x.k)++OA x++(E.drop (EL E x.t x.k)).drop (if x.had then 1 else 0):=rfl
  obtain ⟨k,hk⟩:∃k,k=EL E x.t x.k:=⟨_,rfl⟩;have pz:x.had=true->k<E.length:=fun h=>by
   obtain ⟨r,_,_,h9,_⟩:=KC (by rw [X.1,h]:(Gq E x.t x.k).2=true);rw [<-hk]at h9;exact (D3.1 h9).1
  rw [<-hk]at cO I;refine Zg<|Zh 1 G3 V rfl ID Y<|Zl J0 Y ?_;refine Zm Y<|BN (A9 GF D2 Y Y A0)<|Cj (cs:=[(g,.cells cur T zz)]) (by simp [hm]) (A7 (cs:=x.Ax2) G1 D2 Y A0 l8) V rfl ?_;refine Ze (Al MT #[_,_,_,_,_,_,_,_,_,_])<|AE fun cb=>Xe (Xw D2 x.Ax2) ?_;refine A6<|B7 Y<|Zh 0 CM V rfl A4 Y<|Zl A5 Y ?_;refine Zh 1 CM V rfl A4 Y<|Zl A5 Y ?_;refine Xr [_,_,_] Y call76 Y V (YO sp qw bf p x.t x.k E sw pq A0 oq) ?_;rw [<-hk];refine AN Y<|Zn [0,3,11,12,13] ?_;refine Zx<|B7 Y<|Zp Y V<|Zh 0 MD V rfl Cl Y<|Zl DQ Y ?_;refine Zm Y<|BN (Bv B0 AW Y Y A0)<|CT Y<|A2<|Zh 2 CM V rfl DP Y<|Zl Fc Y ?_;refine A6<|Af Y (fun G=>?_) (fun G=>?_);focus
   have qz:=pz G;refine Zg<|Zm Y<|BN (Bv (l:=1) B0 AW Y Y A0)<|AF Y<|A2<|AN Y<|Zn [0,3,11,12,13,14,15] ?_;refine BT<|Zo Wh (Pa #[_,_,_,_,_,_,_,_,_,_] G1 D2 Y) ?_;refine Xr [_] Y call77 Y V (IK x) ?_;refine Sk 3 V<|Ze (Al DS #[_,_,_,_,_])<|AE fun xb=>Xe (Xw AW x.after.Ax3) ?_;refine AF Y<|C0 Y<|A6<|Af Y (fun z=>?_) (fun z=>?_);focus
    refine Zg<|Zo Wh (Pa #[_,_,_,_,_] C5 AW Y) ?_;refine Ze (Ah (vs:=[_]) (cs:=[_,_,_,_,_]) B0 AW DS Y V rfl V rfl V)<|AE fun gb=>AF Y<|A2<|AN Y<|Zn [0,3,11,13,14,15,18] ?_;refine Zx<|Zq<|Bi<|Zg<|Sk 2 V<|Zp Y V<|Zh 0 MD V rfl Cl Y<|Zl DQ Y ?_;refine Zm Y<|BN (Bb B0 AW Y Y A0)<|Ze (BL (by_:=40) (sz:=5) B0 (V:Tryz.prog.info? 91=some Tryz.t91) V rfl V rfl Y (BX 5 _) Y (Gd J k _ cO) Wo Wo (by exact fun u Z=>CK E u (Ks Z)) A0 A0) ?_;rintro _ _ ⟨sa,O,rfl⟩;obtain ⟨ga,ca,rfl⟩:=O.form;refine Zm Y<|Ze (BL (by_:=40) (sz:=5) B0 (V:Tryz.prog.info? 91=some Tryz.t91) V rfl V rfl Y (O) Y (D7 5 gb 1 1 91 (0,0) (Aa [x.after]) V) Wo Wo (by exact CK _) A0 A0) ?_;rintro _ _ ⟨sb,U,rfl⟩;obtain ⟨gb,cb,rfl⟩:=U.form;refine Zm Y<|Ze (BL (by_:=40) (sz:=5) B0 (V:Tryz.prog.info? 91=some Tryz.t91) V rfl V rfl Y (U) Y (Oe (Ib J k (E.length -k) (bf -k) A0) 1 (E.length -k -1) _ A0 A0) Wo Wo (by exact fun u Z=>CK E u (Lo (Lo Z))) A0 A0) ?_;rintro _ _ ⟨sc,W,rfl⟩;have af:=BJ W (n':=(Ej E x).length) (xs':=Aa (Ej E x)) (by rw [I,X7 z,B2 G,C7,C7,CI,D4,D4];simp only [GB,My];omega) (by rw [I,X7 z,B2 G,BR,BR,<-DV,<-DF (E.drop k) 1,<-DF];rw [Hl z];rfl)
   rotate_left
   focus
    refine Bi<|AB<|BT<|CT Y<|Bi<|Zg<|Sk 2 V<|Zp Y V<|Zh 0 MD V rfl Cl Y<|Zl DQ Y ?_;refine Zm Y<|BN (Bb B0 AW Y Y A0)<|Ze (BL (by_:=40) (sz:=5) B0 (V:Tryz.prog.info? 91=some Tryz.t91) V rfl V rfl Y (BX 5 _) Y (Gd J k _ cO) Wo Wo (by exact fun u Z=>CK E u (Ks Z)) A0 A0) ?_;rintro _ _ ⟨sa,O,rfl⟩;obtain ⟨ga,ca,rfl⟩:=O.form;refine Zm Y<|Ze (BL (by_:=40) (sz:=5) B0 (V:Tryz.prog.info? 91=some Tryz.t91) V rfl V rfl Y (O) Y (Uo 5 none 0) Wo Wo C4 A0 A0) ?_;rintro _ _ ⟨sb,U,rfl⟩;obtain ⟨gb,cb,rfl⟩:=U.form;refine Zm Y<|Ze (BL (by_:=40) (sz:=5) B0 (V:Tryz.prog.info? 91=some Tryz.t91) V rfl V rfl Y (U) Y (Oe (Ib J k (E.length -k) (bf -k) A0) 1 (E.length -k -1) _ A0 A0) Wo Wo (by exact fun u Z=>CK E u (Lo (Lo Z))) A0 A0) ?_;rintro _ _ ⟨sc,W,rfl⟩;have af:=BJ W (n':=(Ej E x).length) (xs':=Aa (Ej E x)) (by rw [I,X8 z,B2 G,C7,C7,CI,D4,D4];simp only [GB,My];omega) (by rw [I,X8 z,B2 G,BR,BR,<-DV,<-DF (E.drop k) 1,<-DF];rfl)
  rotate_left 2
  focus
   refine AB<|BT<|AF Y<|A2<|Zo Wh (Pa #[_,_,_,_,_,_,_,_,_,_] G1 D2 Y) ?_;refine Xr [_] Y call77 Y V (IK x) ?_;refine Sk 3 V<|Ze (Al DS #[_,_,_,_,_])<|AE fun xb=>Xe (Xw AW x.after.Ax3) ?_;refine AN Y<|Zn [0,3,11,13,14,15,16,17] ?_;refine Zx<|C0 Y<|A6<|Af Y (fun z=>?_) (fun z=>?_);focus
    refine Zg<|Zo Wh (Pa #[_,_,_,_,_] C5 AW Y) ?_;refine Ze (Ah (vs:=[_]) (cs:=[_,_,_,_,_]) B0 AW DS Y V rfl V rfl V)<|AE fun gb=>AF Y<|A2<|CT Y<|Bi<|Zg<|Sk 2 V<|Zp Y V<|Zh 0 MD V rfl Cl Y<|Zl DQ Y ?_;refine Zm Y<|BN (Bb B0 AW Y Y A0)<|Ze (BL (by_:=40) (sz:=5) B0 (V:Tryz.prog.info? 91=some Tryz.t91) V rfl V rfl Y (BX 5 _) Y (Gd J k _ cO) Wo Wo (by exact fun u Z=>CK E u (Ks Z)) A0 A0) ?_;rintro _ _ ⟨sa,O,rfl⟩;obtain ⟨ga,ca,rfl⟩:=O.form;refine Zm Y<|Ze (BL (by_:=40) (sz:=5) B0 (V:Tryz.prog.info? 91=some Tryz.t91) V rfl V rfl Y (O) Y (D7 5 gb 1 1 91 (0,0) (Aa [x.after]) V) Wo Wo (by exact CK _) A0 A0) ?_;rintro _ _ ⟨sb,U,rfl⟩;obtain ⟨gb,cb,rfl⟩:=U.form;refine Zm Y<|Ze (BL (by_:=40) (sz:=5) B0 (V:Tryz.prog.info? 91=some Tryz.t91) V rfl V rfl Y (U) Y (Ib J k (E.length -k) _ A0) Wo Wo (by exact fun u Z=>CK E u (Lo Z)) A0 A0) ?_;rintro _ _ ⟨sc,W,rfl⟩;have af:=BJ W (n':=(Ej E x).length) (xs':=Aa (Ej E x)) (by rw [I,X7 z,Ax (by rw [G];decide),C7,C7,CI,D4,D4];simp only [GB,My];omega) (by rw [I,X7 z,Ax (by rw [G];decide),BR,BR,<-DV,<-DF (E.drop k) 0,<-DF,Wf,RR];rw [Hl z];rfl)
   rotate_left
   focus
    refine Bi<|AB<|BT<|CT Y<|Bi<|Zg<|Sk 2 V<|Zp Y V<|Zh 0 MD V rfl Cl Y<|Zl DQ Y ?_;refine Zm Y<|BN (Bb B0 AW Y Y A0)<|Ze (BL (by_:=40) (sz:=5) B0 (V:Tryz.prog.info? 91=some Tryz.t91) V rfl V rfl Y (BX 5 _) Y (Gd J k _ cO) Wo Wo (by exact fun u Z=>CK E u (Ks Z)) A0 A0) ?_;rintro _ _ ⟨sa,O,rfl⟩;obtain ⟨ga,ca,rfl⟩:=O.form;refine Zm Y<|Ze (BL (by_:=40) (sz:=5) B0 (V:Tryz.prog.info? 91=some Tryz.t91) V rfl V rfl Y (O) Y (Uo 5 none 0) Wo Wo C4 A0 A0) ?_;rintro _ _ ⟨sb,U,rfl⟩;obtain ⟨gb,cb,rfl⟩:=U.form;refine Zm Y<|Ze (BL (by_:=40) (sz:=5) B0 (V:Tryz.prog.info? 91=some Tryz.t91) V rfl V rfl Y (U) Y (Ib J k (E.length -k) _ A0) Wo Wo (by exact fun u Z=>CK E u (Lo Z)) A0 A0) ?_;rintro _ _ ⟨sc,W,rfl⟩;have af:=BJ W (n':=(Ej E x).length) (xs':=Aa (Ej E x)) (by rw [I,X8 z,Ax (by rw [G];decide),C7,C7,CI,D4,D4];simp only [GB,My];omega) (by rw [I,X8 z,Ax (by rw [G];decide),BR,BR,<-DV,<-DF (E.drop k) 0,<-DF,Wf,RR];rfl)
  all_goals
   obtain ⟨gc,cc,rfl⟩:=W.form;refine AN Y<|Zn [0,3,11,18] ?_;refine Zx<|Zg<|Sk 2 V<|Zp Y V<|Zh 0 MD V rfl Cl Y<|Xe (Zs Cl Y Y V) ?_;refine Z0<|A8<|Zx<|Zg<|Zm Y<|Ya (n:=1) Y Y<|AN Y<|DH (e:=[(11,_)]) (h:=by exact ⟨i+1,_,_,rfl,⟨by omega,by rw [Gi rs cs i x hx,<-gy];exact af⟩,rfl,rfl⟩)
 have ei:i=cs.length:=by omega
 subst ei;rw [HJ]at gy;refine Az<|Zt<|Zt<|AU<|Zx<|B7 Y<|Zh 0 G3 V rfl A4 Y<|Zl A5 Y ?_;refine Zp Y V<|Zh 1 MD V rfl A4 Y<|Xe (Zs A4 Y Y V) ?_;refine A6<|A2<|AM Y<|AO rfl fN Y (by exact .inl ⟨⟨l9,qa,K,by omega⟩,_,sw,rfl,by rw [<-gy];exact J,rfl⟩)
structure Bz where
 p:Int
 q:C1
 cap:Nat
 cs:List Chg
def Dn(l:List Bz):List A3:=l.flatMap (fun r=>[I4 r.p,.slice r.q r.cs.length r.cap])
def UA(l:List Bz):Prop:=∀r∈l,r.cs.length<=r.cap
def DD(M:List AR)(v:A3)(l:List Bz):Prop:=∃p cap,v= .slice p l.length cap/\(l.length<=maxLen/\l.length<=cap)/\∀(i:Nat) (r:Bz),l[i]?=some r->DJ M (.slice r.q r.cs.length r.cap) r.cs/\∃g off cur T zz,p=some ⟨g,off,none⟩/\(g,Obj.cells cur T zz)∈M/\off+i*2+2<=cur.size/\cur.extract (off+i*2) (off+i*2+2)=#[I4 r.p,.slice r.q r.cs.length r.cap]
def Bq(l:List Bz):List AV:=l.foldl (fun rs r=>Du rs r.cs) []
theorem FZ(l:List Bz)(r:Bz):Bq (l++[r])=Du (Bq l) r.cs:=by unfold Bq;rw [RM];rfl
def Dy(l:List Bz):Prop:=∀(i:Nat) (r:Bz),l[i]?=some r->Ns (Bq (l.take i)) (i:Int) r.p r.cs/\r.cs.length<=3
theorem U3{p rp:Int}(z:BP rs)(h:Ns rs p rp cs):BP (Du rs cs)/\(Du rs cs).length<=2000:=by
 have m:=U2 h.ok.ord;obtain ⟨g,_⟩:=LH z m h.fit cs.length (B4 _);have h2:=OC z m h.fit cs.length (B4 _)
 rw [HJ]at g h2;exact ⟨g,by have:=h.size;omega⟩
variable{l:List Bz}
theorem Dy.rows(h:Dy l):∀i,i<=l.length->BP (Bq (l.take i))/\(Bq (l.take i)).length<=2000
 |0,_=>⟨List.Pairwise.nil,CD _⟩
 |i+1,hi=>by
  obtain ⟨r,g⟩:∃r,l[i]?=some r:=⟨_,Bk A0⟩;have m:=Dy.rows h i A0
  rw [OK,g];show BP (Bq (l.take i++[r]))/\_
  rw [show(some r).toList=[r] from rfl,FZ];exact U3 m.1 (h i r g).1
theorem Dy.all(h:Dy l):BP (Bq l)/\(Bq l).length<=2000:=by
 have:=h.rows l.length (B4 _);rwa [HJ]at this
theorem Dy.snoc(h:Dy l){r:Bz}(z:Ns (Bq l) (l.length:Int) r.p r.cs)(m:r.cs.length<=3):Dy (l++[r]):=by
 intro i x hx;rw [ln]at hx;split at hx
 · rename_i hi
   rw [aw A0];exact h i x hx
 · rename_i hi
   have g:=(D3.1 hx).1;simp only [HI]at g;have e:i=l.length:=by omega
   subst e;rw [Tr]at hx;injection hx with hx
   subst hx;rw [L7 rfl];exact ⟨z,m⟩
theorem IW:∀(cs:List Chg),(DT cs).length=cs.length*10
 |[]=>rfl
 |c::cs=>by
  have:=IW cs;unfold DT at*;rw [L0,C7,this,GB];simp;omega
theorem Jf(a b:List Chg):DT (a++b)=DT a++DT b:=by unfold DT;rw [O2]
theorem UV(cs:List Chg)(k:Nat):(DT cs).take (k*10)=DT (cs.take k):=by
 rcases FA cs.length k with h|h
 · rw [Hx (by rw [IW];omega),Hx A0]
 · have e:DT cs=DT (cs.take k)++DT (cs.drop k):=by rw [<-Jf,Ln]
   rw [e,L7 (by rw [IW,CI];omega)]
theorem UW(cs:List Chg)(k:Nat):(DT cs).drop (k*10)=DT (cs.drop k):=by
 rcases FA cs.length k with h|h
 · rw [S3 (by rw [IW];omega),S3 A0];rfl
 · have e:DT cs=DT (cs.take k)++DT (cs.drop k):=by rw [<-Jf,Ln]
   rw [e,SJ (by rw [IW,CI];omega)]
theorem XT(cs:List Chg):∀u∈DT cs,u.oneCell'=true:=by
 intro u g;unfold DT at g;obtain ⟨r,_,h⟩:=cE.1 g;simp only [H4,PJ,R0]at h;rcases h with rfl|rfl|rfl|rfl|rfl|rfl|rfl|rfl|rfl|rfl<;>rfl
theorem sN{cur:As}{j:Nat}(h:CY cur 0 (DT cs))(hy:cs[j]?=some y):cur[j*10]?=some (I4 y.t)/\cur[j*10+1]?=some (I4 y.k):=by
 have m:=Hg (fun c:Chg=>[I4 c.t,I4 c.k,.bool c.had,I4 c.o.a,I4 c.o.b,I4 c.o.c,.bool c.has,I4 c.n.a,I4 c.n.b,I4 c.n.c]) 10 (fun _=>rfl) cs j y hy;have e:∀q,((DT cs).drop (j*10)).take 10=[I4 y.t,I4 y.k,.bool y.had,I4 y.o.a,I4 y.o.b,I4 y.o.c,.bool y.has,I4 y.n.a,I4 y.n.b,I4 y.n.c]->q<10->(DT cs)[j*10+q]?=([I4 y.t,I4 y.k,.bool y.had,I4 y.o.a,I4 y.o.b,I4 y.o.c,.bool y.has,I4 y.n.a,I4 y.n.b,I4 y.n.c]:List A3)[q]?:=fun q z E=>by
  rw [<-z,I3,B2 E,Ly]
 have a0:=h.get (j*10+0) _ ((e 0 m A0).trans rfl);have g:=h.get (j*10+1) _ ((e 1 m A0).trans rfl)
 rw [Dd]at a0 g;exact ⟨a0,g⟩
theorem aU{M:List AR}(h:DJ M v cs)(s:List AR):DJ (M++s) v cs:=by
 obtain ⟨p,cap,hv,G,E⟩:=h;refine ⟨p,cap,hv,G,fun i c hc=>?_⟩;obtain ⟨g,off,cur,T,zz,m,h2,z⟩:=E i c hc;exact ⟨g,off,cur,T,zz,m,HE _ h2,z⟩
theorem PZ{M:List AR}(h:DJ M v cs)(s:List AR):DJ (s++M) v cs:=by
 obtain ⟨p,cap,hv,G,E⟩:=h;refine ⟨p,cap,hv,G,fun i c hc=>?_⟩;obtain ⟨g,off,cur,T,zz,m,h2,z⟩:=E i c hc;exact ⟨g,off,cur,T,zz,m,G2 _ h2,z⟩
def Nr(M:List AR)(v:A3)(xs:List (List Int)):Prop:=∃p cap,v= .slice p xs.length cap/\(xs.length<=maxLen/\xs.length<=cap)/\∀(i:Nat) (z:List Int),xs[i]?=some z->z.length=6/\(∀n∈z,-9223372036854775808<=n/\n<=9223372036854775807)/\∃g off cur T zz,p=some ⟨g,off,none⟩/\(g,Obj.cells cur T zz)∈M/\∀(j:Nat) (n:Int),z[j]?=some n->cur[off+i*6+j]?=some (I4 n)
theorem NG{G:List AR}(h:BS 2 78 v l.length (Dn l) s)(hn:l.length<=maxLen)(J:∀r∈l,DJ G (.slice r.q r.cs.length r.cap) r.cs):DD (s++G) v l:=by
 obtain ⟨b,cap,rfl⟩:=h.form;refine ⟨b,cap,V,⟨hn,Ew h⟩,fun i r E=>⟨PZ (J r (Fm E)) s,?_⟩⟩;obtain ⟨g,I,cur,z,hv,rfl,K,m⟩:=J7 h i (D3.1 E).1;injection hv with hv1 hv2 hv3
 refine ⟨g,0,cur,78,z,hv1,HE _ (HA.2 V),by omega,?_⟩;rw [Dd];apply L5.1;rw [m];exact Hg _ 2 (fun _=>rfl) l i r E
theorem Oy(a b:List Bz):Dn (a++b)=Dn a++Dn b:=by unfold Dn;rw [O2]
theorem cK:CJ prog 29 #[] [] (fun r H'=>∃sp,r=I5 sp/\H'=[[(sp,.cells #[.slice none 0 0,I4 0] 138 (0,0))]]):=by
 refine Se func29 ntmps29 [] ?_;intro u R;refine A2<|AF Y<|A2<|Zv (BK (vs:=[]) (cs:=#[_,_]) Y (AY (pl:=#[(0,1),(1,1)]) zeroValue138 MD (fun _=>by kernel_rfl) V))<|Ze (Bx #[_,_])<|AE fun sp=>AM Y<|AO V results29 Y (by exact ⟨sp,V,V⟩)
end Go.Proofs.YtljkoipiekbijaaGreatDoor
