/- The program's layer 3: ValidChange. -/
import Derived.Test.YthhakdmlpngcmaaGreatDoorLg4
set_option linter.unusedVariables false
set_option linter.unusedSimpArgs false
namespace Go.Proofs.YthhakdmlpngcmaaGreatDoor
open Go.Proofs.Tryz
open Go Go.RowKit Gw
set_option maxRecDepth 100000
attribute [local irreducible] Gw.At Gw.Nx Gw.Ops
def nd(c:Chg):Bool:=if c.had then decide c.before.ok else decide (c.o=V3.zero)
def nf(c:Chg):Bool:=if c.has then decide c.after.ok else decide (c.n=V3.zero)
theorem SQ(c:Chg):BJ prog 150 #[.agg c.A93,.bool c.had,.agg #[I0 c.o.a,I0 c.o.b,I0 c.o.c]] [] (.bool (nd c)):=YV c c.had c.o
theorem SS(c:Chg):BJ prog 150 #[.agg c.A93,.bool c.has,.agg #[I0 c.n.a,I0 c.n.b,I0 c.n.c]] [] (.bool (nf c)):=YV c c.has c.n
variable{c:Chg}
theorem LG(g:c.had≠c.has\/(c.had=true/\c.o≠c.n)):decide c.ok=(nd c&&nf c):=by
 unfold nd nf;cases h1:c.had<;>cases h2:c.has<;>simp_all [Chg.ok]
 all_goals (by_cases m:c.before.ok<;>by_cases B:c.after.ok<;>by_cases G:c.o=V3.zero<;>by_cases I:c.n=V3.zero<;>simp_all)
theorem vZ(h:c.had=c.has)(h2:c.had=true->c.o=c.n):decide c.ok=false:=by
 cases h1:c.had<;>simp_all [Chg.ok]
 all_goals (rw [<-h]at*;simp_all)
set_option maxHeartbeats 4000000 in
theorem VO(c:Chg):BJ prog 94 #[.agg c.A93] [] (.bool (decide c.ok)):=by
 refine Se func94 ntmps94 [0] ?_;intro u R;refine A1<|Ze (Bx #[_,_,_,_,_,_,_,_,_,_])<|AG fun K=>A5 Y<|A1<|Zh 2 C3 V rfl DM Y<|Zl Fc Y<|Zh 6 C3 V rfl DM Y<|Zl Fc Y<|Zv (I4 Mn Y Y)<|Zm Y<|Ao (t:=9) Y V (fun g=>?_) (fun g=>?_);·
  refine A7 Y V<|A7 Y V<|A7 Y V<|A7 Y V<|A7 Y V<|A7 Y V<|A7 Y V<|A7 Y V<|A7 Y V<|Zv (AX Y Y)<|AW Y<|Zn [1,3] ?_;refine Zx<|A1<|Zm Y<|Zm Y<|Dt Y Wh (Pa #[_,_,_,_,_,_,_,_,_,_] GP CA Y) V rfl<|Yf 2 C3 V rfl DM Y<|Yl Fc Y<|Yf 3 C3 V rfl E0 Y<|Dt Y Wh (Pa #[_,_,_] HM E0 Y) V rfl<|Xr [_,_,_] Y call150 Y V (SQ c)<|Zv (AX Y Y)<|Zm Y<|Aj (t:=29) Y V (fun G=>?_) (fun G=>?_);·
   refine Dt Y Wh (Pa #[_,_,_,_,_,_,_,_,_,_] GP CA Y) V rfl<|Yf 6 C3 V rfl DM Y<|Yl Fc Y<|Yf 7 C3 V rfl E0 Y<|Dt Y Wh (Pa #[_,_,_] HM E0 Y) V rfl<|Xr [_,_,_] Y call150 Y V (SS c)<|Zv (AX Y Y)<|AW Y<|Zn [2] ?_;refine Zx<|AJ<|AP rfl en Y (by exact ⟨by rw [LG (.inl g),G,Vc],rfl⟩)
  refine A7 Y V<|A7 Y V<|A7 Y V<|A7 Y V<|A7 Y V<|A7 Y V<|Zv (AL Y Y)<|AW Y<|Zn [2] ?_;refine Zx<|AJ<|AP rfl en Y (by exact ⟨by rw [LG (.inl g),G,Bool.false_and],rfl⟩)
 refine Yf 2 C3 V rfl DM Y<|Yl Fc Y<|Zf Y Y<|Aj (t:=12) Y V (fun m=>?_) (fun m=>?_);·
  refine Yf 3 C3 V rfl E0 Y<|Dt Y Wh (Pa #[_,_,_] HM E0 Y) V rfl<|Yf 7 C3 V rfl E0 Y<|Dt Y Wh (Pa #[_,_,_] HM E0 Y) V rfl<|Yg (Ko AF I3 DE AH AE Y Y) ?_;refine Yg (AX Y Y)<|Zv (AL Y Y)<|AW Y<|Zn [1,3] ?_;refine Zx<|A1<|Zm Y<|Zm Y<|Ao (t:=21) Y V (fun B=>?_) (fun B=>?_);·
   refine Dt Y Wh (Pa #[_,_,_,_,_,_,_,_,_,_] GP CA Y) V rfl<|Yf 2 C3 V rfl DM Y<|Yl Fc Y<|Yf 3 C3 V rfl E0 Y<|Dt Y Wh (Pa #[_,_,_] HM E0 Y) V rfl<|Xr [_,_,_] Y call150 Y V (SQ c)<|Zv (AX Y Y)<|Zm Y<|Aj (t:=29) Y V (fun I=>?_) (fun I=>?_);·
    refine Dt Y Wh (Pa #[_,_,_,_,_,_,_,_,_,_] GP CA Y) V rfl<|Yf 6 C3 V rfl DM Y<|Yl Fc Y<|Yf 7 C3 V rfl E0 Y<|Dt Y Wh (Pa #[_,_,_] HM E0 Y) V rfl<|Xr [_,_,_] Y call150 Y V (SS c)<|Zv (AX Y Y)<|AW Y<|Zn [2] ?_;refine Zx<|AJ<|AP rfl en Y (by exact ⟨by rw [LG (.inr ⟨m,B⟩),I,Vc],rfl⟩)
   refine A7 Y V<|A7 Y V<|A7 Y V<|A7 Y V<|A7 Y V<|A7 Y V<|Zv (AL Y Y)<|AW Y<|Zn [2] ?_;refine Zx<|AJ<|AP rfl en Y (by exact ⟨by rw [LG (.inr ⟨m,B⟩),I,Bool.false_and],rfl⟩)
  refine A7 Y V<|A7 Y V<|A7 Y V<|A7 Y V<|A7 Y V<|A7 Y V<|Zv (AL Y Y)<|Zm Y<|A7 Y V<|A7 Y V<|A7 Y V<|A7 Y V<|A7 Y V<|A7 Y V<|Zv (AL Y Y)<|AW Y<|Zn [2] ?_;refine Zx<|AJ<|AP rfl en Y (by exact ⟨by rw [vZ (Hs.1 g) (fun _=>Hs.1 B)],rfl⟩)
 refine A7 Y V<|A7 Y V<|A7 Y V<|A7 Y V<|A7 Y V<|Yg (AL Y Y)<|Zv (AL Y Y)<|AW Y<|Zn [1,3] ?_;refine Zx<|A1<|Zm Y<|Zm Y<|A7 Y V<|A7 Y V<|A7 Y V<|A7 Y V<|A7 Y V<|A7 Y V<|Zv (AL Y Y)<|Zm Y<|A7 Y V<|A7 Y V<|A7 Y V<|A7 Y V<|A7 Y V<|A7 Y V<|Zv (AL Y Y)<|AW Y<|Zn [2] ?_;refine Zx<|AJ<|AP rfl en Y (by exact ⟨by rw [vZ (Hs.1 g) (fun J=>by rw [m]at J;cases J)],rfl⟩)
theorem xd(h:c.ok):0<=c.t:=by
 obtain ⟨B,h2,_,_⟩:=h;have I:c.had=true->c.before.ok:=fun g=>aw fun m=>h2 (.inl ⟨g,m⟩)
 have G:c.has=true->c.after.ok:=fun g=>aw fun m=>h2 (.inr ⟨g,m⟩);cases e1:c.had with
 |true=>have:=(I e1).2.1.1;rw [PV e1]at this;exact this
 |false=>
  cases e2:c.has with
  |true=>have:=(G e2).2.1.1;rw [LM e2]at this;exact this
  |false=>exact absurd (.inl ⟨by simp [e1],by simp [e2]⟩) B
variable{cs:List Chg}{i:Nat}{y x:Chg}
theorem XZ{p:Int}(B:i=0/\y.t=-1\/0<i/\cs[i -1]?=some y)(h:EK p cs)(m:cs[i]?=some x):y.lt x:=by
 rcases B with⟨h0,g⟩|⟨h0,g⟩
 · left;have:=xd (h.all i x m);omega
 · exact h.ord (i -1) y x g (by rw [show i -1+1=i by omega];exact m)
theorem jv(m:i=0/\y.t=-1\/0<i/\cs[i -1]?=some y)(h:y.lt x):i=0\/∃y,cs[i -1]?=some y/\y.lt x:=by
 rcases m with⟨h0,g⟩|⟨h0,g⟩
 · exact .inl h0
 · exact .inr ⟨y,g,h⟩
theorem Pq(p:Int)(q:B8)(cap:Nat)(cs:List Chg)(M:List A9)(hO:Cv M (.slice q cs.length cap) cs):BJ prog 44 #[.agg #[I0 p,.slice q cs.length cap]] [M] (.bool (decide (EK p cs))):=by
 have bn:=mL;obtain ⟨p9,ax,e9,cu,hg⟩:=hO;injection e9 with e91 e92 e93
 subst e91 e93;refine Se func44 ntmps44 [0] ?_;intro u R;refine A1<|Ze (Bx #[_,_])<|AG fun b1=>A5 Y<|Zq<|A1<|Zh 0 HF V rfl AE Y<|Zl AH Y<|Ze (Ai (vs:=[_]) (cs:=[_]) DG AE HI Y V rfl V rfl V)<|AG fun b2=>Xr [_,_,_] Y call93 Y V (Kj _ 0 1 _ _ _ _ _ p V)<|Zv (Cz Y)<|Zm Y<|Ao (t:=11) Y V (fun hp=>?_) (fun hp=>?_);·
  refine A7 Y V<|A7 Y V<|A7 Y V<|A7 Y V<|A7 Y V<|A7 Y V<|Zv (AX Y Y)<|Z0<|Zn [1,18] ?_;refine Zx<|DR Y<|A1<|A5 Y<|AJ<|Zt<|AP rfl eo Y (by exact ⟨by rw [Cl (fun h9:EK p cs=>by have G:=h9.pos;have J:=h9.len;exact hp G)],rfl⟩)
 refine Yf 1 HF V rfl Mp Y<|Yl On Y<|Yg (Ab Gk Y)<|Ze (Ai (vs:=[_]) (cs:=[_]) DG AE HI Y V rfl V rfl V)<|AG fun b3=>Xr [_,_,_] Y call93 Y V (Kj _ 0 1 _ _ _ _ _ (cs.length:Int) V)<|Yg (Cz Y)<|Zv (AL Y Y)<|Z0<|Zn [1,18] ?_;refine Zx<|Av Y (fun hl=>?_) (fun hl=>?_);·
  refine A1<|A5 Y<|AJ<|Zt<|AP rfl eo Y (by exact ⟨by rw [Cl (fun h9:EK p cs=>by have G:=h9.pos;have J:=h9.len;(apply hl;omega))],rfl⟩)
 refine AC<|Zx<|A1<|Zv (BM (vs:=[(0,_)]) (cs:=#[_,_,_,_,_,_,_,_,_,_]) Y (AZ (pl:=#[(0,1),(1,1),(2,1),(3,3),(6,1),(7,3)]) Lw C3 (fun _=>by kernel_rfl) V))<|Ze (Al Lw #[_,_,_,_,_,_,_,_,_,_])<|AG fun lb=>Xe (BL CA Y Y (by(simp [Value.oneCell',Value.cells];done)) Wu Ax Fi Wn (by exact BC _))<|A6<|Zq<|A1<|Zh 1 HF rfl rfl Mp Y<|Zl On Y<|Zv (Ab Gk Y)<|Zm Y<|A6<|AR<|Zb [23,3,21,22] ?_;refine BF (e0:=[(23,_)]) (fun m e H=>∃(i:Nat) (y:Chg),m=cs.length -i/\(i<=cs.length/\(∀(j:Nat) (c:Chg),j<i->cs[j]?=some c->c.ok)/\(∀(j:Nat) (b c:Chg),j+1<i->cs[j]?=some b->cs[j+1]?=some c->b.lt c)/\(i=0/\y.t=-1\/0<i/\cs[i -1]?=some y))/\e=[(23,I0 (i:Int))]/\H=[[(lb,.cells y.A93 74 (0,0))]]) (by exact ⟨0,⟨-1,0,false,V3.zero,false,V3.zero⟩,V,⟨by omega,by intro j c hj;omega,by intro j b c hj;omega,.inl ⟨V,V⟩⟩,V,V⟩) Wp ?_;rintro _ _ _ ⟨i,y,rfl,⟨hi,K,O,B⟩,rfl,rfl⟩;refine A1<|Zv (Ay Y Y)<|A6<|Zq<|Av Y (fun W=>?_) (fun W=>?_);·
  obtain ⟨x,I⟩:∃x,cs[i]?=some x:=⟨_,BT W⟩;obtain ⟨g,off,cur,T,zz,rfl,hm,cO,X⟩:=hg i x I;refine AC<|Zx<|Zq<|AR<|A1<|BZ (Ad Gk CA Y Y A0)<|CS (cs:=[(g,.cells cur T zz)]) (by simp [hm]) (AB (cs:=x.A93) GP CA Y A0 X) V rfl<|Ze (Al Lw #[_,_,_,_,_,_,_,_,_,_])<|AG fun b5=>Xe (Xw CA _)<|A6<|Zq<|A1<|Zo Wh (Pa #[_,_,_,_,_,_,_,_,_,_] GP CA Y)<|Xr [_] Y call94 Y V (VO x)<|Zv (Cz Y)<|Zm Y<|Ao (t:=30) Y V (fun U=>?_) (fun U=>?_);·
   refine A7 Y V<|A7 Y V<|A7 Y V<|A7 Y V<|A7 Y V<|Zv (AX Y Y)<|Zm Y<|A7 Y V<|A7 Y V<|A7 Y V<|A7 Y V<|A7 Y V<|A7 Y V<|A7 Y V<|A7 Y V<|A7 Y V<|A7 Y V<|A7 Y V<|A7 Y V<|Zv (AX Y Y)<|Z0<|Zn [3,5,21,22,23,50] ?_;refine Zx<|DR Y<|A1<|A5 Y<|AJ<|Zt<|Ac<|Zt<|Zt<|Ac<|Zt<|AP rfl eo Y (by exact ⟨by rw [Cl (fun h9:EK p cs=>by have G:=XZ B h9 I;have J:=h9.all i x I;unfold Chg.lt at G;exact U J)],rfl⟩)
  refine Yf 0 C3 V rfl AE Y<|Yl AH Y<|Yf 0 C3 V rfl AE Y<|Yl AH Y<|Yg (EI Y Y)<|Zv (AL Y Y)<|Zm Y<|Ao (t:=37) Y V (fun Z=>?_) (fun Z=>?_);·
   refine A7 Y V<|A7 Y V<|A7 Y V<|A7 Y V<|A7 Y V<|A7 Y V<|A7 Y V<|A7 Y V<|A7 Y V<|A7 Y V<|A7 Y V<|A7 Y V<|Zv (AX Y Y)<|Z0<|Zn [3,5,21,22,23,50] ?_;refine Zx<|DR Y<|A1<|A5 Y<|AJ<|Zt<|Ac<|Zt<|Zt<|Ac<|Zt<|AP rfl eo Y (by exact ⟨by rw [Cl (fun h9:EK p cs=>by have G:=XZ B h9 I;have J:=h9.all i x I;unfold Chg.lt at G;omega)],rfl⟩)
  refine Yf 0 C3 V rfl AE Y<|Yl AH Y<|Yf 0 C3 V rfl AE Y<|Yl AH Y<|Yg (CO Y Y)<|Zf Y Y<|Ao (t:=43) Y V (fun af=>?_) (fun af=>?_);·
   refine Yf 1 C3 V rfl AE Y<|Yl AH Y<|Yf 1 C3 V rfl AE Y<|Yl AH Y<|Yg (KJ Y Y)<|Yg (AX Y Y)<|Zv (AL Y Y)<|Z0<|Zn [3,5,21,22,23,50] ?_;refine Zx<|Av Y (fun ho=>?_) (fun ho=>?_);·
    refine A1<|A5 Y<|AJ<|Zt<|Ac<|Zt<|Zt<|Ac<|Zt<|AP rfl eo Y (by exact ⟨by rw [Cl (fun h9:EK p cs=>by have G:=XZ B h9 I;have J:=h9.all i x I;unfold Chg.lt at G;omega)],rfl⟩)
   refine AC<|Zx<|Zg<|Zo Wh (Pa x.A93 GP CA Y)<|Xe (Xw CA _)<|Z0<|A8<|Zx<|Zg<|Ya (n:=1) Y Y<|Zm Y<|Z0<|Zn [23,3,21,22] ?_;refine Aa (e':=[(23,_)]) (by exact ⟨i+1,x,V,⟨by omega,MU K I (Hs.1 U),Lv O I (jv B (by unfold Chg.lt;omega)),.inr ⟨by omega,I⟩⟩,V,V⟩)
  refine A7 Y V<|A7 Y V<|A7 Y V<|A7 Y V<|A7 Y V<|Yg (AL Y Y)<|Zv (AL Y Y)<|Z0<|Zn [3,5,21,22,23,50] ?_;refine Zx<|DI Y<|AC<|Zx<|Zg<|Zo Wh (Pa x.A93 GP CA Y)<|Xe (Xw CA _)<|Z0<|A8<|Zx<|Zg<|Ya (n:=1) Y Y<|Zm Y<|Z0<|Zn [23,3,21,22] ?_;refine Aa (e':=[(23,_)]) (by exact ⟨i+1,x,V,⟨by omega,MU K I (Hs.1 U),Lv O I (jv B (by unfold Chg.lt;omega)),.inr ⟨by omega,I⟩⟩,V,V⟩)
 refine Az<|Zt<|Zt<|AV<|Zx<|A1<|A5 Y<|AJ<|AP rfl eo Y (by exact ⟨by rw [D2 (⟨by omega,by omega,fun j c hc=>K j c (by have:=(C4.1 hc).1;omega) hc,fun j b c hb hc=>O j b c (by have:=(C4.1 hc).1;omega) hb hc⟩:EK p cs)],rfl⟩)
def Hy(ls:List Int):List UInt8:=ls.flatMap UD
theorem Hw:∀(ls:List Int),(∀n∈ls,-4611686018427387903<=n/\n<=4611686018427387903)->(Hy ls).length<=ls.length*9
 |[],_=>by simp [Hy]
 |n::ls,h=>by
  have B:=Hw ls (fun m g=>h m (by simp [g]));have h2:=PR n (h n B4).1 (h n B4).2
  unfold Hy at*;rw [HW,BW,E4];omega
theorem Yt(ls:List Int)(n:Int):Hy (ls++[n])=Hy ls++UD n:=by simp [Hy]
theorem qy(g off cap:Nat)(cur:AM)(T:AK)(z:Nat×Nat)(ls:List Int)(I:LQ cur off ls)(hn:ls.length<=1073741824)(O:∀n∈ls,-4611686018427387903<=n/\n<=4611686018427387903):
 BJ prog 235 #[.slice (some ⟨g,off,none⟩) ls.length cap] [[(g,.cells cur T z)]] (.string (str (Hy ls))):=by
 have X:=mL;refine Se func235 ntmps235 [0] ?_;intro u R;refine A1<|A5 Y<|A1<|A5 Y<|Zq<|A1<|Zm Y<|Zv (Ab DG Y)<|Zm Y<|A6<|AR<|Zb [3,10,8,9] ?_;refine BF (e0:=[(3,_),(10,_)]) (fun m e H=>∃(i:Nat),m=ls.length -i/\(i<=ls.length)/\e=[(3,.string (str (Hy (ls.take i)))),(10,I0 (i:Int))]/\H=[]) (by exact ⟨0,V,C7 _,V,V⟩) Wp ?_;rintro _ _ _ ⟨i,rfl,hi,rfl,rfl⟩;refine A1<|Zv (Ay Y Y)<|A6<|Zq<|Av Y (fun G=>?_) (fun G=>?_);·
  obtain ⟨x,K⟩:∃x,ls[i]?=some x:=⟨_,BT G⟩;have B:=O x (DO K)
  have J:ls.take (i+1)=ls.take i++[x]:=by rw [NX,K];rfl
  have Z:=Hw (ls.take i) (fun m W=>O m (P2 W));have af:(ls.take i).length<=i:=List.length_take_le ..
  have U:=PR x B.1 B.2;refine AC<|Zx<|Zq<|AR<|A1<|BZ (CG DG AE Y Y A0)<|Zl AH Y (hv:=by exact I i x K)<|A5 Y<|A1<|Zm Y<|Xr [_] Y call190 Y rfl (Qm x B.1 B.2)<|Zm Y<|Zd Y rfl<|Zd Y rfl<|Za Y<|A5 Y<|Zg<|Zm Y<|Zm Y<|BZ (Ml Y Y (by rw [Gs,Gs];omega))<|AW Y<|Zn [3,8,9,10] ?_;refine A8<|Zx<|Zg<|Ya (n:=1) Y Y<|Zm Y<|Z0<|Zn [3,10,8,9] ?_;refine Aa (e':=[(3,_),(10,_)]) (by exact ⟨i+1,rfl,by omega,by rw [J,Yt,<-RY],rfl⟩)
 refine Az<|Zt<|Zt<|AV<|Zx<|A1<|Zm Y<|A5 Y<|AJ<|AP rfl results235 Y (by exact ⟨by rw [Hx A0],rfl⟩)
structure Ir where
 p:Int
 ch:List UInt8
 st:List UInt8
variable{sz:Nat}{e:AK}{v:A4}{xs:List A4}{s:List A9}
theorem K8{k:Nat}(h:Bc sz e v k xs s)(i:Nat)(hi:i<k):∃g cap cur z,v=I2 g k cap/\s=[(g,.cells cur e z)]/\i*sz+sz<=cur.size/\(cur.extract (i*sz) (i*sz+sz)).toList=(xs.drop (i*sz)).take sz:=by
 obtain ⟨K,⟨_,h0,_⟩|⟨g,cap,cur,z,rfl,rfl,B,hc,G,m,J⟩⟩:=h;· omega
 · have I:i*sz+sz<=k*sz:=by
    have:=US sz (Nat.succ_le_of_lt hi);rw [Nat.succ_mul]at this;exact this
   have h2:k*sz<=cap*sz:=US sz B;refine ⟨g,cap,cur,z,V,V,by omega,?_⟩;rw [<-m,Array.toList_extract,rn,fp,V2];congr 1;omega
def Ae(rs:List AU):List A4:=rs.flatMap (fun r=>[I0 r.t,I0 r.k,I0 r.v.a,I0 r.v.b,I0 r.v.c])
theorem J3{α:Type}(f:α->List A4)(sz:Nat)(g:∀a,(f a).length=sz):∀(l:List α) (i:Nat) (a:α),l[i]?=some a->((l.flatMap f).drop (i*sz)).take sz=f a
 |x::l,0,a,h=>by
  injection h with h;subst h
  rw [fx,Q1,HW,cQ (by rw [g];exact CT _),Hx (by rw [g];exact CT _)]
 |x::l,i+1,a,h=>by
  have e1:(f x++l.flatMap f).drop sz=l.flatMap f:=by
   have m:=List.drop_left (l₁:=f x) (l₂:=l.flatMap f);rwa [g]at m
  rw [HW,Nat.succ_mul,Nat.add_comm,<-cE,e1];exact J3 f sz g l i a h
variable{rs:List AU}
theorem Pw(h:Bc 5 e v rs.length (Ae rs) s)(I:rs.length<=maxLen):jE s v rs:=by
 obtain ⟨b,cap,rfl⟩:=h.form;refine ⟨b,cap,V,I,fun i r G=>?_⟩;obtain ⟨g,B,cur,z,hv,rfl,J,m⟩:=K8 h i (C4.1 G).1;injection hv with hv1 hv2 hv3
 refine ⟨g,0,cur,e,z,hv1,C5.2 V,by omega,?_⟩;rw [D4];apply HX.1;rw [m];exact J3 _ 5 (fun _=>rfl) rs i r G
def Co(cs:List Chg):List A4:=cs.flatMap (fun c=>[I0 c.t,I0 c.k,.bool c.had,I0 c.o.a,I0 c.o.b,I0 c.o.c,.bool c.has,I0 c.n.a,I0 c.n.b,I0 c.n.c])
theorem QV{rs:List Chg}(h:Bc 10 e v rs.length (Co rs) s)(I:rs.length<=maxLen):Cv s v rs:=by
 obtain ⟨b,cap,rfl⟩:=h.form;refine ⟨b,cap,V,I,fun i r G=>?_⟩;obtain ⟨g,B,cur,z,hv,rfl,J,m⟩:=K8 h i (C4.1 G).1;injection hv with hv1 hv2 hv3
 refine ⟨g,0,cur,e,z,hv1,C5.2 V,by omega,?_⟩;rw [D4];apply HX.1;rw [m];exact J3 _ 10 (fun _=>rfl) rs i r G
theorem Ls:∀(rs:List AU) (t k:Int),BN rs->∃A B,rs=A++B/\A.length=E8 rs t k/\(∀r∈A,r.lt2 t k)/\(∀r∈B,¬r.lt2 t k)
 |[],t,k,_=>⟨[],[],rfl,rfl,by simp,by simp⟩
 |r::rs,t,k,hs=>by
  have m:=PJ.1 hs;by_cases h:r.lt2 t k
  · obtain ⟨A,B,G,h2,I,J⟩:=Ls rs t k m.2
    refine ⟨r::A,B,by rw [G];rfl,?_,?_,J⟩
    · unfold E8 at*
      rw [PC,As (by simpa using h),E4,E4,h2]
    · intro x g
      rcases DB.1 g with rfl|g
      · exact h
      · exact I x g
  · refine ⟨[],r::rs,rfl,?_,by simp,?_⟩
    · unfold E8
      rw [PC,An (by simpa using h)]
    · intro x g hc
      rcases DB.1 g with rfl|g
      · exact h hc
      · exact h (QK (m.1 x g) hc)
variable{k t:Int}
theorem WB{r:AU}(h:r.is t k):¬r.lt2 t k:=by unfold AU.is AU.lt2 at*;omega
theorem KQ{r:AU}(m:BN rs)(K:r∈rs)(h:r.is t k):Fz rs t k=(r,true):=by
 obtain ⟨A,B,g,h2,O,U⟩:=Ls rs t k m;have J:r∈B:=by
  rw [g]at K;rcases C2.1 K with h9|h9
  · exact absurd (O r h9) (WB h)
  · exact h9
 cases B with
 |nil=>cases J
 |cons b B=>
  have X:b=r:=by
   rcases DB.1 J with h9|h9
   · exact h9.symm
   · exfalso
     have G:BN (b::B):=by rw [g]at m;exact (PA.1 m).2.1
     have I:=(PJ.1 G).1 r h9;have W:=U b B4
     unfold AU.is at h;rw [h.1,h.2]at I;exact W I
  subst X;have Z:rs[E8 rs t k]?=some b:=by rw [<-h2,g,RT (CT _),T7];rfl
  unfold Fz;rw [Z];simp only;rw [As h]
theorem QO(h:∀r∈rs,¬r.is t k):Fz rs t k=(AU.zero,false):=by
 unfold Fz;split
 · rename_i r hr
   rw [An (h r (DO hr))]
 · rfl
theorem JL(h:(Fz rs t k).2=true):∃r∈rs,r.is t k/\rs[E8 rs t k]?=some r/\Fz rs t k=(r,true):=by
 unfold Fz at*;split at h
 · rename_i r hr
   split at h
   · rename_i hi
     exact ⟨r,DO hr,hi,hr,by rw [As hi]⟩
   · cases h
 · cases h
def GQ(rs:List AU)(c:Chg):Prop:=(Fz rs c.t c.k).2=c.had/\((Fz rs c.t c.k).2=true->(Fz rs c.t c.k).1.v=c.o)
def Nl(c:Chg):List AU:=if c.has then [⟨c.t,c.k,c.n⟩]else []
def EL(rs:List AU)(c:Chg):List AU:=rs.take (E8 rs c.t c.k)++Nl c++(rs.drop (E8 rs c.t c.k)).drop (if c.had then 1 else 0)
theorem M3{x:AU}:x∈Nl c↔c.has=true/\x=⟨c.t,c.k,c.n⟩:=by
 unfold Nl;cases c.has<;>simp
theorem Q7(K:BN rs)(hf:GQ rs c):∃A B,EL rs c=A++Nl c++B/\(∀x,x∈rs↔x∈A\/x∈B\/(x∈rs/\x.is c.t c.k))/\BN A/\BN B/\(∀r∈A,r.lt2 c.t c.k)/\(∀r∈B,c.t<r.t\/c.t=r.t/\c.k<r.k)/\rs.length=A.length+B.length+(if c.had then 1 else 0):=by
 obtain ⟨A,B,g,h2,h3,h4⟩:=Ls rs c.t c.k K;have U:BN A:=by rw [g]at K;exact (PA.1 K).1
 have W:BN B:=by rw [g]at K;exact (PA.1 K).2.1
 have ax:rs.take (E8 rs c.t c.k)=A:=by rw [<-h2,g,Hb rfl]
 have Z:rs.drop (E8 rs c.t c.k)=B:=by rw [<-h2,g,X1 rfl]
 unfold EL;rw [ax,Z];have G:∀x∈B,¬x.is c.t c.k->c.t<x.t\/c.t=x.t/\c.k<x.k:=fun x I hn=>by
  have J:=h4 x I;unfold AU.lt2 at J;unfold AU.is at hn;omega
 cases hh:c.had with
 |false=>
  have af:∀r∈rs,¬r.is c.t c.k:=fun r O hi=>by
   have J:=hf.1;rw [KQ K O hi,hh]at J;cases J
  refine ⟨A,B,by simp,fun x=>?_,U,W,h3,fun r O=>G r O (af r (by rw [g];exact GB _ O)),by rw [g];simp⟩;rw [g,C2];constructor
  · rintro (h|h)
    · exact .inl h
    · exact .inr (.inl h)
  · rintro (h|h|⟨h,_⟩)
    · exact .inl h
    · exact .inr h
    · exact h
 |true=>
  obtain ⟨r,O,hi,hp,hg⟩:=JL (by rw [hf.1,hh]:(Fz rs c.t c.k).2=true);have X:B[0]?=some r:=by rw [<-h2,g,RT (CT _),T7]at hp;exact hp
  cases B with
  |nil=>cases X
  |cons b B=>
   injection X with X
   subst X;have m:=PJ.1 W
   refine ⟨A,B,by simp,fun x=>?_,U,m.2,h3,fun x I=>?_,by rw [g];simp;omega⟩
   · constructor
     · intro I
       have bn:=I;rw [g]at I;rcases C2.1 I with h|h
       · exact .inl h
       · rcases DB.1 h with rfl|h
         · exact .inr (.inr ⟨bn,hi⟩)
         · exact .inr (.inl h)
     · rintro (h|h|⟨h,_⟩)
       · rw [g];exact Ek _ h
       · rw [g];exact GB _ (E7 _ h)
       · exact h
   · have J:=m.1 x I
     unfold AU.lt2 at J;unfold AU.is at hi;omega
theorem GI(W:BN rs)(U:GQ rs c)(x:AU):x∈EL rs c↔(x∈rs/\¬x.is c.t c.k)\/(c.has=true/\x=⟨c.t,c.k,c.n⟩):=by
 obtain ⟨A,B,J,h2,_,_,K,O,_⟩:=Q7 W U;rw [J,C2,C2,M3];have G:∀x∈A,¬x.is c.t c.k:=fun x m hi=>WB hi (K x m)
 have I:∀x∈B,¬x.is c.t c.k:=fun x m hi=>by have g:=O x m;unfold AU.is at hi;omega
 constructor
 · rintro ((h|h)|h)
   · exact .inl ⟨(h2 x).2 (.inl h),G x h⟩
   · exact .inr h
   · exact .inl ⟨(h2 x).2 (.inr (.inl h)),I x h⟩
 · rintro (⟨h,hn⟩|h)
   · rcases (h2 x).1 h with g|g|⟨_,g⟩
     · exact .inl (.inl g)
     · exact .inr g
     · exact absurd g hn
   · exact .inl (.inr h)
theorem JF(X:BN rs)(W:GQ rs c):BN (EL rs c):=by
 obtain ⟨A,B,K,_,O,U,I,J,_⟩:=Q7 X W;rw [K];have m:∀a b:AU,a.lt2 c.t c.k->(c.t<b.t\/c.t=b.t/\c.k<b.k)->a.lt2 b.t b.k:=fun a b g G=>by unfold AU.lt2 at*;omega
 refine PA.2 ⟨PA.2 ⟨O,?_,?_⟩,U,?_⟩;· unfold Nl;split<;>simp
 · intro a g b G
   obtain ⟨_,rfl⟩:=M3.1 G;exact I a g
 · intro a g b G
   rcases C2.1 g with g|g
   · exact m a b (I a g) (J b G)
   · obtain ⟨_,rfl⟩:=M3.1 g
     have:=J b G;unfold AU.lt2;simp only;omega
theorem yE(I:BN rs)(G:GQ rs c):((EL rs c).length:Int)=rs.length+(if c.has then 1 else 0) -(if c.had then 1 else 0):=by
 obtain ⟨A,B,g,_,_,_,_,_,m⟩:=Q7 I G;rw [g,m];unfold Nl;cases c.has<;>cases c.had<;>simp<;>omega
theorem yh(B:BN rs)(G:GQ rs c)(I:¬(c.t=t/\c.k=k)):Fz (EL rs c) t k=Fz rs t k:=by
 cases hg:(Fz rs t k).2 with
 |true=>
  obtain ⟨r,m,hi,_,J⟩:=JL hg;rw [J];exact KQ (JF B G) ((GI B G r).2 (.inl ⟨m,fun h=>by unfold AU.is at h hi;omega⟩)) hi
 |false=>
  have g:∀r∈rs,¬r.is t k:=fun r m hi=>by rw [KQ B m hi]at hg;cases hg
  rw [QO g];refine QO fun r m hi=>?_;rcases (GI B G r).1 m with⟨h,_⟩|⟨_,rfl⟩
  · exact g r h hi
  · exact I hi
def DL(rs:List AU)(cs:List Chg):List AU:=cs.foldl EL rs
theorem ED(rs:List AU)(cs:List Chg)(i:Nat)(c:Chg)(h:cs[i]?=some c):DL rs (cs.take (i+1))=EL (DL rs (cs.take i)) c:=by
 unfold DL;rw [NX,h,cD];rfl
def wV(cs:List Chg):Prop:=∀(i j:Nat) (b c:Chg),i<j->cs[i]?=some b->cs[j]?=some c->b.lt c
theorem pG{a b:Chg}(h:a.lt b)(h2:b.lt c):a.lt c:=by unfold Chg.lt at*;omega
theorem QX(h:∀(i:Nat) (b c:Chg),cs[i]?=some b->cs[i+1]?=some c->b.lt c):wV cs:=by
 intro i j b c g B hc;obtain ⟨d,rfl⟩:∃d,j=i+1+d:=⟨j -(i+1),by omega⟩;clear g;induction d generalizing c with
 |zero=>exact h i b c B hc
 |succ d ih=>
  obtain ⟨x,m⟩:∃x,cs[i+1+d]?=some x:=by
   have:=(C4.1 hc).1;exact ⟨_,BT A0⟩
  exact pG (ih x m) (h (i+1+d) x c m hc)
theorem JM{rs:List AU}{cs:List Chg}(K:BN rs)(I:wV cs)(J:∀c∈cs,GQ rs c):∀i,i<=cs.length->BN (DL rs (cs.take i))/\∀(j:Nat) (c:Chg),i<=j->cs[j]?=some c->GQ (DL rs (cs.take i)) c
 |0,_=>⟨K,fun j c _ hc=>J c (DO hc)⟩
 |i+1,hi=>by
  obtain ⟨G,h2⟩:=JM K I J i A0;obtain ⟨x,B⟩:∃x,cs[i]?=some x:=⟨_,BT A0⟩;rw [ED rs cs i x B];have g:=h2 i x (CT _) B
  refine ⟨JF G g,fun j c U hc=>?_⟩;have m:=I i j x c A0 B hc
  have O:=h2 j c A0 hc;unfold GQ at*;rw [yh G g (by unfold Chg.lt at m;omega)];exact O
def NG(c:Chg):Int:=(if c.has then 1 else 0) -(if c.had then 1 else 0)
def Gt(rs:List AU)(cs:List Chg):Int:=cs.foldl (fun n c=>n+NG c) (rs.length:Int)
theorem Hq(rs:List AU)(cs:List Chg)(i:Nat)(c:Chg)(h:cs[i]?=some c):Gt rs (cs.take (i+1))=Gt rs (cs.take i)+NG c:=by
 unfold Gt;rw [NX,h,cD];rfl
theorem qd(c:Chg):-1<=NG c/\NG c<=1:=by unfold NG;split<;>split<;>omega
theorem OV(rs:List AU)(cs:List Chg):∀i,(rs.length:Int) -i<=Gt rs (cs.take i)/\Gt rs (cs.take i)<=rs.length+i
 |0=>by unfold Gt;simp
 |i+1=>by
  have m:=OV rs cs i;cases h:cs[i]?with
  |none=>rw [NX,h];simp only [Option.toList,DA];omega
  |some c=>have g:=qd c;rw [Hq rs cs i c h];omega
theorem Np{rs:List AU}{cs:List Chg}(G:BN rs)(m:wV cs)(B:∀c∈cs,GQ rs c):∀i,i<=cs.length->((DL rs (cs.take i)).length:Int)=Gt rs (cs.take i)
 |0,_=>rfl
 |i+1,hi=>by
  obtain ⟨x,g⟩:∃x,cs[i]?=some x:=⟨_,BT A0⟩;have J:=Np G m B i A0
  obtain ⟨I,h2⟩:=JM G m B i A0;rw [ED rs cs i x g,Hq rs cs i x g,yE I (h2 i x (CT _) g),J];unfold NG;omega
structure KZ(rs:List AU)(p rp:Int)(cs:List Chg):Prop where
 ok:EK rp cs
 pos:rp=p+1
 fit:∀c∈cs,GQ rs c
 size:Gt rs cs<=2000
theorem Ia(h:∀c∈cs.take i,GQ rs c)(m:cs[i]?=some x)(g:GQ rs x):∀c∈cs.take (i+1),GQ rs c:=by
 rw [NX,m];intro c hc;rcases C2.1 hc with h9|h9
 · exact h c h9
 · rw [C5.1 h9];exact g
theorem Bo(a b:List AU):Ae (a++b)=Ae a++Ae b:=by unfold Ae;rw [PB]
theorem BH:∀(rs:List AU),(Ae rs).length=rs.length*5
 |[]=>rfl
 |r::rs=>by
  have:=BH rs;unfold Ae at*;rw [HW,BW,this,E4];simp;omega
theorem EC(rs:List AU)(k:Nat):(Ae rs).take (k*5)=Ae (rs.take k):=by
 rcases FA rs.length k with h|h
 · rw [Hx (by rw [BH];omega),Hx A0]
 · have e:Ae rs=Ae (rs.take k)++Ae (rs.drop k):=by rw [<-Bo,K1]
   rw [e,Hb (by rw [BH,CD];omega)]
theorem Dj(rs:List AU)(k:Nat):(Ae rs).drop (k*5)=Ae (rs.drop k):=by
 rcases FA rs.length k with h|h
 · rw [Sp (by rw [BH];omega),Sp A0];rfl
 · have e:Ae rs=Ae (rs.take k)++Ae (rs.drop k):=by rw [<-Bo,K1]
   rw [e,X1 (by rw [BH,CD];omega)]
theorem CW(rs:List AU):∀u∈Ae rs,u.oneCell'=true:=by
 intro u g;unfold Ae at g;obtain ⟨r,_,h⟩:=S4.1 g;simp only [DB,Pr,P0]at h;rcases h with rfl|rfl|rfl|rfl|rfl<;>rfl
theorem Ba{n n':Nat}{xs':List A4}(h:Bc sz e v n xs s)(g:n=n')(m:xs=xs'):Bc sz e v n' xs' s:=by subst g m;exact h
theorem F5{b:B8}{n c:Nat}(h:Bc sz e (.slice b n c) n xs s):n<=c:=by
 obtain ⟨_,⟨hv,h0,_⟩|⟨_,_,_,_,hv,_,h2,_⟩⟩:=h;· omega
 · injection hv with _ _ hv3;omega
theorem VJ(sz:Nat)(b:B8)(c:Nat):NS sz (.slice b 0 c) 0 [] []:=⟨by simp,.inl ⟨rfl,b,c,rfl⟩⟩
theorem Db(sz g k c:Nat)(e:AK)(z:Nat×Nat)(xs:List A4)(h:xs.length=k*sz):NS sz (I2 g k c) k xs [(g,.cells xs.toArray e z)]:=
 ⟨h,.inr ⟨g,0,c,xs.toArray,e,z,rfl,rfl,by unfold Bw;rw [Q1];simp⟩⟩
theorem XT(h:c.has=true):Nl c=[⟨c.t,c.k,c.n⟩]:=As h
theorem XU(h:c.has=false):Nl c=[]:=An (by rw [h];decide)
theorem jN(m:cs[i]?=some x)(g:x.had=true)(h2:x.has=true):Gt rs (cs.take (i+1))=Gt rs (cs.take i) -1+1:=by rw [Hq rs cs i x m];unfold NG;rw [As h2,As g];omega
theorem jO(m:cs[i]?=some x)(g:x.had=true)(h2:x.has=false):Gt rs (cs.take (i+1))=Gt rs (cs.take i) -1:=by rw [Hq rs cs i x m];unfold NG;rw [An (by rw [h2];decide),As g];omega
theorem jP(m:cs[i]?=some x)(g:x.had=false)(h2:x.has=true):Gt rs (cs.take (i+1))=Gt rs (cs.take i)+1:=by rw [Hq rs cs i x m];unfold NG;rw [As h2,An (by rw [g];decide)];omega
theorem jQ(m:cs[i]?=some x)(g:x.had=false)(h2:x.has=false):Gt rs (cs.take (i+1))=Gt rs (cs.take i):=by rw [Hq rs cs i x m];unfold NG;rw [An (by rw [h2];decide),An (by rw [g];decide)];omega
theorem ru(sp:Nat)(p rp:Int)(v:A4)(rs:List AU)(sv M:List A9)(q:B8)(bn:Nat)(cs:List Chg)(gm:Bc 5 80 v rs.length (Ae rs) sv)(hO:Cv M (.slice q cs.length bn) cs)(hs:BN rs)(hn:rs.length<=2000)(hp:0<=p/\p<=10000):
 BS prog 25 #[I1 sp,.agg #[I0 rp,.slice q cs.length bn]] [[(sp,.cells #[v,I0 p] 84 (0,0))],sv,M] (fun r H'=>(KZ rs p rp cs/\∃v' p8,r=I0 0/\Bc 5 80 v' (DL rs cs).length (Ae (DL rs cs)) p8/\H'=[[(sp,.cells #[v',I0 rp] 84 (0,0))],p8,M])\/(¬KZ rs p rp cs/\r=I0 40/\H'=[[(sp,.cells #[v,I0 p] 84 (0,0))],sv,M])):=by
 have qz:=mL;obtain ⟨qv,l5,rfl⟩:=gm.form;have pg:=Pw gm A0
 obtain ⟨p9,qj,e9,r9,hg⟩:=id hO;injection e9 with e91 e92 e93
 subst e91 e93;refine Se func25 ntmps25 [0,1] ?_;intro u R;refine A1<|Ze (Bx #[_,_])<|AG fun rb=>A5 Y<|A1<|Zo Wh (Pa #[_,_] IH G3 Y) ?_;refine Xr [_] Y call64 Y V (lg rp q bn cs M hO) ?_;refine A5 Y<|Zq<|Zq<|Aw (n:=12) (0::1::3::7::15::7::39::103::231::487::1023::2047::[]) 0 AF AF V<|A3 0 V (AO Y)<|A3 1 V (Cz Y)<|A3 2 V (AO Y)<|DD (t:=23) Y (fun hv=>?_) (fun hv=>?_);·
  rw [D2 hv];refine AN 3 V<|AN 4 V<|AN 5 V<|AN 6 V<|AN 7 V<|AN 8 V<|AN 9 V<|AN 10 V<|A3 11 V (AX Y Y)<|Ag<|Zn [0,3,32] ?_;refine Zx<|DR Y<|A1<|A5 Y<|AJ<|Zt<|AP V ep Y (by exact .inr ⟨fun h=>hv h.ok,V,V⟩)
 rw [Cl hv];refine B1 3 V (AA (off:=0) HF V rfl AE Y)<|DP 4 V Wh (BD AH Y Ax) ?_;refine B1 5 V (AO Y)<|B1 6 V (Ak Y V)<|B1 7 V (AA (off:=1) JT V rfl AE Y)<|DP 8 V Wh (BD AH Y Ax) ?_
 (refine B1 9 rfl (Ha Y Y (IntWalk.i64_in _ ?_)) ?_;(focus (omega)))
 refine B1 10 V (KI Y Y)<|A3 11 V (AL Y Y)<|Ag<|Zn [0,3,32] ?_;refine Zx<|Av Y (fun ek=>?_) (fun ek=>?_);·
  refine A1<|A5 Y<|AJ<|Zt<|AP V ep Y (by exact .inr ⟨fun h=>ek h.pos,V,V⟩)
 refine AC<|Zx<|Zq ?_;have kv:=Hs.1 hv
 have qa:=Hs.1 ek;have ql:=kv.len
 have ic:=QX kv.ord;refine Zg<|Zm Y<|Zp Y V<|Zh 0 JT V rfl D3 Y<|Zl GF Y ?_;refine Zv (Ab C1 Y)<|A5 Y<|Zq<|A1<|A5 Y<|AR<|Zb [6,7,0,3] ?_;refine BF (e0:=[(6,_),(7,_)]) (fun m e H=>∃(i:Nat),m=cs.length -i/\(i<=cs.length/\(∀c∈cs.take i,GQ rs c))/\e=[(6,I0 (Gt rs (cs.take i))),(7,I0 (i:Int))]/\H=[]) (by exact ⟨0,V,⟨C7 _,by simp⟩,V,V⟩) Wp ?_;rintro _ _ _ ⟨i,rfl,⟨hi,I⟩,rfl,rfl⟩;have o8:=OV rs cs i
 refine Zq<|A1<|Zm Y<|Zh 1 HF V rfl Mp Y<|Zl On Y ?_;refine Zv (Ab Gk Y)<|Zv (Ay Y Y)<|A6<|Av Y (fun d9=>?_) (fun d9=>?_);·
  refine AC<|Zx<|Zq<|AR<|Zq ?_;obtain ⟨x,O⟩:∃x,cs[i]?=some x:=⟨_,BT d9⟩;obtain ⟨g,off,cur,T,zz,rfl,hm,qb,j5⟩:=hg i x O;refine Zg<|Zh 1 HF V rfl Mp Y<|Zl On Y ?_;refine Zm Y<|BZ (Ad Gk CA Y Y A0)<|CS (cs:=[(g,.cells cur T zz)]) (by simp [hm]) (AB (cs:=x.A93) GP CA Y A0 j5) V rfl ?_;refine Ze (Al Lw #[_,_,_,_,_,_,_,_,_,_])<|AG fun cb=>Xe (Xw CA x.A93) ?_;refine A6<|A1<|Zm Y<|Zh 0 C3 V rfl AE Y<|Zl AH Y ?_;refine Zh 1 C3 V rfl AE Y<|Zl AH Y ?_;refine Xr [_,_,_] Y call24 Y V (rf sp qv l5 p x.t x.k rs sv pg A0 hs) ?_;obtain ⟨gr,cO⟩:∃gr,gr=Fz rs x.t x.k:=⟨_,rfl⟩;rw [<-cO];refine Zm Y<|Zd Y V<|Zd Y V<|Ze (Al EV #[_,_,_,_,_])<|AG fun xb=>Xe (Xw B3 #[I0 gr.1.t,I0 gr.1.k,I0 gr.1.v.a,I0 gr.1.v.b,I0 gr.1.v.c]) ?_;refine AW Y<|Zn [0,3,6,7,8,9,10] ?_;refine Zx<|Zq<|A1<|Zm Y<|Zh 2 C3 V rfl DM Y<|Zl Fc Y ?_;refine Zv (I4 Mn Y Y)<|Zm Y<|Ao (t:=63) Y V (fun gq=>?_) (fun gq=>?_);·
   refine A7 Y V<|A7 Y V<|A7 Y V<|A7 Y V<|A7 Y V<|A7 Y V<|A7 Y V<|A7 Y V<|Zv (AX Y Y)<|Z0<|Zn [0,3,6,7,8,72] ?_;refine Zx<|DR Y<|A1<|A5 Y<|AJ<|Zt<|Ac<|Zt<|Zt<|Ac<|Zt<|AP rfl ep Y (by exact .inr ⟨fun h=>by have h9:=(h.fit x (DO O)).1;rw [<-cO]at h9;exact gq h9,rfl,rfl⟩)
  refine Zf Y Y<|Zf Y Y ?_;refine Aj (t:=65) Y V (fun gy=>?_) (fun gy=>?_);·
   refine Yf 2 Fo V rfl E0 Y<|Dt Y Wh (Pa #[_,_,_] HM E0 Y) V rfl ?_;refine Yf 3 C3 V rfl E0 Y<|Dt Y Wh (AB (cs:=#[_,_,_]) HM E0 Y B5 Ax) V rfl ?_;refine Yg (Ko AF I3 DE AH AE Y Y) ?_;refine Yg (AX Y Y)<|Zv (AL Y Y)<|Z0<|Zn [0,3,6,7,8,72] ?_;refine Zx<|Av Y (fun j3=>?_) (fun j3=>?_);·
    refine A1<|A5 Y<|AJ<|Zt<|Ac<|Zt<|Zt<|Ac<|Zt<|AP rfl ep Y (by exact .inr ⟨fun h=>by have h9:=(h.fit x (DO O)).2;rw [<-cO]at h9;exact j3 (h9 gy),rfl,rfl⟩)
   refine AC<|Zx<|Zq<|Zq ?_;have U:GQ rs x:=by
    unfold GQ;rw [<-cO];refine ⟨by simpa using gq,fun h=>?_⟩;exact Hs.1 j3
   refine Zg<|Zh 2 C3 V rfl DM Y<|Zl Fc Y ?_;refine A6<|AQ Y (fun G=>?_) (fun G=>?_);·
    refine Zg<|Zm Y ?_
    (refine BZ (FU Y Y (IntWalk.i64_in _ ?_)) ?_;(focus (omega)))
    refine A5 Y<|A1<|Zh 6 C3 V rfl DM Y<|Zl Fc Y ?_;refine A6<|AQ Y (fun B=>?_) (fun B=>?_);·
     refine Zg<|Zm Y<|Yi Y Y<|AW Y<|A8<|Zx<|Zg<|Zm Y<|Ya (n:=1) Y Y<|AW Y<|Zn [6,7,0,3] ?_;refine Aa (e':=[(6,_),(7,_)]) (by exact ⟨i+1,rfl,⟨by omega,Ia I O U⟩,by rw [jN O G B],rfl⟩)
    refine AC<|A8<|Zx<|Zg<|Zm Y<|Ya (n:=1) Y Y<|AW Y<|Zn [6,7,0,3] ?_;refine Aa (e':=[(6,_),(7,_)]) (by exact ⟨i+1,rfl,⟨by omega,Ia I O U⟩,by rw [jO O G B],rfl⟩)
   refine AC<|Zx<|A1<|Zh 6 C3 V rfl DM Y<|Zl Fc Y ?_;refine A6<|AQ Y (fun B=>?_) (fun B=>?_);·
    refine Zg<|Zm Y<|Yi Y Y<|AW Y<|A8<|Zx<|Zg<|Zm Y<|Ya (n:=1) Y Y<|AW Y<|Zn [6,7,0,3] ?_;refine Aa (e':=[(6,_),(7,_)]) (by exact ⟨i+1,rfl,⟨by omega,Ia I O U⟩,by rw [jP O G B],rfl⟩)
   refine AC<|A8<|Zx<|Zg<|Zm Y<|Ya (n:=1) Y Y<|AW Y<|Zn [6,7,0,3] ?_;refine Aa (e':=[(6,_),(7,_)]) (by exact ⟨i+1,rfl,⟨by omega,Ia I O U⟩,by rw [jQ O G B],rfl⟩)
  refine A7 Y V<|A7 Y V<|A7 Y V<|A7 Y V<|A7 Y V<|Yg (AL Y Y)<|Zv (AL Y Y)<|Z0<|Zn [0,3,6,7,8,72] ?_;refine Zx<|DI Y<|AC<|Zx<|Zq<|Zq ?_;have U:GQ rs x:=by
   unfold GQ;rw [<-cO];refine ⟨by simpa using gq,fun h=>?_⟩
   (rw [h]at gy;cases gy)
  refine Zg<|Zh 2 C3 V rfl DM Y<|Zl Fc Y ?_;refine A6<|AQ Y (fun G=>?_) (fun G=>?_);·
   refine Zg<|Zm Y ?_
   (refine BZ (FU Y Y (IntWalk.i64_in _ ?_)) ?_;(focus (omega)))
   refine A5 Y<|A1<|Zh 6 C3 V rfl DM Y<|Zl Fc Y ?_;refine A6<|AQ Y (fun B=>?_) (fun B=>?_);·
    refine Zg<|Zm Y<|Yi Y Y<|AW Y<|A8<|Zx<|Zg<|Zm Y<|Ya (n:=1) Y Y<|AW Y<|Zn [6,7,0,3] ?_;refine Aa (e':=[(6,_),(7,_)]) (by exact ⟨i+1,rfl,⟨by omega,Ia I O U⟩,by rw [jN O G B],rfl⟩)
   refine AC<|A8<|Zx<|Zg<|Zm Y<|Ya (n:=1) Y Y<|AW Y<|Zn [6,7,0,3] ?_;refine Aa (e':=[(6,_),(7,_)]) (by exact ⟨i+1,rfl,⟨by omega,Ia I O U⟩,by rw [jO O G B],rfl⟩)
  refine AC<|Zx<|A1<|Zh 6 C3 V rfl DM Y<|Zl Fc Y ?_;refine A6<|AQ Y (fun B=>?_) (fun B=>?_);·
   refine Zg<|Zm Y<|Yi Y Y<|AW Y<|A8<|Zx<|Zg<|Zm Y<|Ya (n:=1) Y Y<|AW Y<|Zn [6,7,0,3] ?_;refine Aa (e':=[(6,_),(7,_)]) (by exact ⟨i+1,rfl,⟨by omega,Ia I O U⟩,by rw [jP O G B],rfl⟩)
  refine AC<|A8<|Zx<|Zg<|Zm Y<|Ya (n:=1) Y Y<|AW Y<|Zn [6,7,0,3] ?_;refine Aa (e':=[(6,_),(7,_)]) (by exact ⟨i+1,rfl,⟨by omega,Ia I O U⟩,by rw [jQ O G B],rfl⟩)
 have ei:i=cs.length:=by omega
 subst ei;rw [GC]at I o8⊢;refine Az<|Zt<|Zt<|AV<|Zx<|Zq<|A1<|Zm Y<|Zv (Ef Y Y)<|A6<|Av Y (fun l8=>?_) (fun l8=>?_);·
  refine A1<|A5 Y<|AJ<|Zt<|AP V ep Y (by exact .inr ⟨fun h=>by have h9:=h.size;omega,V,V⟩)
 refine AC<|Zx<|Zq<|A1<|A5 Y<|AR<|Zb [11,0,3] ?_;refine BF (e0:=[(11,_)]) (fun m e H=>∃(i:Nat) (w:A4) (sw:List A9),m=cs.length -i/\(i<=cs.length/\Bc 5 80 w (DL rs (cs.take i)).length (Ae (DL rs (cs.take i))) sw)/\e=[(11,I0 (i:Int))]/\H=[[(sp,.cells #[w,I0 p] 84 (0,0))],sw]) (by exact ⟨0,_,sv,V,⟨C7 _,gm⟩,V,V⟩) Wp ?_;rintro _ _ _ ⟨i,w,sw,rfl,⟨hi,K⟩,rfl,rfl⟩;obtain ⟨o9,l9⟩:=JM hs ic I i hi;have q9:=Np hs ic I i hi
 have o8:=OV rs cs i;obtain ⟨qs,ax⟩:∃qs,qs=DL rs (cs.take i):=⟨_,rfl⟩;rw [<-ax]at K o9 q9 l9;obtain ⟨qw,cu,rfl⟩:=K.form;have qo:=F5 K
 have pq:=Pw K A0;refine Zq<|A1<|Zm Y<|Zh 1 HF V rfl Mp Y<|Zl On Y ?_;refine Zv (Ab Gk Y)<|Zv (Ay Y Y)<|A6<|Av Y (fun d9=>?_) (fun d9=>?_);·
  refine AC<|Zx<|Zq<|AR<|Zq ?_;obtain ⟨x,O⟩:∃x,cs[i]?=some x:=⟨_,BT d9⟩;obtain ⟨g,off,cur,T,zz,rfl,hm,qb,j5⟩:=hg i x O;have U:=l9 i x (CT _) O
  have dn:=Vf qs x.t x.k;have J:EL qs x=qs.take (E8 qs x.t x.k)++Nl x++(qs.drop (E8 qs x.t x.k)).drop (if x.had then 1 else 0):=rfl
  obtain ⟨k,hk⟩:∃k,k=E8 qs x.t x.k:=⟨_,rfl⟩;have pz:x.had=true->k<qs.length:=fun h=>by
   obtain ⟨r,_,_,h9,_⟩:=JL (by rw [U.1,h]:(Fz qs x.t x.k).2=true);rw [<-hk]at h9;exact (C4.1 h9).1
  rw [<-hk]at dn J;refine Zg<|Zh 1 HF V rfl Mp Y<|Zl On Y ?_;refine Zm Y<|BZ (Ad Gk CA Y Y A0)<|CS (cs:=[(g,.cells cur T zz)]) (by simp [hm]) (AB (cs:=x.A93) GP CA Y A0 j5) V rfl ?_;refine Ze (Al Lw #[_,_,_,_,_,_,_,_,_,_])<|AG fun cb=>Xe (Xw CA x.A93) ?_;refine A6<|A1<|Zm Y<|Zh 0 C3 V rfl AE Y<|Zl AH Y ?_;refine Zh 1 C3 V rfl AE Y<|Zl AH Y ?_;refine Xr [_,_,_] Y call63 Y V (Yn sp qw cu p x.t x.k qs sw pq A0 o9) ?_;rw [<-hk];refine AW Y<|Zn [0,3,11,12,13] ?_;refine Zx<|A1<|Zm Y<|Zp Y V<|Zh 0 JT V rfl D3 Y<|Zl GF Y ?_;refine Zm Y<|BZ (C8 C1 B3 Y Y A0)<|A5 Y<|Zq<|A1<|Zh 2 C3 V rfl DM Y<|Zl Fc Y ?_;refine A6<|AQ Y (fun G=>?_) (fun G=>?_);·
   have qx:=pz G;refine Zg<|Zm Y<|BZ (C8 (l:=1) C1 B3 Y Y A0)<|A5 Y<|A1<|AW Y<|Zn [0,3,11,12,13,14,15] ?_;refine Zx<|A1<|Zo Wh (Pa #[_,_,_,_,_,_,_,_,_,_] GP CA Y) ?_;refine Xr [_] Y call65 Y V (Sl x) ?_;refine Zm Y<|Zd Y V<|Zd Y V<|Ze (Al EV #[_,_,_,_,_])<|AG fun xb=>Xe (Xw B3 x.after.A94) ?_;refine A5 Y<|Zq<|A1<|Zm Y<|A6<|AQ Y (fun B=>?_) (fun B=>?_);·
    refine Zg<|Zo Wh (Pa #[_,_,_,_,_] Cp B3 Y) ?_;refine Ze (Ai (vs:=[_]) (cs:=[_,_,_,_,_]) C1 B3 EV Y V rfl V rfl V)<|AG fun gb=>A5 Y<|A1<|AW Y<|Zn [0,3,11,13,14,15,18] ?_;refine Zx<|Zq<|Be<|Zg<|Zm Y<|Zm Y<|Zp Y V<|Zh 0 JT V rfl D3 Y<|Zl GF Y ?_;refine Zm Y<|BZ (Bt C1 B3 Y Y A0)<|Ze (BV (by_:=40) (sz:=5) C1 (V:Tryz.prog.info? 80=some Tryz.t80) V rfl V rfl Y (Bi 5 _) Y (K4 K k _ dn) Wo Wo (by exact fun u hu=>CW qs u (P2 hu)) A0 A0) ?_;rintro _ _ ⟨sa,X,rfl⟩;obtain ⟨ga,ca,rfl⟩:=X.form;refine Zm Y<|Ze (BV (by_:=40) (sz:=5) C1 (V:Tryz.prog.info? 80=some Tryz.t80) V rfl V rfl Y (X) Y (Db 5 gb 1 1 80 (0,0) (Ae [x.after]) V) Wo Wo (by exact CW _) A0 A0) ?_;rintro _ _ ⟨sb,Z,rfl⟩;obtain ⟨gb,cb,rfl⟩:=Z.form;refine Zm Y<|Ze (BV (by_:=40) (sz:=5) C1 (V:Tryz.prog.info? 80=some Tryz.t80) V rfl V rfl Y (Z) Y (YM (K5 K k (qs.length -k) (cu -k) A0) 1 (qs.length -k -1) _ A0 A0) Wo Wo (by exact fun u hu=>CW qs u (Kf (Kf hu))) A0 A0) ?_;rintro _ _ ⟨sc,af,rfl⟩;have W:=Ba af (n':=(EL qs x).length) (xs':=Ae (EL qs x)) (by rw [J,XT B,As G,BW,BW,CD,CH,CH];simp only [E4,Ks];omega) (by rw [J,XT B,As G,Bo,Bo,<-EC,<-Dj (qs.drop k) 1,<-Dj];rw [LM B];rfl)
    obtain ⟨gc,cc,rfl⟩:=af.form;refine AW Y<|Zn [0,3,11,18] ?_;refine Zx<|Zg<|Zm Y<|Zm Y<|Zp Y V<|Zh 0 JT V rfl D3 Y<|Xe (Zs D3 Y Y V) ?_;refine Z0<|A8<|Zx<|Zg<|Zm Y<|Ya (n:=1) Y Y<|AW Y<|Zn [11,0,3] ?_;refine Aa (e':=[(11,_)]) (by exact ⟨i+1,_,_,rfl,⟨by omega,by rw [ED rs cs i x O,<-ax];exact W⟩,rfl,rfl⟩)
   refine Be<|AC<|Zx<|A1<|A5 Y<|Zq<|Be<|Zg<|Zm Y<|Zm Y<|Zp Y V<|Zh 0 JT V rfl D3 Y<|Zl GF Y ?_;refine Zm Y<|BZ (Bt C1 B3 Y Y A0)<|Ze (BV (by_:=40) (sz:=5) C1 (V:Tryz.prog.info? 80=some Tryz.t80) V rfl V rfl Y (Bi 5 _) Y (K4 K k _ dn) Wo Wo (by exact fun u hu=>CW qs u (P2 hu)) A0 A0) ?_;rintro _ _ ⟨sa,X,rfl⟩;obtain ⟨ga,ca,rfl⟩:=X.form;refine Zm Y<|Ze (BV (by_:=40) (sz:=5) C1 (V:Tryz.prog.info? 80=some Tryz.t80) V rfl V rfl Y (X) Y (VJ 5 none 0) Wo Wo B4 A0 A0) ?_;rintro _ _ ⟨sb,Z,rfl⟩;obtain ⟨gb,cb,rfl⟩:=Z.form;refine Zm Y<|Ze (BV (by_:=40) (sz:=5) C1 (V:Tryz.prog.info? 80=some Tryz.t80) V rfl V rfl Y (Z) Y (YM (K5 K k (qs.length -k) (cu -k) A0) 1 (qs.length -k -1) _ A0 A0) Wo Wo (by exact fun u hu=>CW qs u (Kf (Kf hu))) A0 A0) ?_;rintro _ _ ⟨sc,af,rfl⟩;have W:=Ba af (n':=(EL qs x).length) (xs':=Ae (EL qs x)) (by rw [J,XU B,As G,BW,BW,CD,CH,CH];simp only [E4,Ks];omega) (by rw [J,XU B,As G,Bo,Bo,<-EC,<-Dj (qs.drop k) 1,<-Dj];rfl)
   obtain ⟨gc,cc,rfl⟩:=af.form;refine AW Y<|Zn [0,3,11,18] ?_;refine Zx<|Zg<|Zm Y<|Zm Y<|Zp Y V<|Zh 0 JT V rfl D3 Y<|Xe (Zs D3 Y Y V) ?_;refine Z0<|A8<|Zx<|Zg<|Zm Y<|Ya (n:=1) Y Y<|AW Y<|Zn [11,0,3] ?_;refine Aa (e':=[(11,_)]) (by exact ⟨i+1,_,_,rfl,⟨by omega,by rw [ED rs cs i x O,<-ax];exact W⟩,rfl,rfl⟩)
  refine AC<|Zx<|A1<|A5 Y<|A1<|Zo Wh (Pa #[_,_,_,_,_,_,_,_,_,_] GP CA Y) ?_;refine Xr [_] Y call65 Y V (Sl x) ?_;refine Zm Y<|Zd Y V<|Zd Y V<|Ze (Al EV #[_,_,_,_,_])<|AG fun xb=>Xe (Xw B3 x.after.A94) ?_;refine AW Y<|Zn [0,3,11,13,14,15,16,17] ?_;refine Zx<|Zq<|A1<|Zm Y<|A6<|AQ Y (fun B=>?_) (fun B=>?_);·
   refine Zg<|Zo Wh (Pa #[_,_,_,_,_] Cp B3 Y) ?_;refine Ze (Ai (vs:=[_]) (cs:=[_,_,_,_,_]) C1 B3 EV Y V rfl V rfl V)<|AG fun gb=>A5 Y<|A1<|A5 Y<|Zq<|Be<|Zg<|Zm Y<|Zm Y<|Zp Y V<|Zh 0 JT V rfl D3 Y<|Zl GF Y ?_;refine Zm Y<|BZ (Bt C1 B3 Y Y A0)<|Ze (BV (by_:=40) (sz:=5) C1 (V:Tryz.prog.info? 80=some Tryz.t80) V rfl V rfl Y (Bi 5 _) Y (K4 K k _ dn) Wo Wo (by exact fun u hu=>CW qs u (P2 hu)) A0 A0) ?_;rintro _ _ ⟨sa,X,rfl⟩;obtain ⟨ga,ca,rfl⟩:=X.form;refine Zm Y<|Ze (BV (by_:=40) (sz:=5) C1 (V:Tryz.prog.info? 80=some Tryz.t80) V rfl V rfl Y (X) Y (Db 5 gb 1 1 80 (0,0) (Ae [x.after]) V) Wo Wo (by exact CW _) A0 A0) ?_;rintro _ _ ⟨sb,Z,rfl⟩;obtain ⟨gb,cb,rfl⟩:=Z.form;refine Zm Y<|Ze (BV (by_:=40) (sz:=5) C1 (V:Tryz.prog.info? 80=some Tryz.t80) V rfl V rfl Y (Z) Y (K5 K k (qs.length -k) _ A0) Wo Wo (by exact fun u hu=>CW qs u (Kf hu)) A0 A0) ?_;rintro _ _ ⟨sc,af,rfl⟩;have W:=Ba af (n':=(EL qs x).length) (xs':=Ae (EL qs x)) (by rw [J,XT B,An (by rw [G];decide),BW,BW,CD,CH,CH];simp only [E4,Ks];omega) (by rw [J,XT B,An (by rw [G];decide),Bo,Bo,<-EC,<-Dj (qs.drop k) 0,<-Dj,fx,Q1];rw [LM B];rfl)
   obtain ⟨gc,cc,rfl⟩:=af.form;refine AW Y<|Zn [0,3,11,18] ?_;refine Zx<|Zg<|Zm Y<|Zm Y<|Zp Y V<|Zh 0 JT V rfl D3 Y<|Xe (Zs D3 Y Y V) ?_;refine Z0<|A8<|Zx<|Zg<|Zm Y<|Ya (n:=1) Y Y<|AW Y<|Zn [11,0,3] ?_;refine Aa (e':=[(11,_)]) (by exact ⟨i+1,_,_,rfl,⟨by omega,by rw [ED rs cs i x O,<-ax];exact W⟩,rfl,rfl⟩)
  refine Be<|AC<|Zx<|A1<|A5 Y<|Zq<|Be<|Zg<|Zm Y<|Zm Y<|Zp Y V<|Zh 0 JT V rfl D3 Y<|Zl GF Y ?_;refine Zm Y<|BZ (Bt C1 B3 Y Y A0)<|Ze (BV (by_:=40) (sz:=5) C1 (V:Tryz.prog.info? 80=some Tryz.t80) V rfl V rfl Y (Bi 5 _) Y (K4 K k _ dn) Wo Wo (by exact fun u hu=>CW qs u (P2 hu)) A0 A0) ?_;rintro _ _ ⟨sa,X,rfl⟩;obtain ⟨ga,ca,rfl⟩:=X.form;refine Zm Y<|Ze (BV (by_:=40) (sz:=5) C1 (V:Tryz.prog.info? 80=some Tryz.t80) V rfl V rfl Y (X) Y (VJ 5 none 0) Wo Wo B4 A0 A0) ?_;rintro _ _ ⟨sb,Z,rfl⟩;obtain ⟨gb,cb,rfl⟩:=Z.form;refine Zm Y<|Ze (BV (by_:=40) (sz:=5) C1 (V:Tryz.prog.info? 80=some Tryz.t80) V rfl V rfl Y (Z) Y (K5 K k (qs.length -k) _ A0) Wo Wo (by exact fun u hu=>CW qs u (Kf hu)) A0 A0) ?_;rintro _ _ ⟨sc,af,rfl⟩;have W:=Ba af (n':=(EL qs x).length) (xs':=Ae (EL qs x)) (by rw [J,XU B,An (by rw [G];decide),BW,BW,CD,CH,CH];simp only [E4,Ks];omega) (by rw [J,XU B,An (by rw [G];decide),Bo,Bo,<-EC,<-Dj (qs.drop k) 0,<-Dj,fx,Q1];rfl)
  obtain ⟨gc,cc,rfl⟩:=af.form;refine AW Y<|Zn [0,3,11,18] ?_;refine Zx<|Zg<|Zm Y<|Zm Y<|Zp Y V<|Zh 0 JT V rfl D3 Y<|Xe (Zs D3 Y Y V) ?_;refine Z0<|A8<|Zx<|Zg<|Zm Y<|Ya (n:=1) Y Y<|AW Y<|Zn [11,0,3] ?_;refine Aa (e':=[(11,_)]) (by exact ⟨i+1,_,_,rfl,⟨by omega,by rw [ED rs cs i x O,<-ax];exact W⟩,rfl,rfl⟩)
 have ei:i=cs.length:=by omega
 subst ei;rw [GC]at ax;refine Az<|Zt<|Zt<|AV<|Zx<|A1<|Zm Y<|Zh 0 HF V rfl AE Y<|Zl AH Y ?_;refine Zp Y V<|Zh 1 JT V rfl AE Y<|Xe (Zs AE Y Y V) ?_;refine A6<|A1<|A5 Y<|AJ<|AP rfl ep Y (by exact .inl ⟨⟨kv,qa,I,by omega⟩,_,sw,rfl,by rw [<-ax];exact K,rfl⟩)
structure BR where
 p:Int
 q:B8
 cap:Nat
 cs:List Chg
def Dv(l:List BR):List A4:=l.flatMap (fun r=>[I0 r.p,.slice r.q r.cs.length r.cap])
def Ee(M:List A9)(v:A4)(l:List BR):Prop:=∃p cap,v= .slice p l.length cap/\(l.length<=maxLen/\l.length<=cap)/\∀(i:Nat) (r:BR),l[i]?=some r->Cv M (.slice r.q r.cs.length r.cap) r.cs/\∃g off cur T zz,p=some ⟨g,off,none⟩/\(g,Obj.cells cur T zz)∈M/\off+i*2+2<=cur.size/\cur.extract (off+i*2) (off+i*2+2)=#[I0 r.p,.slice r.q r.cs.length r.cap]
def BQ(l:List BR):List AU:=l.foldl (fun rs r=>DL rs r.cs) []
theorem Fq(l:List BR)(r:BR):BQ (l++[r])=DL (BQ l) r.cs:=by unfold BQ;rw [cD];rfl
def En(l:List BR):Prop:=∀(i:Nat) (r:BR),l[i]?=some r->KZ (BQ (l.take i)) (i:Int) r.p r.cs/\r.cs.length<=3
theorem j6{p rp:Int}(B:BN rs)(h:KZ rs p rp cs):BN (DL rs cs)/\(DL rs cs).length<=2000:=by
 have m:=QX h.ok.ord;obtain ⟨g,_⟩:=JM B m h.fit cs.length (CT _);have h2:=Np B m h.fit cs.length (CT _)
 rw [GC]at g h2;exact ⟨g,by have:=h.size;omega⟩
theorem En.rows{l:List BR}(h:En l):∀i,i<=l.length->BN (BQ (l.take i))/\(BQ (l.take i)).length<=2000
 |0,_=>⟨List.Pairwise.nil,C7 _⟩
 |i+1,hi=>by
  obtain ⟨r,g⟩:∃r,l[i]?=some r:=⟨_,BT A0⟩;have m:=En.rows h i A0
  rw [NX,g];show BN (BQ (l.take i++[r]))/\_
  rw [show(some r).toList=[r] from rfl,Fq];exact j6 m.1 (h i r g).1
theorem En.all{l:List BR}(h:En l):BN (BQ l)/\(BQ l).length<=2000:=by
 have:=h.rows l.length (CT _);rwa [GC]at this
theorem En.snoc{l:List BR}(h:En l){r:BR}(G:KZ (BQ l) (l.length:Int) r.p r.cs)(B:r.cs.length<=3):En (l++[r]):=by
 intro i x g;rw [oT]at g;split at g
 · rename_i hi
   rw [cQ A0];exact h i x g
 · rename_i hi
   have m:=(C4.1 g).1;simp only [F2]at m;have e:i=l.length:=by omega
   subst e;rw [T7]at g;injection g with g
   subst g;rw [Hb rfl];exact ⟨G,B⟩
theorem GJ:∀(cs:List Chg),(Co cs).length=cs.length*10
 |[]=>rfl
 |c::cs=>by
  have:=GJ cs;unfold Co at*;rw [HW,BW,this,E4];simp;omega
theorem J5(a b:List Chg):Co (a++b)=Co a++Co b:=by unfold Co;rw [PB]
theorem Uv(cs:List Chg)(k:Nat):(Co cs).take (k*10)=Co (cs.take k):=by
 rcases FA cs.length k with h|h
 · rw [Hx (by rw [GJ];omega),Hx A0]
 · have e:Co cs=Co (cs.take k)++Co (cs.drop k):=by rw [<-J5,K1]
   rw [e,Hb (by rw [GJ,CD];omega)]
theorem Uw(cs:List Chg)(k:Nat):(Co cs).drop (k*10)=Co (cs.drop k):=by
 rcases FA cs.length k with h|h
 · rw [Sp (by rw [GJ];omega),Sp A0];rfl
 · have e:Co cs=Co (cs.take k)++Co (cs.drop k):=by rw [<-J5,K1]
   rw [e,X1 (by rw [GJ,CD];omega)]
theorem PS(cs:List Chg):∀u∈Co cs,u.oneCell'=true:=by
 intro u g;unfold Co at g;obtain ⟨r,_,h⟩:=S4.1 g;simp only [DB,Pr,P0]at h;rcases h with rfl|rfl|rfl|rfl|rfl|rfl|rfl|rfl|rfl|rfl<;>rfl
theorem vk{cur:AM}{j:Nat}(h:Bw cur 0 (Co cs))(I:cs[j]?=some y):cur[j*10]?=some (I0 y.t)/\cur[j*10+1]?=some (I0 y.k):=by
 have m:=J3 (fun c:Chg=>[I0 c.t,I0 c.k,.bool c.had,I0 c.o.a,I0 c.o.b,I0 c.o.c,.bool c.has,I0 c.n.a,I0 c.n.b,I0 c.n.c]) 10 (fun _=>rfl) cs j y I;have e:∀q,((Co cs).drop (j*10)).take 10=[I0 y.t,I0 y.k,.bool y.had,I0 y.o.a,I0 y.o.b,I0 y.o.c,.bool y.has,I0 y.n.a,I0 y.n.b,I0 y.n.c]->q<10->(Co cs)[j*10+q]?=([I0 y.t,I0 y.k,.bool y.had,I0 y.o.a,I0 y.o.b,I0 y.o.c,.bool y.has,I0 y.n.a,I0 y.n.b,I0 y.n.c]:List A4)[q]?:=fun q B G=>by
  rw [<-B,HH,As G,S1]
 have a0:=h.get (j*10+0) _ ((e 0 m A0).trans rfl);have g:=h.get (j*10+1) _ ((e 1 m A0).trans rfl)
 rw [D4]at a0 g;exact ⟨a0,g⟩
theorem Jj{M:List A9}(h:Cv M v cs)(s:List A9):Cv (M++s) v cs:=by
 obtain ⟨p,cap,hv,I,G⟩:=h;refine ⟨p,cap,hv,I,fun i c hc=>?_⟩;obtain ⟨g,off,cur,T,zz,m,h2,B⟩:=G i c hc;exact ⟨g,off,cur,T,zz,m,Ek _ h2,B⟩
theorem H5{M:List A9}(h:Cv M v cs)(s:List A9):Cv (s++M) v cs:=by
 obtain ⟨p,cap,hv,I,G⟩:=h;refine ⟨p,cap,hv,I,fun i c hc=>?_⟩;obtain ⟨g,off,cur,T,zz,m,h2,B⟩:=G i c hc;exact ⟨g,off,cur,T,zz,m,GB _ h2,B⟩
def Wd(M:List A9)(v:A4)(xs:List (List Int)):Prop:=∃p cap,v= .slice p xs.length cap/\(xs.length<=maxLen/\xs.length<=cap)/\∀(i:Nat) (z:List Int),xs[i]?=some z->z.length=6/\(∀n∈z,-9223372036854775808<=n/\n<=9223372036854775807)/\∃g off cur T zz,p=some ⟨g,off,none⟩/\(g,Obj.cells cur T zz)∈M/\∀(j:Nat) (n:Int),z[j]?=some n->cur[off+i*6+j]?=some (I0 n)
theorem K9{l:List BR}{G:List A9}(h:Bc 2 57 v l.length (Dv l) s)(K:l.length<=maxLen)(J:∀r∈l,Cv G (.slice r.q r.cs.length r.cap) r.cs):Ee (s++G) v l:=by
 obtain ⟨b,cap,rfl⟩:=h.form;refine ⟨b,cap,V,⟨K,F5 h⟩,fun i r B=>⟨H5 (J r (DO B)) s,?_⟩⟩;obtain ⟨g,I,cur,z,hv,rfl,O,m⟩:=K8 h i (C4.1 B).1;injection hv with hv1 hv2 hv3
 refine ⟨g,0,cur,57,z,hv1,Ek _ (C5.2 V),by omega,?_⟩;rw [D4];apply HX.1;rw [m];exact J3 _ 2 (fun _=>rfl) l i r B
theorem Kk(a b:List BR):Dv (a++b)=Dv a++Dv b:=by unfold Dv;rw [PB]
theorem tU:BS prog 23 #[] [] (fun r H'=>∃g,r=I1 g/\H'=[[(g,.cells #[.slice none 0 0,I0 0] 84 (0,0))]]):=by
 refine Se func23 ntmps23 [] ?_;intro u R;refine A1<|A5 Y<|A1<|Zv (BM (vs:=[]) (cs:=#[_,_]) Y (AZ (pl:=#[(0,1),(1,1)]) zeroValue84 JT (fun _=>by kernel_rfl) V))<|Ze (Bx #[_,_])<|AG fun g=>A5 Y<|AJ<|AP V results23 Y (by exact ⟨g,V,V⟩)
def K2(k:Int×Int):A4:= .agg #[I0 k.1,I0 k.2]
def KD(k:Int×Int):Prop:=(Lit.int .i64 k.1).wf=true/\(Lit.int .i64 k.2).wf=true
def Sc(r:AU):A4:= .agg r.A94
theorem wS:∀a b,K2 a=K2 b->a=b:=by
 rintro ⟨a,b⟩ ⟨c,d⟩ h;unfold K2 at h;simp only [Value.agg.injEq,pP,mu,Value.int.injEq,fL,WD]at h;rw [h.1,h.2]
theorem PE(P:Program)(d:Nat)(a:Int){t:AK}(g:P.underlying t=some (.int .i64))(h:(Lit.int .i64 a).wf=true):P.keyLits (d+1) t [.int .i64 a]=some [.int .i64 a]:=by
 unfold Program.keyLits;rw [g];simp [h]
theorem um:G7 prog 217 K2 KD:=G7.ofLaw (deep_law (m:=3) (by decide) (by kernel_rfl) (by kernel_rfl) (by kernel_rfl)) (by
 rintro ⟨a,b⟩ ⟨G,I⟩;have B:Tryz.prog.types.size+1=(Tryz.prog.types.size -1)+1+1:=by
  have:0<Tryz.prog.types.size:=HN AF;omega
 have hc:Tryz.prog.cellsOf 3=1:=by kernel_rfl
 have g:Tryz.prog.cellsOf 217=2:=by kernel_rfl
 have O:Tryz.prog.keyType 217=true:=by kernel_rfl
 have K:(K2 (a,b)).formed prog 217=true:=by
  unfold Value.formed K2;rw [iS];simp [g]
 unfold keyOf;rw [iS];simp only [O,K,Bool.and_self,Hh];obtain ⟨d,J⟩:∃d,Tryz.prog.types.size+1=d+1+1:=⟨_,B⟩;rw [J];unfold Program.keyLits;rw [iS];have U:=PE prog d a DE G
 have W:=PE prog d b DE I;simp [K2,Value.cells,hc,g,U,W]) wS
structure Gf(l:List ((Int×Int)×A4))(rs:List AU):Prop where
 mem:∀p,p∈l↔∃r∈rs,p=((r.t,r.k),Sc r)
 kd:∀r∈rs,KD (r.t,r.k)
theorem uH:Gf [] []:=⟨fun p=>by simp,fun r h=>by cases h⟩
variable{l:List ((Int×Int)×A4)}
theorem Gf.keys(h:Gf l rs):∀p∈l,KD p.1:=fun p g=>by
 obtain ⟨r,m,rfl⟩:=(h.mem p).1 g;exact h.kd r m
theorem Yc{a b:AU}(h:Sc a=Sc b):a=b:=by
 obtain ⟨t,k,⟨x,y,z⟩⟩:=a;obtain ⟨m,g,⟨B,G,I⟩⟩:=b;unfold Sc at h;simp only [Value.agg.injEq,pP,mu,Value.int.injEq,fL,WD]at h;obtain ⟨rfl,rfl,rfl,rfl,rfl⟩:=h;rfl
theorem Gf.len{es:Array MapEntry}{ck:Nat}(G:Ck K2 es ck l)(h:Gf l rs)(J:BN rs):l.length=rs.length:=by
 have B:l.Nodup:=by
  have:=G.keys;rw [ar,V0]at this;rw [ar];exact this.imp (fun g e=>g (by rw [e]))
 have h2:(rs.map (fun r=>((r.t,r.k),Sc r))).Nodup:=by
  rw [ar,V0];refine J.imp (fun{a b} hab e=>?_);have e2:=Yc (Prod.mk.inj e).2
  subst e2;unfold AU.lt2 at hab;omega
 have I:l.Perm (rs.map (fun r=>((r.t,r.k),Sc r))):=by
  rw [N6 B h2];intro p;rw [h.mem p,C6];constructor;· rintro ⟨r,m,rfl⟩;exact ⟨r,m,rfl⟩
  · rintro ⟨r,m,rfl⟩;exact ⟨r,m,rfl⟩
 rw [I.length_eq,B6]
theorem Gf.get{es:Array MapEntry}{ck:Nat}(I:Ck K2 es ck l)(h:Gf l rs)(O:BN rs)(t k:Int):
 (Dq (t,k) l).getD (Sc AU.zero)=Sc (Fz rs t k).1/\(Dq (t,k) l).isSome=(Fz rs t k).2:=by
 cases hg:(Fz rs t k).2 with
 |true=>
  obtain ⟨r,m,hi,_,G⟩:=JL hg;have B:((t,k),Sc r)∈l:=(h.mem _).2 ⟨r,m,by rw [show t=r.t from hi.1.symm,show k=r.k from hi.2.symm]⟩
  rw [D8 I.keys B,G];exact ⟨V,V⟩
 |false=>
  have g:∀r∈rs,¬r.is t k:=fun r m hi=>by rw [KQ O m hi]at hg;cases hg
  have J:Dq (t,k) l=none:=DX (fun p K e=>by
   obtain ⟨r,m,rfl⟩:=(h.mem p).1 K;injection e with e1 e2
   exact g r m ⟨e1,e2⟩)
  rw [J,QO g];exact ⟨V,V⟩
theorem Gf.put{I:List ((Int×Int)×A4)}(h:Gf l rs)(G:BN rs)(B:GQ rs c)(J:c.has=true)(K:KD (c.t,c.k))(O:∀p,p∈I↔p=((c.t,c.k),Sc ⟨c.t,c.k,c.n⟩)\/(p∈l/\p.1≠(c.t,c.k))):Gf I (EL rs c):=by
 refine ⟨fun p=>?_,fun r m=>?_⟩
 · rw [O p]
   constructor
   · rintro (rfl|⟨g,h2⟩)
     · exact ⟨_,(GI G B _).2 (.inr ⟨J,rfl⟩),rfl⟩
     · obtain ⟨r,m,rfl⟩:=(h.mem p).1 g
       exact ⟨r,(GI G B _).2 (.inl ⟨m,fun hi=>h2 (by rw [show r.t=c.t from hi.1,show r.k=c.k from hi.2])⟩),rfl⟩
   · rintro ⟨r,m,rfl⟩
     rcases (GI G B _).1 m with⟨g,h2⟩|⟨_,rfl⟩
     · exact .inr ⟨(h.mem _).2 ⟨r,g,rfl⟩,fun e=>h2 (by injection e with e1 e2;exact ⟨e1,e2⟩)⟩
     · exact .inl rfl
 · rcases (GI G B _).1 m with⟨g,_⟩|⟨_,rfl⟩
   · exact h.kd r g
   · exact K
theorem Gf.drop{J:List ((Int×Int)×A4)}(h:Gf l rs)(G:BN rs)(B:GQ rs c)(I:c.has=false)(K:∀p,p∈J↔p∈l/\p.1≠(c.t,c.k)):Gf J (EL rs c):=by
 refine ⟨fun p=>?_,fun r m=>?_⟩
 · rw [K p]
   constructor
   · rintro ⟨g,h2⟩
     obtain ⟨r,m,rfl⟩:=(h.mem p).1 g;exact ⟨r,(GI G B _).2 (.inl ⟨m,fun hi=>h2 (by rw [show r.t=c.t from hi.1,show r.k=c.k from hi.2])⟩),rfl⟩
   · rintro ⟨r,m,rfl⟩
     rcases (GI G B _).1 m with⟨g,h2⟩|⟨h9,_⟩
     · exact ⟨(h.mem _).2 ⟨r,g,rfl⟩,fun e=>h2 (by injection e with e1 e2;exact ⟨e1,e2⟩)⟩
     · rw [I]at h9;cases h9
 · rcases (GI G B _).1 m with⟨g,_⟩|⟨h9,_⟩
   · exact h.kd r g
   · rw [I]at h9;cases h9
theorem V7{n:Int}(h:-9223372036854775808<=n/\n<=9223372036854775807):(Lit.int .i64 n).wf=true:=by
 simp [Lit.wf,IntKind.min,IntKind.max,IntKind.signed,IntKind.bits];omega
theorem vg(h:c.ok):KD (c.t,c.k):=by
 obtain ⟨m,h2,_,_⟩:=h;have B:(0<=c.t/\c.t<=3)/\(1<=c.k/\c.k<=1000000):=by
  cases hh:c.had with
  |true=>
   have:c.before.ok:=aw (fun g=>h2 (.inl ⟨hh,g⟩));rw [PV hh]at this;exact this.2
  |false=>
   cases hs:c.has with
   |true=>
    have:c.after.ok:=aw (fun g=>h2 (.inr ⟨hs,g⟩));rw [LM hs]at this;exact this.2
   |false=>exact absurd (.inl ⟨by rw [hh];decide,by rw [hs];decide⟩) m
 exact ⟨V7 (by show _<=c.t/\c.t<=_;omega),V7 (by show _<=c.k/\c.k<=_;omega)⟩
theorem Oa(c:Chg):BJ prog 109 #[.agg c.A93] [] (.tuple #[.agg #[I0 (EO c c.has c.n).t,I0 (EO c c.has c.n).k,I0 (EO c c.has c.n).v.a,I0 (EO c c.has c.n).v.b,I0 (EO c c.has c.n).v.c],.bool c.has]):=by
 refine Se func109 ntmps109 [0] ?_;intro u R;refine A1<|Ze (Bx #[_,_,_,_,_,_,_,_,_,_])<|AG fun g=>Ze (Al EV #[_,_,_,_,_])<|AG fun m=>A5 Y<|A1<|Zo Wh (AB (cs:=#[_,_,_,_,_,_,_,_,_,_]) GP CA Y B5 Ax)<|Zh 6 C3 V rfl DM Y<|Zl Fc Y<|Zh 7 C3 V rfl E0 Y<|Zo Wh (AB (cs:=#[_,_,_]) HM E0 Y B5 Ax)<|Xr [_,_,_] Y call173 Y V (XA c c.has c.n)<|Zd Y V<|Zd Y V<|Xe (Xw B3 _)<|AW Y<|Zn [2,3] ?_;refine Zx<|AJ<|CP V results109 Y Wh (Au Cp B3 Wn (V)) Y (by exact ⟨V,V⟩)
theorem tB:BS prog 57 #[] [] (fun r H'=>∃g mb,r=I1 g/\H'=[[(g,.cells #[.map (some mb),I0 0] 215 (0,0))],[(mb,.map #[] 0)]]):=by
 refine Se func57 ntmps57 [] ?_;intro u R;refine A1<|A5 Y<|A1<|Ze (DV)<|AG fun mb=>Zv (BM (vs:=[(0,_)]) (cs:=#[_,_]) Y (AZ (pl:=#[(0,1),(1,1)]) zeroValue213 cF (fun _=>by kernel_rfl) V))<|Zv (BM (vs:=[(0,_)]) (cs:=#[_,_]) Y (AZ (pl:=#[(0,2)]) zeroValue215 cG (fun _=>by kernel_rfl) V))<|Ze (Bx #[_,_])<|AG fun g=>A5 Y<|AJ<|AP V results57 Y (by exact ⟨g,mb,V,V⟩)
theorem xQ(sp mb:Nat)(p rp:Int)(es:Array MapEntry)(ck:Nat)(lm:List ((Int×Int)×A4))(rs:List AU)(M:List A9)(q:B8)(cap:Nat)(cs:List Chg)(hm:Ck K2 es ck lm)(hR:Gf lm rs)(hO:Cv M (.slice q cs.length cap) cs)(hs:BN rs)(hn:rs.length<=2000)(hA:KZ rs p rp cs):
 BJ prog 108 #[I1 sp,.agg #[I0 rp,.slice q cs.length cap]] [[(sp,.cells #[.map (some mb),I0 p] 215 (0,0))],[(mb,.map es ck)],M] (.bool true):=by
 have j3:=mL;obtain ⟨p9,gq,e9,j5,hg⟩:=id hO;injection e9 with e91 e92 e93
 subst e91 e93;have I:=hA.ok
 have kv:=hA.pos;have ic:=I.len
 have l5:=I.pos;have gy:=QX I.ord
 have d9:=hR.len hm hs;refine Se func108 ntmps108 [0,1] ?_;intro u R;refine A1<|Ze (Bx #[_,_])<|AG fun b1=>A5 Y<|Zq<|Zq<|Aw (n:=14) (0::1::3::7::15::31::15::79::207::463::975::1999::4095::8191::[]) 2 AF AF V<|FF 0 V Wh (AB (cs:=#[_,_]) IH G3 Y B5 Ax)<|Yw 1 3 V (Zu [_] Y call44 Y V (Pq rp q cap cs M hO)) ?_;rintro _ _ ⟨rfl,rfl⟩;rw [D2 I];refine A3 2 V (Br Y)<|A3 3 V (AO Y)<|Ce (t:=13) Y (fun h1=>?_) (fun h1=>?_);·
  rw [h1];cases h1
 rw [h1];refine B1 4 V (AA (off:=0) HF V rfl AE Y)<|DP 5 V Wh (BD AH Y Ax)<|B1 6 V (AO Y)<|B1 7 V (Ak Y V)<|B1 8 V (AA (off:=0) cG V rfl cL Y)<|B1 9 V (Ap (off:=1) cF V rfl AE Y)<|DP 10 V Wh (BD AH Y Ax)<|B1 11 V (Ha Y Y (IntWalk.i64_in _ A0))<|B1 12 V (KI Y Y)<|A3 13 V (AL Y Y)<|Ag<|Zn [0,3,23] ?_;refine Zx<|Av Y (fun h2=>?_) (fun h2=>?_);·
  exfalso;contradiction
 refine AC<|Zx<|A1<|Zm Y<|Zp Y V<|Zh 0 cG V rfl cL Y<|Zv (Ap (off:=0) cF V rfl er Y)<|Zl isAgg211 Y<|Zo Wh (QG gC hm Y)<|A5 Y<|Zq<|A1<|Zh 1 HF V rfl Mp Y<|Zl On Y<|Zv (Ab Gk Y)<|Zm Y<|A6<|AR<|Zb [5,33,0,31,32] ?_;refine BF (e0:=[(5,_),(33,_)]) (fun m e H=>∃(i:Nat),m=cs.length -i/\(i<=cs.length)/\e=[(5,I0 (Gt rs (cs.take i))),(33,I0 (i:Int))]/\H=[]) (by exact ⟨0,rfl,C7 _,by rw [d9];rfl,rfl⟩) Wp ?_;rintro _ _ _ ⟨i,rfl,hi,rfl,rfl⟩;have ek:=OV rs cs i
 refine A1<|Zv (Ay Y Y)<|A6<|Zq<|Av Y (fun af=>?_) (fun af=>?_);·
  obtain ⟨x,J⟩:∃x,cs[i]?=some x:=⟨_,BT af⟩;obtain ⟨g,off,cur,T,zz,rfl,dn,l8,bn⟩:=hg i x J;have gm:=I.all i x J
  have cO:=vg gm;obtain ⟨cu,X⟩:=hA.fit x (DO J);have K:=hR.get hm hs x.t x.k
  obtain ⟨O,Z⟩:∃O,O=Fz rs x.t x.k:=⟨_,rfl⟩;rw [<-Z]at K cu X;clear Z;refine AC<|Zx<|Zq<|AR<|A1<|BZ (Ad Gk CA Y Y A0)<|CS (cs:=[(g,.cells cur T zz)]) (by simp [dn]) (AB (cs:=x.A93) GP CA Y A0 bn) V rfl<|Ze (Al Lw #[_,_,_,_,_,_,_,_,_,_])<|AG fun cb=>Xe (Xw CA x.A93)<|A6<|Zq<|Aw (n:=17) (0::1::3::7::15::0::32::0::128::480::1023::2047::4095::4095::0::24575::65535::[]) 49152 AF AF V<|A3 0 V (AO Y)<|A3 1 V (Ak Y V)<|A3 2 V (AA (off:=0) cG V rfl cL Y)<|A3 3 V (Ap (off:=0) cF V rfl er Y)<|BE 4 V isAgg211 Y<|A3 5 V (AA (off:=0) C3 V rfl AE Y)<|BE 6 V AH Y<|A3 7 V (AA (off:=1) C3 V rfl AE Y)<|BE 8 V AH Y<|A3 9 V (BM (vs:=[(0,_),(1,_)]) (cs:=#[_,_]) Y (AZ (pl:=#[(0,1),(1,1)]) zeroValue217 iS (fun _=>by kernel_rfl) V))<|FF 10 V Wh (EW um gC EV hm hR.keys (cO) (K) Y Y)<|A3 11 V (AO Y)<|A3 12 V (CE Y V)<|A3 13 V (CE Y V)<|Zz (l:=[14])<|B7 [true,true,true,true] [(10,(_,_)),(8,(_,_)),(6,(_,_)),(4,(_,_))] V rfl (Al EV #[_,_,_,_,_]) ?_ (fun _ _ h=>h.elim) Ah;rintro _ _ ⟨ob,rfl,rfl⟩;refine Bk<|Yw 15 65535 V (Xw B3 #[I0 O.1.t,I0 O.1.k,I0 O.1.v.a,I0 O.1.v.b,I0 O.1.v.c])<|D0<|A3 16 V (Aq Y)<|Ag<|Zn [0,5,7,8,9,31,32,33] ?_;refine Zx<|Zq<|A1<|Zm Y<|Zh 2 C3 V rfl DM Y<|Zl Fc Y<|Zv (I4 Mn Y Y)<|Zm Y<|Ao (t:=55) Y V (fun ax=>?_) (fun ax=>?_);·
   exfalso;contradiction
  refine Zf Y Y<|Zf Y Y<|Aj (t:=57) Y V (fun U=>?_) (fun U=>?_);·
   refine Yf 2 Fo V rfl E0 Y<|Dt Y Wh (AB (cs:=#[_,_,_]) HM E0 Y B5 Ax) V rfl<|Yf 3 C3 V rfl E0 Y<|Dt Y Wh (AB (cs:=#[_,_,_]) HM E0 Y B5 Ax) V rfl<|Yg (Ko AF I3 DE AH AE Y Y) ?_;refine Yg (AX Y Y)<|Zv (AL Y Y)<|Z0<|Zn [0,5,7,31,32,33,64] ?_;refine Zx<|Av Y (fun W=>?_) (fun W=>?_);·
    exfalso;exact W (X U)
   refine AC<|Zx<|Zq<|A1<|Zh 2 C3 V rfl DM Y<|Zl Fc Y<|A6<|AQ Y (fun G=>?_) (fun G=>?_);·
    refine Zg<|Zm Y<|BZ (FU Y Y (IntWalk.i64_in _ A0))<|A5 Y<|A1<|Zh 6 C3 V rfl DM Y<|Zl Fc Y<|A6<|AQ Y (fun B=>?_) (fun B=>?_);·
     refine Zg<|Zm Y<|Yi Y Y<|AW Y<|A8<|Zx<|Zg<|Ya (n:=1) Y Y<|Zm Y<|Z0<|Zn [5,33,0,31,32] ?_;refine Aa (e':=[(5,_),(33,_)]) (by exact ⟨i+1,rfl,by omega,by rw [jN J G B],rfl⟩)
    refine AC<|A8<|Zx<|Zg<|Ya (n:=1) Y Y<|Zm Y<|Z0<|Zn [5,33,0,31,32] ?_;refine Aa (e':=[(5,_),(33,_)]) (by exact ⟨i+1,rfl,by omega,by rw [jO J G B],rfl⟩)
   refine AC<|Zx<|A1<|Zh 6 C3 V rfl DM Y<|Zl Fc Y<|A6<|AQ Y (fun B=>?_) (fun B=>?_);·
    refine Zg<|Zm Y<|Yi Y Y<|AW Y<|A8<|Zx<|Zg<|Ya (n:=1) Y Y<|Zm Y<|Z0<|Zn [5,33,0,31,32] ?_;refine Aa (e':=[(5,_),(33,_)]) (by exact ⟨i+1,rfl,by omega,by rw [jP J G B],rfl⟩)
   refine AC<|A8<|Zx<|Zg<|Ya (n:=1) Y Y<|Zm Y<|Z0<|Zn [5,33,0,31,32] ?_;refine Aa (e':=[(5,_),(33,_)]) (by exact ⟨i+1,rfl,by omega,by rw [jQ J G B],rfl⟩)
  refine A7 Y V<|A7 Y V<|A7 Y V<|A7 Y V<|A7 Y V<|Yg (AL Y Y)<|Zv (AL Y Y)<|Z0<|Zn [0,5,7,31,32,33,64] ?_;refine Zx<|DI Y<|AC<|Zx<|Zq<|A1<|Zh 2 C3 V rfl DM Y<|Zl Fc Y<|A6<|AQ Y (fun G=>?_) (fun G=>?_);·
   refine Zg<|Zm Y<|BZ (FU Y Y (IntWalk.i64_in _ A0))<|A5 Y<|A1<|Zh 6 C3 V rfl DM Y<|Zl Fc Y<|A6<|AQ Y (fun B=>?_) (fun B=>?_);·
    refine Zg<|Zm Y<|Yi Y Y<|AW Y<|A8<|Zx<|Zg<|Ya (n:=1) Y Y<|Zm Y<|Z0<|Zn [5,33,0,31,32] ?_;refine Aa (e':=[(5,_),(33,_)]) (by exact ⟨i+1,rfl,by omega,by rw [jN J G B],rfl⟩)
   refine AC<|A8<|Zx<|Zg<|Ya (n:=1) Y Y<|Zm Y<|Z0<|Zn [5,33,0,31,32] ?_;refine Aa (e':=[(5,_),(33,_)]) (by exact ⟨i+1,rfl,by omega,by rw [jO J G B],rfl⟩)
  refine AC<|Zx<|A1<|Zh 6 C3 V rfl DM Y<|Zl Fc Y<|A6<|AQ Y (fun B=>?_) (fun B=>?_);·
   refine Zg<|Zm Y<|Yi Y Y<|AW Y<|A8<|Zx<|Zg<|Ya (n:=1) Y Y<|Zm Y<|Z0<|Zn [5,33,0,31,32] ?_;refine Aa (e':=[(5,_),(33,_)]) (by exact ⟨i+1,rfl,by omega,by rw [jP J G B],rfl⟩)
  refine AC<|A8<|Zx<|Zg<|Ya (n:=1) Y Y<|Zm Y<|Z0<|Zn [5,33,0,31,32] ?_;refine Aa (e':=[(5,_),(33,_)]) (by exact ⟨i+1,rfl,by omega,by rw [jQ J G B],rfl⟩)
 have ei:i=cs.length:=by omega
 subst ei;rw [GC]at ek⊢;refine Az<|Zt<|Zt<|AV<|Zx<|A1<|Zm Y<|Zv (KJ Y Y)<|A5 Y<|AJ<|AP rfl results108 Y (by exact ⟨by rw [D2 hA.size],rfl⟩)
theorem qc(sp mb:Nat)(p rp:Int)(es:Array MapEntry)(ck:Nat)(lm:List ((Int×Int)×A4))(rs:List AU)(M:List A9)(q:B8)(cap:Nat)(cs:List Chg)(hm:Ck K2 es ck lm)(hR:Gf lm rs)(hO:Cv M (.slice q cs.length cap) cs)(hs:BN rs)(hn:rs.length<=2000)(hA:KZ rs p rp cs):
 BS prog 58 #[I1 sp,.agg #[I0 rp,.slice q cs.length cap]] [[(sp,.cells #[.map (some mb),I0 p] 215 (0,0))],[(mb,.map es ck)],M] (fun r H'=>r=I0 0/\∃ax af dn,Ck K2 ax af dn/\Gf dn (DL rs cs)/\H'=[[(sp,.cells #[.map (some mb),I0 rp] 215 (0,0))],[(mb,.map ax af)],M]):=by
 have l8:=mL;obtain ⟨p9,kv,e9,l9,hg⟩:=id hO;injection e9 with e91 e92 e93
 subst e91 e93;have I:=hA.ok
 have o8:=hA.pos;have l5:=I.len
 have o9:=I.pos;have bn:=QX I.ord
 refine Se func58 ntmps58 [0,1] ?_;intro u R;refine A1<|Ze (Bx #[_,_])<|AG fun b1=>A5 Y<|Zq<|AR<|A1<|Zm Y<|Zv (Bg i6 Y Y)<|A5 Y<|AQ Y (fun h1=>by cases h1)<|fun h1=>A1<|Zm Y<|Zo Wh (AB (cs:=#[_,_]) IH G3 Y B5 Ax) ?_;refine Xr [_,_] Y call108 Y V (xQ sp mb p rp es ck lm rs M q cap cs hm hR hO hs hn hA) ?_;refine Zv (Br Y)<|A5 Y<|AQ Y (fun h2=>by cases h2)<|fun h2=>AC<|A8<|Zx<|Zq<|A1<|Zh 1 HF V rfl Mp Y<|Zl On Y ?_;refine Zv (Ab Gk Y)<|Zm Y<|Z0<|Zn [0,3,19,20,21] ?_;refine Zx<|AR<|Zb [21,0,3,19,20] ?_;refine BF (e0:=[(21,_)]) (fun m e H=>∃(i:Nat) (es:Array MapEntry) (ck:Nat) (lm:List ((Int×Int)×A4)),m=cs.length -i/\(i<=cs.length/\Ck K2 es ck lm/\Gf lm (DL rs (cs.take i)))/\e=[(21,I0 (i:Int))]/\H=[[(mb,.map es ck)]]) (by exact ⟨0,es,ck,lm,rfl,⟨C7 _,hm,by rw [J0];exact hR⟩,rfl,rfl⟩) Wp ?_;rintro _ _ _ ⟨i,gm,ek,j5,rfl,⟨hi,W,B⟩,rfl,rfl⟩;refine A1<|Zv (Ay Y Y)<|A6<|Zq<|Av Y (fun cO=>?_) (fun cO=>?_);·
  obtain ⟨x,hx⟩:∃x,cs[i]?=some x:=⟨_,BT cO⟩;obtain ⟨g,off,cur,T,zz,rfl,ic,p8,gq⟩:=hg i x hx;have j3:=I.all i x hx
  have U:=vg j3;obtain ⟨d9,gy⟩:=JM hs bn hA.fit i hi;have cu:=gy i x (CT _) hx
  refine AC<|Zx<|Zq<|AR<|A1<|BZ (Ad Gk CA Y Y A0)<|CS (cs:=[(g,.cells cur T zz)]) (by simp [ic]) (AB (cs:=x.A93) GP CA Y A0 gq) V rfl ?_;refine Ze (Al Lw #[_,_,_,_,_,_,_,_,_,_])<|AG fun cb=>Xe (Xw CA x.A93) ?_;refine A6<|A1<|Zh 0 C3 V rfl AE Y<|Zl AH Y ?_;refine Zh 1 C3 V rfl AE Y<|Zl AH Y ?_;refine Zv (BM (vs:=[(0,_),(1,_)]) (cs:=#[_,_]) Y (AZ (pl:=#[(0,1),(1,1)]) zeroValue217 iS (fun _=>by kernel_rfl) V))<|Ze (Al zeroValue217 #[_,_])<|AG fun kb=>Xe (BL sizeOf217 Y Y (by(simp [Value.oneCell',Value.cells];done)) Wu (by exact (rfl:_=(#[I0 x.t,I0 x.k]:AM))) Fi B0 (by exact BC _)) ?_;refine A6<|A1<|Zo Wh (AB (cs:=#[_,_,_,_,_,_,_,_,_,_]) GP CA Y B5 Ax) ?_;refine Xr [_] Y call109 Y V (Oa x) ?_;refine Zm Y<|Zd Y V<|Zd Y V<|Ze (Al EV #[_,_,_,_,_])<|AG fun xb=>Xe (Xw B3 #[I0 (EO x x.has x.n).t,I0 (EO x x.has x.n).k,I0 (EO x x.has x.n).v.a,I0 (EO x x.has x.n).v.b,I0 (EO x x.has x.n).v.c]) ?_;refine AW Y<|Zn [0,3,7,8,9,19,20,21] ?_;refine Zx<|A1<|Zm Y<|A6<|AQ Y (fun hh=>?_) (fun hh=>?_);·
   rw [ut hh];refine Aw (n:=8) (0::1::3::7::15::0::0::127::[]) 128 AF AF V<|A3 0 V (AO Y)<|A3 1 V (Ak Y V)<|A3 2 V (AA (off:=0) cG V rfl cL Y)<|A3 3 V (Ap (off:=0) cF V rfl er Y)<|BE 4 V isAgg211 Y ?_;refine FF 5 V Wh (AB (cs:=#[_,_]) isAgg217 sizeOf217 Y B5 Ax) ?_;refine FF 6 V Wh (AB (cs:=#[_,_,_,_,_]) Cp B3 Y B5 Ax) ?_;refine Yw 7 255 V (FJ um gC W B.keys (U) Y Y Y Wo) ?_;rintro _ _ ⟨rfl,K,J,G,X,Z,rfl⟩;have O:Gf G (DL rs (cs.take (i+1))):=by rw [ED rs cs i x hx];exact B.put d9 cu hh U Z
   refine Ag<|A8<|Zx<|Zg<|Ya (n:=1) Y Y<|Zm Y<|Z0<|Zn [21,0,3,19,20] ?_;refine Aa (e':=[(21,_)]) (by exact ⟨i+1,K,J,G,V,⟨by omega,X,O⟩,V,V⟩)
  refine Aw (n:=7) (0::1::3::7::15::0::63::[]) 64 AF AF V<|A3 0 V (AO Y)<|A3 1 V (Ak Y V)<|A3 2 V (AA (off:=0) cG V rfl cL Y)<|A3 3 V (Ap (off:=0) cF V rfl er Y)<|BE 4 V isAgg211 Y ?_;refine FF 5 V Wh (AB (cs:=#[_,_]) isAgg217 sizeOf217 Y B5 Ax) ?_;refine Yw 6 127 V (K3 um gC W B.keys (U) Y Y Wo) ?_;rintro _ _ ⟨rfl,K,J,G,X,Z,rfl⟩;have O:Gf G (DL rs (cs.take (i+1))):=by rw [ED rs cs i x hx];exact B.drop d9 cu hh Z
  refine Ag<|A8<|Zx<|Zg<|Ya (n:=1) Y Y<|Zm Y<|Z0<|Zn [21,0,3,19,20] ?_;refine Aa (e':=[(21,_)]) (by exact ⟨i+1,K,J,G,V,⟨by omega,X,O⟩,V,V⟩)
 have ei:i=cs.length:=by omega
 subst ei;rw [GC]at B;refine Az<|Zt<|Zt<|AV<|Zx<|A1<|Zm Y<|Zh 0 HF V rfl AE Y<|Zl AH Y ?_;refine Zp Y V<|Zh 0 cG V rfl cL Y<|Zv (Ap (off:=1) cF V rfl AE Y)<|Xe (Zs AE Y Y V (hc:=by exact (V:_=(#[.map (some mb),I0 rp]:AM))) (hi:=by(simp;done))) ?_;refine A6<|A1<|A5 Y<|AJ<|AP V results58 Y (by exact ⟨V,gm,ek,j5,W,B,V⟩)
end Go.Proofs.YthhakdmlpngcmaaGreatDoor
