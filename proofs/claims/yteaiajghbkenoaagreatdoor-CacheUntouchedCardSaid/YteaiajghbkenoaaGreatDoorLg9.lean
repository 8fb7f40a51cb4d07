/- The program's layer 3: ValidChange. -/
/- The program's layer 3: put. -/
/- Rows of several cells, read. -/
/- Sorted lists of rows: what a change does to them. -/
/- The reference of layer 4: Apply. -/
import Derived.Test.YteaiajghbkenoaaGreatDoorEz
import Derived.Test.YteaiajghbkenoaaGreatDoorLg4
import Derived.Test.YteaiajghbkenoaaGreatDoorEx36
set_option linter.unusedVariables false
set_option linter.unusedSimpArgs false
namespace Go.Proofs.YteaiajghbkenoaaGreatDoor
open Go.Proofs.Tryz
open Go Go.RowKit Gw
set_option maxRecDepth 100000
attribute [local irreducible] Gw.At Gw.Nx Gw.Ops
def yg(c:Chg):Bool:=if c.had then decide c.before.ok else decide (c.o=V3.zero)
def yh(c:Chg):Bool:=if c.has then decide c.after.ok else decide (c.n=V3.zero)
theorem SA(c:Chg):BI prog 125 #[.agg c.A28,.bool c.had,.agg #[I4 c.o.a,I4 c.o.b,I4 c.o.c]] [] (.bool (yg c)):=YH c c.had c.o
theorem SB(c:Chg):BI prog 125 #[.agg c.A28,.bool c.has,.agg #[I4 c.n.a,I4 c.n.b,I4 c.n.c]] [] (.bool (yh c)):=YH c c.has c.n
variable{c:Chg}
theorem Ku(g:c.had≠c.has\/(c.had=true/\c.o≠c.n)):decide c.ok=(yg c&&yh c):=by
 unfold yg yh;cases h1:c.had<;>cases h2:c.has<;>simp_all [Chg.ok]
 all_goals (by_cases m:c.before.ok<;>by_cases B:c.after.ok<;>by_cases G:c.o=V3.zero<;>by_cases I:c.n=V3.zero<;>simp_all)
theorem uL(h:c.had=c.has)(h2:c.had=true->c.o=c.n):decide c.ok=false:=by
 cases h1:c.had<;>simp_all [Chg.ok]
 all_goals (rw [<-h]at*;simp_all)
set_option maxHeartbeats 4000000 in
theorem V6(c:Chg):BI prog 67 #[.agg c.A28] [] (.bool (decide c.ok)):=by
 refine Se func67 ntmps67 [0] ?_;intro u R;refine A0<|Ze (Bx #[_,_,_,_,_,_,_,_,_,_])<|AD fun K=>A3 Y<|A0<|Zh 2 B8 V rfl CH Y<|Zl E0 Y ?_;refine Zh 6 B8 V rfl CH Y<|Zl E0 Y ?_;refine Zv (Kc NO Y Y)<|Zm Y<|Am (t:=9) Y V (fun g=>?_) (fun g=>?_)
 ·
  repeat refine A7 Y rfl ?_
  refine Zv (AV Y Y)<|AG Y<|Zn [1,3] ?_;refine Zx<|A0<|Zm Y<|Zm Y<|Dv Y Wh (Pa #[_,_,_,_,_,_,_,_,_,_] Ft C3 Y) V rfl ?_;refine Yf 2 B8 V rfl CH Y<|Yl E0 Y ?_;refine Yf 3 B8 V rfl DG Y<|Dv Y Wh (Pa #[_,_,_] HE DG Y) V rfl ?_;refine Xr [_,_,_] Y call125 Y V (SA c) ?_;refine Zv (AV Y Y)<|Zm Y<|Ag (t:=29) Y V (fun G=>?_) (fun G=>?_)
  ·
   refine Dv Y Wh (Pa #[_,_,_,_,_,_,_,_,_,_] Ft C3 Y) V rfl ?_;refine Yf 6 B8 V rfl CH Y<|Yl E0 Y ?_;refine Yf 7 B8 V rfl DG Y<|Dv Y Wh (Pa #[_,_,_] HE DG Y) V rfl ?_;refine Xr [_,_,_] Y call125 Y V (SB c) ?_;refine Zv (AV Y Y)<|AG Y<|Zn [2] ?_;refine Zx<|AJ<|AP rfl fR Y (by exact ⟨by rw [Ku (.inl g),G,Th],rfl⟩)
  repeat refine A7 Y rfl ?_
  refine Zv (AL Y Y)<|AG Y<|Zn [2] ?_;refine Zx<|AJ<|AP rfl fR Y (by exact ⟨by rw [Ku (.inl g),G,Bool.false_and],rfl⟩)
 refine Yf 2 B8 V rfl CH Y<|Yl E0 Y ?_;refine Zf Y Y ?_;refine Ag (t:=12) Y V (fun m=>?_) (fun m=>?_)
 ·
  refine Yf 3 B8 V rfl DG Y<|Dv Y Wh (Pa #[_,_,_] HE DG Y) V rfl ?_;refine Yf 7 B8 V rfl DG Y<|Dv Y Wh (Pa #[_,_,_] HE DG Y) V rfl ?_;refine Yg (Ke A6 Hj Cp AE A5 Y Y) ?_;refine Yg (AV Y Y)<|Zv (AL Y Y)<|AG Y<|Zn [1,3] ?_;refine Zx<|A0<|Zm Y<|Zm Y<|Am (t:=21) Y V (fun B=>?_) (fun B=>?_)
  ·
   refine Dv Y Wh (Pa #[_,_,_,_,_,_,_,_,_,_] Ft C3 Y) V rfl ?_;refine Yf 2 B8 V rfl CH Y<|Yl E0 Y ?_;refine Yf 3 B8 V rfl DG Y<|Dv Y Wh (Pa #[_,_,_] HE DG Y) V rfl ?_;refine Xr [_,_,_] Y call125 Y V (SA c) ?_;refine Zv (AV Y Y)<|Zm Y<|Ag (t:=29) Y V (fun I=>?_) (fun I=>?_)
   ·
    refine Dv Y Wh (Pa #[_,_,_,_,_,_,_,_,_,_] Ft C3 Y) V rfl ?_;refine Yf 6 B8 V rfl CH Y<|Yl E0 Y ?_;refine Yf 7 B8 V rfl DG Y<|Dv Y Wh (Pa #[_,_,_] HE DG Y) V rfl ?_;refine Xr [_,_,_] Y call125 Y V (SB c) ?_;refine Zv (AV Y Y)<|AG Y<|Zn [2] ?_;refine Zx<|AJ<|AP rfl fR Y (by exact ⟨by rw [Ku (.inr ⟨m,B⟩),I,Th],rfl⟩)
   repeat refine A7 Y rfl ?_
   refine Zv (AL Y Y)<|AG Y<|Zn [2] ?_;refine Zx<|AJ<|AP rfl fR Y (by exact ⟨by rw [Ku (.inr ⟨m,B⟩),I,Bool.false_and],rfl⟩)
  repeat first|refine A7 Y rfl ?_|refine Zv (AL Y Y)<|Zm Y ?_
  refine Zv (AL Y Y)<|AG Y<|Zn [2] ?_;refine Zx<|AJ<|AP rfl fR Y (by exact ⟨by rw [uL (HT.1 g) (fun _=>HT.1 B)],rfl⟩)
 repeat refine A7 Y rfl ?_
 refine Yg (AL Y Y)<|Zv (AL Y Y)<|AG Y<|Zn [1,3] ?_;refine Zx<|A0<|Zm Y<|Zm Y ?_;repeat first|refine A7 Y rfl ?_|refine Zv (AL Y Y)<|Zm Y ?_
 refine Zv (AL Y Y)<|AG Y<|Zn [2] ?_;refine Zx<|AJ<|AP rfl fR Y (by exact ⟨by rw [uL (HT.1 g) (fun J=>by rw [m]at J;cases J)],rfl⟩)
theorem rh(h:c.ok):0<=c.t:=by
 obtain ⟨B,h2,_,_⟩:=h;have I:c.had=true->c.before.ok:=fun g=>aE fun m=>h2 (.inl ⟨g,m⟩)
 have G:c.has=true->c.after.ok:=fun g=>aE fun m=>h2 (.inr ⟨g,m⟩);cases e1:c.had with
 |true=>have:=(I e1).2.1.1;rw [PQ e1]at this;exact this
 |false=>
  cases e2:c.has with
  |true=>have:=(G e2).2.1.1;rw [Ky e2]at this;exact this
  |false=>exact absurd (.inl ⟨by simp [e1],by simp [e2]⟩) B
variable{cs:List Chg}{i:Nat}{x:Chg}
theorem XH{p:Int}{y:Chg}(B:i=0/\y.t=-1\/0<i/\cs[i -1]?=some y)(h:EH p cs)(m:cs[i]?=some x):y.lt x:=by
 rcases B with⟨h0,g⟩|⟨h0,g⟩
 · left;have:=rh (h.all i x m);omega
 · exact h.ord (i -1) y x g (by rw [show i -1+1=i by omega];exact m)
theorem jC{y:Chg}(m:i=0/\y.t=-1\/0<i/\cs[i -1]?=some y)(h:y.lt x):i=0\/∃y,cs[i -1]?=some y/\y.lt x:=by
 rcases m with⟨h0,g⟩|⟨h0,g⟩
 · exact .inl h0
 · exact .inr ⟨y,g,h⟩
theorem Pm(p:Int)(q:Option Addr)(cap:Nat)(cs:List Chg)(M:List A9)(hO:Cr M (.slice q cs.length cap) cs):BI prog 51 #[.agg #[I4 p,.slice q cs.length cap]] [M] (.bool (decide (EH p cs))):=by
 have bn:=mL;obtain ⟨p9,ax,e9,cu,hg⟩:=hO;injection e9 with e91 e92 e93
 subst e91 e93;refine Se func51 ntmps51 [0] ?_;intro u R;refine A0<|Ze (Bx #[_,_])<|AD fun b1=>A3 Y<|Zq<|A0<|Zh 0 GS V rfl A5 Y<|Zl AE Y ?_;refine Ze (Aj (vs:=[_]) (cs:=[_]) D0 A5 H3 Y V rfl V rfl V)<|AD fun b2=>Xr [_,_,_] Y call107 Y V (KY _ 0 1 _ _ _ _ _ p V) ?_;refine Zv (Cm Y)<|Zm Y<|Am (t:=11) Y V (fun hp=>?_) (fun hp=>?_)
 ·
  repeat refine A7 Y rfl ?_
  refine Zv (AV Y Y)<|Z0<|Zn [1,18] ?_;refine Zx<|Cn Y<|A0<|A3 Y<|AJ<|Zt<|AP rfl fS Y (by exact ⟨by rw [C4 (fun h9:EH p cs=>by have G:=h9.pos;have J:=h9.len;exact hp G)],rfl⟩)
 refine Yf 1 GS V rfl Lw Y<|Yl ON Y ?_;refine Yg (Aa G4 Y)<|Ze (Aj (vs:=[_]) (cs:=[_]) D0 A5 H3 Y V rfl V rfl V)<|AD fun b3=>Xr [_,_,_] Y call107 Y V (KY _ 0 1 _ _ _ _ _ (cs.length:Int) V) ?_;refine Yg (Cm Y)<|Zv (AL Y Y)<|Z0<|Zn [1,18] ?_;refine Zx<|Au Y (fun hl=>?_) (fun hl=>?_)
 ·
  refine A0<|A3 Y<|AJ<|Zt<|AP rfl fS Y (by exact ⟨by rw [C4 (fun h9:EH p cs=>by have G:=h9.pos;have J:=h9.len;(apply hl;omega))],rfl⟩)
 refine AC<|Zx<|A0<|Zv (BL (vs:=[(0,_)]) (cs:=#[_,_,_,_,_,_,_,_,_,_]) Y (AY (pl:=#[(0,1),(1,1),(2,1),(3,3),(6,1),(7,3)]) LN B8 (fun _=>by kernel_rfl) V))<|Ze (Al LN #[_,_,_,_,_,_,_,_,_,_])<|AD fun lb=>Xe (BK C3 Y Y (by(simp [Value.oneCell',Value.cells];done)) Wu AN E3 Wn (by exact BA _)) ?_;refine A4<|Zq<|A0<|Zh 1 GS V rfl Lw Y<|Zl ON Y ?_;refine Zv (Aa G4 Y)<|Zm Y<|A4<|AQ<|Zb [23,3,21,22] ?_;refine BB (e0:=[(23,_)]) (fun m e H=>∃(i:Nat) (y:Chg),m=cs.length -i/\(i<=cs.length/\(∀(j:Nat) (c:Chg),j<i->cs[j]?=some c->c.ok)/\(∀(j:Nat) (b c:Chg),j+1<i->cs[j]?=some b->cs[j+1]?=some c->b.lt c)/\(i=0/\y.t=-1\/0<i/\cs[i -1]?=some y))/\e=[(23,I4 (i:Int))]/\H=[[(lb,.cells y.A28 69 (0,0))]]) (by exact ⟨0,⟨-1,0,false,V3.zero,false,V3.zero⟩,V,⟨by omega,by intro j c hj;omega,by intro j b c hj;omega,.inl ⟨V,V⟩⟩,V,V⟩) Wp ?_;rintro _ _ _ ⟨i,y,rfl,⟨hi,K,O,B⟩,rfl,rfl⟩;refine A0<|Zv (Av Y Y)<|A4<|Zq<|Au Y (fun W=>?_) (fun W=>?_)
 ·
  obtain ⟨x,I⟩:∃x,cs[i]?=some x:=⟨_,B4 W⟩;obtain ⟨g,off,cur,T,zz,rfl,hm,cO,X⟩:=hg i x I;refine AC<|Zx<|Zq<|AQ<|A0<|BX (Ac G4 C3 Y Y A1)<|CQ (cs:=[(g,.cells cur T zz)]) (by simp [hm]) (AA (cs:=x.A28) Ft C3 Y A1 X) V rfl ?_;refine Ze (Al LN #[_,_,_,_,_,_,_,_,_,_])<|AD fun b5=>Xe (Xw C3 _) ?_;refine A4<|Zq<|A0<|Zo Wh (Pa #[_,_,_,_,_,_,_,_,_,_] Ft C3 Y) ?_;refine Xr [_] Y call67 Y V (V6 x) ?_;refine Zv (Cm Y)<|Zm Y<|Am (t:=30) Y V (fun U=>?_) (fun U=>?_)
  ·
   repeat refine A7 Y rfl ?_
   refine Zv (AV Y Y)<|Zm Y ?_;repeat refine A7 Y rfl ?_
   refine Zv (AV Y Y)<|Z0<|Zn [3,5,21,22,23,50] ?_;refine Zx<|Cn Y<|A0<|A3 Y<|AJ<|Zt<|Ae<|Zt<|Zt<|Ae<|Zt<|AP rfl fS Y (by exact ⟨by rw [C4 (fun h9:EH p cs=>by have G:=XH B h9 I;have J:=h9.all i x I;unfold Chg.lt at G;exact U J)],rfl⟩)
  refine Yf 0 B8 V rfl A5 Y<|Yl AE Y ?_;refine Yf 0 B8 V rfl A5 Y<|Yl AE Y ?_;refine Yg (Dt Y Y)<|Zv (AL Y Y)<|Zm Y<|Am (t:=37) Y V (fun Z=>?_) (fun Z=>?_)
  ·
   repeat refine A7 Y rfl ?_
   refine Zv (AV Y Y)<|Z0<|Zn [3,5,21,22,23,50] ?_;refine Zx<|Cn Y<|A0<|A3 Y<|AJ<|Zt<|Ae<|Zt<|Zt<|Ae<|Zt<|AP rfl fS Y (by exact ⟨by rw [C4 (fun h9:EH p cs=>by have G:=XH B h9 I;have J:=h9.all i x I;unfold Chg.lt at G;omega)],rfl⟩)
  refine Yf 0 B8 V rfl A5 Y<|Yl AE Y ?_;refine Yf 0 B8 V rfl A5 Y<|Yl AE Y ?_;refine Yg (CP Y Y)<|Zf Y Y ?_;refine Am (t:=43) Y V (fun af=>?_) (fun af=>?_)
  ·
   refine Yf 1 B8 V rfl A5 Y<|Yl AE Y ?_;refine Yf 1 B8 V rfl A5 Y<|Yl AE Y ?_;refine Yg (NC Y Y)<|Yg (AV Y Y)<|Zv (AL Y Y)<|Z0<|Zn [3,5,21,22,23,50] ?_;refine Zx<|Au Y (fun ho=>?_) (fun ho=>?_)
   ·
    refine A0<|A3 Y<|AJ<|Zt<|Ae<|Zt<|Zt<|Ae<|Zt<|AP rfl fS Y (by exact ⟨by rw [C4 (fun h9:EH p cs=>by have G:=XH B h9 I;have J:=h9.all i x I;unfold Chg.lt at G;omega)],rfl⟩)
   refine AC<|Zx<|Zg<|Zo Wh (Pa x.A28 Ft C3 Y) ?_;refine Xe (Xw C3 _) ?_;refine Z0<|A8<|Zx<|Zg<|Ya (n:=1) Y Y<|Zm Y<|Z0<|Zn [23,3,21,22] ?_;refine Ab (e':=[(23,_)]) (by exact ⟨i+1,x,V,⟨by omega,M8 K I (HT.1 U),Li O I (jC B (by unfold Chg.lt;omega)),.inr ⟨by omega,I⟩⟩,V,V⟩)
  repeat refine A7 Y rfl ?_
  refine Yg (AL Y Y)<|Zv (AL Y Y)<|Z0<|Zn [3,5,21,22,23,50] ?_;refine Zx<|Ch Y<|AC<|Zx<|Zg<|Zo Wh (Pa x.A28 Ft C3 Y) ?_;refine Xe (Xw C3 _) ?_;refine Z0<|A8<|Zx<|Zg<|Ya (n:=1) Y Y<|Zm Y<|Z0<|Zn [23,3,21,22] ?_;refine Ab (e':=[(23,_)]) (by exact ⟨i+1,x,V,⟨by omega,M8 K I (HT.1 U),Li O I (jC B (by unfold Chg.lt;omega)),.inr ⟨by omega,I⟩⟩,V,V⟩)
 refine Ay<|Zt<|Zt<|AR<|Zx<|A0<|A3 Y<|AJ<|AP rfl fS Y (by exact ⟨by rw [CM (⟨by omega,by omega,fun j c hc=>K j c (by have:=(B9.1 hc).1;omega) hc,fun j b c hb hc=>O j b c (by have:=(B9.1 hc).1;omega) hb hc⟩:EH p cs)],rfl⟩)
def Hr(ls:List Int):List UInt8:=ls.flatMap Tx
theorem Hq:∀(ls:List Int),(∀n∈ls,-4611686018427387903<=n/\n<=4611686018427387903)->(Hr ls).length<=ls.length*9
 |[],_=>by simp [Hr]
 |n::ls,h=>by
  have B:=Hq ls (fun m g=>h m (by simp [g]));have h2:=PM n (h n B0).1 (h n B0).2
  unfold Hr at*;rw [HL,B7,DH];omega
theorem YX(ls:List Int)(n:Int):Hr (ls++[n])=Hr ls++Tx n:=by simp [Hr]
theorem og(g off cap:Nat)(cur:Array Value)(T:TypeId)(z:Nat×Nat)(ls:List Int)(I:Kz cur off ls)(hn:ls.length<=1073741824)(O:∀n∈ls,-4611686018427387903<=n/\n<=4611686018427387903):
 BI prog 273 #[.slice (some ⟨g,off,none⟩) ls.length cap] [[(g,.cells cur T z)]] (.string (str (Hr ls))):=by
 have X:=mL;refine Se func273 ntmps273 [0] ?_;intro u R;refine A0<|A3 Y<|A0<|A3 Y<|Zq<|A0<|Zm Y<|Zv (Aa D0 Y)<|Zm Y<|A4<|AQ<|Zb [3,10,8,9] ?_;refine BB (e0:=[(3,_),(10,_)]) (fun m e H=>∃(i:Nat),m=ls.length -i/\(i<=ls.length)/\e=[(3,.string (str (Hr (ls.take i)))),(10,I4 (i:Int))]/\H=[]) (by exact ⟨0,V,C0 _,V,V⟩) Wp ?_;rintro _ _ _ ⟨i,rfl,hi,rfl,rfl⟩;refine A0<|Zv (Av Y Y)<|A4<|Zq<|Au Y (fun G=>?_) (fun G=>?_)
 ·
  obtain ⟨x,K⟩:∃x,ls[i]?=some x:=⟨_,B4 G⟩;have B:=O x (DE K)
  have J:ls.take (i+1)=ls.take i++[x]:=by rw [PF,K];rfl
  have Z:=Hq (ls.take i) (fun m W=>O m (On W));have af:(ls.take i).length<=i:=List.length_take_le ..
  have U:=PM x B.1 B.2;refine AC<|Zx<|Zq<|AQ<|A0<|BX (Cf D0 A5 Y Y A1)<|Zl AE Y (hv:=by exact I i x K) ?_;refine A3 Y<|A0<|Zm Y<|Xr [_] Y call231 Y V (Qb x B.1 B.2) ?_;refine Zm Y<|Zd Y rfl<|Zd Y rfl<|Za Y<|A3 Y<|Zg<|Zm Y<|Zm Y<|BX (Ma Y Y (by rw [Gn,Gn];omega))<|AG Y<|Zn [3,8,9,10] ?_;refine A8<|Zx<|Zg<|Ya (n:=1) Y Y<|Zm Y<|Z0<|Zn [3,10,8,9] ?_;refine Ab (e':=[(3,_),(10,_)]) (by exact ⟨i+1,rfl,by omega,by rw [J,YX,<-RI],rfl⟩)
 refine Ay<|Zt<|Zt<|AR<|Zx<|A0<|Zm Y<|A3 Y<|AJ<|AP rfl results273 Y (by exact ⟨by rw [Hv A1],rfl⟩)
structure Io where
 p:Int
 ch:List UInt8
 st:List UInt8
variable{sz:Nat}{e:TypeId}{v:Value}{xs:List Value}{s:List A9}
theorem J7{k:Nat}(h:Bb sz e v k xs s)(i:Nat)(hi:i<k):∃g cap cur z,v=I6 g k cap/\s=[(g,.cells cur e z)]/\i*sz+sz<=cur.size/\(cur.extract (i*sz) (i*sz+sz)).toList=(xs.drop (i*sz)).take sz:=by
 obtain ⟨K,⟨_,h0,_⟩|⟨g,cap,cur,z,rfl,rfl,B,hc,G,m,J⟩⟩:=h
 · omega
 · have I:i*sz+sz<=k*sz:=by
    have:=T6 sz (Nat.succ_le_of_lt hi);rw [Nat.succ_mul]at this;exact this
   have h2:k*sz<=cap*sz:=T6 sz B;refine ⟨g,cap,cur,z,V,V,by omega,?_⟩;rw [<-m,Array.toList_extract,pP,eJ,TX];congr 1;omega
def Af(rs:List AU):List Value:=rs.flatMap (fun r=>[I4 r.t,I4 r.k,I4 r.v.a,I4 r.v.b,I4 r.v.c])
theorem IG{α:Type}(f:α->List Value)(sz:Nat)(g:∀a,(f a).length=sz):∀(l:List α) (i:Nat) (a:α),l[i]?=some a->((l.flatMap f).drop (i*sz)).take sz=f a
 |x::l,0,a,h=>by
  injection h with h;subst h
  rw [eM,Pr,HL,a8 (by rw [g];exact CD _),Hv (by rw [g];exact CD _)]
 |x::l,i+1,a,h=>by
  have e1:(f x++l.flatMap f).drop sz=l.flatMap f:=by
   have m:=List.drop_left (l₁:=f x) (l₂:=l.flatMap f);rwa [g]at m
  rw [HL,Nat.succ_mul,Nat.add_comm,<-Ys,e1];exact IG f sz g l i a h
variable{rs:List AU}
theorem Pq(h:Bb 5 e v rs.length (Af rs) s)(I:rs.length<=maxLen):iA s v rs:=by
 obtain ⟨b,cap,rfl⟩:=h.form;refine ⟨b,cap,V,I,fun i r G=>?_⟩;obtain ⟨g,B,cur,z,hv,rfl,J,m⟩:=J7 h i (B9.1 G).1;injection hv with hv1 hv2 hv3
 refine ⟨g,0,cur,e,z,hv1,BT.2 V,by omega,?_⟩;rw [Cl];apply HC.1;rw [m];exact IG _ 5 (fun _=>rfl) rs i r G
def Cg(cs:List Chg):List Value:=cs.flatMap (fun c=>[I4 c.t,I4 c.k,.bool c.had,I4 c.o.a,I4 c.o.b,I4 c.o.c,.bool c.has,I4 c.n.a,I4 c.n.b,I4 c.n.c])
theorem QO{rs:List Chg}(h:Bb 10 e v rs.length (Cg rs) s)(I:rs.length<=maxLen):Cr s v rs:=by
 obtain ⟨b,cap,rfl⟩:=h.form;refine ⟨b,cap,V,I,fun i r G=>?_⟩;obtain ⟨g,B,cur,z,hv,rfl,J,m⟩:=J7 h i (B9.1 G).1;injection hv with hv1 hv2 hv3
 refine ⟨g,0,cur,e,z,hv1,BT.2 V,by omega,?_⟩;rw [Cl];apply HC.1;rw [m];exact IG _ 10 (fun _=>rfl) rs i r G
theorem Lf:∀(rs:List AU) (t k:Int),BP rs->∃A B,rs=A++B/\A.length=E5 rs t k/\(∀r∈A,r.lt2 t k)/\(∀r∈B,¬r.lt2 t k)
 |[],t,k,_=>⟨[],[],rfl,rfl,by simp,by simp⟩
 |r::rs,t,k,hs=>by
  have m:=PC.1 hs;by_cases h:r.lt2 t k
  · obtain ⟨A,B,G,h2,I,J⟩:=Lf rs t k m.2
    refine ⟨r::A,B,by rw [G];rfl,?_,?_,J⟩
    · unfold E5 at*
      rw [P2,AM (by simpa using h),DH,DH,h2]
    · intro x g
      rcases D2.1 g with rfl|g
      · exact h
      · exact I x g
  · refine ⟨[],r::rs,rfl,?_,by simp,?_⟩
    · unfold E5
      rw [P2,AK (by simpa using h)]
    · intro x g hc
      rcases D2.1 g with rfl|g
      · exact h hc
      · exact h (QE (m.1 x g) hc)
variable{k t:Int}
theorem Vm{r:AU}(h:r.is t k):¬r.lt2 t k:=by unfold AU.is AU.lt2 at*;omega
theorem KH{r:AU}(m:BP rs)(K:r∈rs)(h:r.is t k):Fh rs t k=(r,true):=by
 obtain ⟨A,B,g,h2,O,U⟩:=Lf rs t k m;have J:r∈B:=by
  rw [g]at K;rcases BE.1 K with h9|h9
  · exact absurd (O r h9) (Vm h)
  · exact h9
 cases B with
 |nil=>cases J
 |cons b B=>
  have X:b=r:=by
   rcases D2.1 J with h9|h9
   · exact h9.symm
   · exfalso
     have G:BP (b::B):=by rw [g]at m;exact (P0.1 m).2.1
     have I:=(PC.1 G).1 r h9;have W:=U b B0
     unfold AU.is at h;rw [h.1,h.2]at I;exact W I
  subst X;have Z:rs[E5 rs t k]?=some b:=by rw [<-h2,g,OS (CD _),Tl];rfl
  unfold Fh;rw [Z];simp only;rw [AM h]
theorem QH(h:∀r∈rs,¬r.is t k):Fh rs t k=(AU.zero,false):=by
 unfold Fh;split
 · rename_i r hr
   rw [AK (h r (DE hr))]
 · rfl
theorem JF(h:(Fh rs t k).2=true):∃r∈rs,r.is t k/\rs[E5 rs t k]?=some r/\Fh rs t k=(r,true):=by
 unfold Fh at*;split at h
 · rename_i r hr
   split at h
   · rename_i hi
     exact ⟨r,DE hr,hi,hr,by rw [AM hi]⟩
   · cases h
 · cases h
def GK(rs:List AU)(c:Chg):Prop:=(Fh rs c.t c.k).2=c.had/\((Fh rs c.t c.k).2=true->(Fh rs c.t c.k).1.v=c.o)
def Na(c:Chg):List AU:=if c.has then [⟨c.t,c.k,c.n⟩]else []
def EI(rs:List AU)(c:Chg):List AU:=rs.take (E5 rs c.t c.k)++Na c++(rs.drop (E5 rs c.t c.k)).drop (if c.had then 1 else 0)
theorem Lr{x:AU}:x∈Na c↔c.has=true/\x=⟨c.t,c.k,c.n⟩:=by
 unfold Na;cases c.has<;>simp
theorem Pz(K:BP rs)(hf:GK rs c):∃A B,EI rs c=A++Na c++B/\(∀x,x∈rs↔x∈A\/x∈B\/(x∈rs/\x.is c.t c.k))/\BP A/\BP B/\(∀r∈A,r.lt2 c.t c.k)/\(∀r∈B,c.t<r.t\/c.t=r.t/\c.k<r.k)/\rs.length=A.length+B.length+(if c.had then 1 else 0):=by
 obtain ⟨A,B,g,h2,h3,h4⟩:=Lf rs c.t c.k K;have U:BP A:=by rw [g]at K;exact (P0.1 K).1
 have W:BP B:=by rw [g]at K;exact (P0.1 K).2.1
 have ax:rs.take (E5 rs c.t c.k)=A:=by rw [<-h2,g,HM rfl]
 have Z:rs.drop (E5 rs c.t c.k)=B:=by rw [<-h2,g,W3 rfl]
 unfold EI;rw [ax,Z];have G:∀x∈B,¬x.is c.t c.k->c.t<x.t\/c.t=x.t/\c.k<x.k:=fun x I hn=>by
  have J:=h4 x I;unfold AU.lt2 at J;unfold AU.is at hn;omega
 cases hh:c.had with
 |false=>
  have af:∀r∈rs,¬r.is c.t c.k:=fun r O hi=>by
   have J:=hf.1;rw [KH K O hi,hh]at J;cases J
  refine ⟨A,B,by simp,fun x=>?_,U,W,h3,fun r O=>G r O (af r (by rw [g];exact Fm _ O)),by rw [g];simp⟩;rw [g,BE];constructor
  · rintro (h|h)
    · exact .inl h
    · exact .inr (.inl h)
  · rintro (h|h|⟨h,_⟩)
    · exact .inl h
    · exact .inr h
    · exact h
 |true=>
  obtain ⟨r,O,hi,hp,hg⟩:=JF (by rw [hf.1,hh]:(Fh rs c.t c.k).2=true);have X:B[0]?=some r:=by rw [<-h2,g,OS (CD _),Tl]at hp;exact hp
  cases B with
  |nil=>cases X
  |cons b B=>
   injection X with X
   subst X;have m:=PC.1 W
   refine ⟨A,B,by simp,fun x=>?_,U,m.2,h3,fun x I=>?_,by rw [g];simp;omega⟩
   · constructor
     · intro I
       have bn:=I;rw [g]at I;rcases BE.1 I with h|h
       · exact .inl h
       · rcases D2.1 h with rfl|h
         · exact .inr (.inr ⟨bn,hi⟩)
         · exact .inr (.inl h)
     · rintro (h|h|⟨h,_⟩)
       · rw [g];exact DP _ h
       · rw [g];exact Fm _ (EV _ h)
       · exact h
   · have J:=m.1 x I
     unfold AU.lt2 at J;unfold AU.is at hi;omega
theorem Fy(W:BP rs)(U:GK rs c)(x:AU):x∈EI rs c↔(x∈rs/\¬x.is c.t c.k)\/(c.has=true/\x=⟨c.t,c.k,c.n⟩):=by
 obtain ⟨A,B,J,h2,_,_,K,O,_⟩:=Pz W U;rw [J,BE,BE,Lr];have G:∀x∈A,¬x.is c.t c.k:=fun x m hi=>Vm hi (K x m)
 have I:∀x∈B,¬x.is c.t c.k:=fun x m hi=>by have g:=O x m;unfold AU.is at hi;omega
 constructor
 · rintro ((h|h)|h)
   · exact .inl ⟨(h2 x).2 (.inl h),G x h⟩
   · exact .inr h
   · exact .inl ⟨(h2 x).2 (.inr (.inl h)),I x h⟩
 · rintro (⟨h,hn⟩|h)
   · rcases (h2 x).1 h with g|g|⟨_,g⟩
     · exact .inl (.inl g)
     · exact .inr g
     · exact absurd g hn
   · exact .inl (.inr h)
theorem J6(X:BP rs)(W:GK rs c):BP (EI rs c):=by
 obtain ⟨A,B,K,_,O,U,I,J,_⟩:=Pz X W;rw [K];have m:∀a b:AU,a.lt2 c.t c.k->(c.t<b.t\/c.t=b.t/\c.k<b.k)->a.lt2 b.t b.k:=fun a b g G=>by unfold AU.lt2 at*;omega
 refine P0.2 ⟨P0.2 ⟨O,?_,?_⟩,U,?_⟩
 · unfold Na;split<;>simp
 · intro a g b G
   obtain ⟨_,rfl⟩:=Lr.1 G;exact I a g
 · intro a g b G
   rcases BE.1 g with g|g
   · exact m a b (I a g) (J b G)
   · obtain ⟨_,rfl⟩:=Lr.1 g
     have:=J b G;unfold AU.lt2;simp only;omega
theorem wU(I:BP rs)(G:GK rs c):((EI rs c).length:Int)=rs.length+(if c.has then 1 else 0) -(if c.had then 1 else 0):=by
 obtain ⟨A,B,g,_,_,_,_,_,m⟩:=Pz I G;rw [g,m];unfold Na;cases c.has<;>cases c.had<;>simp<;>omega
theorem xN(B:BP rs)(G:GK rs c)(I:¬(c.t=t/\c.k=k)):Fh (EI rs c) t k=Fh rs t k:=by
 cases hg:(Fh rs t k).2 with
 |true=>
  obtain ⟨r,m,hi,_,J⟩:=JF hg;rw [J];exact KH (J6 B G) ((Fy B G r).2 (.inl ⟨m,fun h=>by unfold AU.is at h hi;omega⟩)) hi
 |false=>
  have g:∀r∈rs,¬r.is t k:=fun r m hi=>by rw [KH B m hi]at hg;cases hg
  rw [QH g];refine QH fun r m hi=>?_;rcases (Fy B G r).1 m with⟨h,_⟩|⟨_,rfl⟩
  · exact g r h hi
  · exact I hi
def DN(rs:List AU)(cs:List Chg):List AU:=cs.foldl EI rs
theorem EL(rs:List AU)(cs:List Chg)(i:Nat)(c:Chg)(h:cs[i]?=some c):DN rs (cs.take (i+1))=EI (DN rs (cs.take i)) c:=by
 unfold DN;rw [PF,h,Xs];rfl
def y7(cs:List Chg):Prop:=∀(i j:Nat) (b c:Chg),i<j->cs[i]?=some b->cs[j]?=some c->b.lt c
theorem nK{a b:Chg}(h:a.lt b)(h2:b.lt c):a.lt c:=by unfold Chg.lt at*;omega
theorem U9(h:∀(i:Nat) (b c:Chg),cs[i]?=some b->cs[i+1]?=some c->b.lt c):y7 cs:=by
 intro i j b c g B hc;obtain ⟨d,rfl⟩:∃d,j=i+1+d:=⟨j -(i+1),by omega⟩;clear g;induction d generalizing c with
 |zero=>exact h i b c B hc
 |succ d ih=>
  obtain ⟨x,m⟩:∃x,cs[i+1+d]?=some x:=by
   have:=(B9.1 hc).1;exact ⟨_,B4 A1⟩
  exact nK (ih x m) (h (i+1+d) x c m hc)
theorem KI{rs:List AU}{cs:List Chg}(K:BP rs)(I:y7 cs)(J:∀c∈cs,GK rs c):∀i,i<=cs.length->BP (DN rs (cs.take i))/\∀(j:Nat) (c:Chg),i<=j->cs[j]?=some c->GK (DN rs (cs.take i)) c
 |0,_=>⟨K,fun j c _ hc=>J c (DE hc)⟩
 |i+1,hi=>by
  obtain ⟨G,h2⟩:=KI K I J i A1;obtain ⟨x,B⟩:∃x,cs[i]?=some x:=⟨_,B4 A1⟩;rw [EL rs cs i x B];have g:=h2 i x (CD _) B
  refine ⟨J6 G g,fun j c U hc=>?_⟩;have m:=I i j x c A1 B hc
  have O:=h2 j c A1 hc;unfold GK at*;rw [xN G g (by unfold Chg.lt at m;omega)];exact O
def Mw(c:Chg):Int:=(if c.has then 1 else 0) -(if c.had then 1 else 0)
def Gp(rs:List AU)(cs:List Chg):Int:=cs.foldl (fun n c=>n+Mw c) (rs.length:Int)
theorem Hg(rs:List AU)(cs:List Chg)(i:Nat)(c:Chg)(h:cs[i]?=some c):Gp rs (cs.take (i+1))=Gp rs (cs.take i)+Mw c:=by
 unfold Gp;rw [PF,h,Xs];rfl
theorem oO(c:Chg):-1<=Mw c/\Mw c<=1:=by unfold Mw;split<;>split<;>omega
theorem OL(rs:List AU)(cs:List Chg):∀i,(rs.length:Int) -i<=Gp rs (cs.take i)/\Gp rs (cs.take i)<=rs.length+i
 |0=>by unfold Gp;simp
 |i+1=>by
  have m:=OL rs cs i;cases h:cs[i]?with
  |none=>rw [PF,h];simp only [Option.toList,DB];omega
  |some c=>have g:=oO c;rw [Hg rs cs i c h];omega
theorem Nc{rs:List AU}{cs:List Chg}(G:BP rs)(m:y7 cs)(B:∀c∈cs,GK rs c):∀i,i<=cs.length->((DN rs (cs.take i)).length:Int)=Gp rs (cs.take i)
 |0,_=>rfl
 |i+1,hi=>by
  obtain ⟨x,g⟩:∃x,cs[i]?=some x:=⟨_,B4 A1⟩;have J:=Nc G m B i A1
  obtain ⟨I,h2⟩:=KI G m B i A1;rw [EL rs cs i x g,Hg rs cs i x g,wU I (h2 i x (CD _) g),J];unfold Mw;omega
structure KQ(rs:List AU)(p rp:Int)(cs:List Chg):Prop where
 ok:EH rp cs
 pos:rp=p+1
 fit:∀c∈cs,GK rs c
 size:Gp rs cs<=2000
theorem IW(h:∀c∈cs.take i,GK rs c)(m:cs[i]?=some x)(g:GK rs x):∀c∈cs.take (i+1),GK rs c:=by
 rw [PF,m];intro c hc;rcases BE.1 hc with h9|h9
 · exact h c h9
 · rw [BT.1 h9];exact g
theorem Bh(a b:List AU):Af (a++b)=Af a++Af b:=by unfold Af;rw [N1]
theorem BF:∀(rs:List AU),(Af rs).length=rs.length*5
 |[]=>rfl
 |r::rs=>by
  have:=BF rs;unfold Af at*;rw [HL,B7,this,DH];simp;omega
theorem EB(rs:List AU)(k:Nat):(Af rs).take (k*5)=Af (rs.take k):=by
 rcases Dg rs.length k with h|h
 · rw [Hv (by rw [BF];omega),Hv A1]
 · have e:Af rs=Af (rs.take k)++Af (rs.drop k):=by rw [<-Bh,I3]
   rw [e,HM (by rw [BF,C1];omega)]
theorem Dh(rs:List AU)(k:Nat):(Af rs).drop (k*5)=Af (rs.drop k):=by
 rcases Dg rs.length k with h|h
 · rw [SO (by rw [BF];omega),SO A1];rfl
 · have e:Af rs=Af (rs.take k)++Af (rs.drop k):=by rw [<-Bh,I3]
   rw [e,W3 (by rw [BF,C1];omega)]
theorem CU(rs:List AU):∀u∈Af rs,u.oneCell'=true:=by
 intro u g;unfold Af at g;obtain ⟨r,_,h⟩:=Rg.1 g;simp only [D2,RT,RC]at h;rcases h with rfl|rfl|rfl|rfl|rfl<;>rfl
theorem BS{n n':Nat}{xs':List Value}(h:Bb sz e v n xs s)(g:n=n')(m:xs=xs'):Bb sz e v n' xs' s:=by subst g m;exact h
theorem Et{b:Option Addr}{n c:Nat}(h:Bb sz e (.slice b n c) n xs s):n<=c:=by
 obtain ⟨_,⟨hv,h0,_⟩|⟨_,_,_,_,hv,_,h2,_⟩⟩:=h
 · omega
 · injection hv with _ _ hv3;omega
theorem Ux(sz:Nat)(b:Option Addr)(c:Nat):NJ sz (.slice b 0 c) 0 [] []:=⟨by simp,.inl ⟨rfl,b,c,rfl⟩⟩
theorem DC(sz g k c:Nat)(e:TypeId)(z:Nat×Nat)(xs:List Value)(h:xs.length=k*sz):NJ sz (I6 g k c) k xs [(g,.cells xs.toArray e z)]:=
 ⟨h,.inr ⟨g,0,c,xs.toArray,e,z,rfl,rfl,by unfold C9;rw [Pr];simp⟩⟩
theorem XA(h:c.has=true):Na c=[⟨c.t,c.k,c.n⟩]:=AM h
theorem XB(h:c.has=false):Na c=[]:=AK (by rw [h];decide)
theorem iI(m:cs[i]?=some x)(g:x.had=true)(h2:x.has=true):Gp rs (cs.take (i+1))=Gp rs (cs.take i) -1+1:=by rw [Hg rs cs i x m];unfold Mw;rw [AM h2,AM g];omega
theorem iJ(m:cs[i]?=some x)(g:x.had=true)(h2:x.has=false):Gp rs (cs.take (i+1))=Gp rs (cs.take i) -1:=by rw [Hg rs cs i x m];unfold Mw;rw [AK (by rw [h2];decide),AM g];omega
theorem iK(m:cs[i]?=some x)(g:x.had=false)(h2:x.has=true):Gp rs (cs.take (i+1))=Gp rs (cs.take i)+1:=by rw [Hg rs cs i x m];unfold Mw;rw [AM h2,AK (by rw [g];decide)];omega
theorem iL(m:cs[i]?=some x)(g:x.had=false)(h2:x.has=false):Gp rs (cs.take (i+1))=Gp rs (cs.take i):=by rw [Hg rs cs i x m];unfold Mw;rw [AK (by rw [h2];decide),AK (by rw [g];decide)];omega
theorem pU(sp:Nat)(p rp:Int)(v:Value)(rs:List AU)(sv M:List A9)(q:Option Addr)(bn:Nat)(cs:List Chg)(gq:Bb 5 83 v rs.length (Af rs) sv)(hO:Cr M (.slice q cs.length bn) cs)(hs:BP rs)(hn:rs.length<=2000)(hp:0<=p/\p<=10000):
 BZ prog 33 #[I5 sp,.agg #[I4 rp,.slice q cs.length bn]] [[(sp,.cells #[v,I4 p] 87 (0,0))],sv,M] (fun r H'=>(KQ rs p rp cs/\∃v' p8,r=I4 0/\Bb 5 83 v' (DN rs cs).length (Af (DN rs cs)) p8/\H'=[[(sp,.cells #[v',I4 rp] 87 (0,0))],p8,M])\/(¬KQ rs p rp cs/\r=I4 40/\H'=[[(sp,.cells #[v,I4 p] 87 (0,0))],sv,M])):=by
 have qz:=mL;obtain ⟨qv,l5,rfl⟩:=gq.form;have pg:=Pq gq A1
 obtain ⟨p9,qj,e9,r9,hg⟩:=id hO;injection e9 with e91 e92 e93
 subst e91 e93;refine Se func33 ntmps33 [0,1] ?_;intro u R;refine A0<|Ze (Bx #[_,_])<|AD fun rb=>A3 Y<|A0<|Zo Wh (Pa #[_,_] HW F2 Y) ?_;refine Xr [_] Y call79 Y V (kH rp q bn cs M hO) ?_;refine A3 Y<|Zq<|Zq<|Az (n:=12) (0::1::3::7::15::7::39::103::231::487::1023::2047::[]) 0 A6 A6 V<|A2 0 V (AO Y)<|A2 1 V (Cm Y)<|A2 2 V (AO Y)<|CW (t:=23) Y (fun hv=>?_) (fun hv=>?_)
 ·
  rw [CM hv];refine AF 3 V<|AF 4 V<|AF 5 V<|AF 6 V<|AF 7 V<|AF 8 V<|AF 9 V<|AF 10 V<|A2 11 V (AV Y Y)<|Ah<|Zn [0,3,32] ?_;refine Zx<|Cn Y<|A0<|A3 Y<|AJ<|Zt<|AP V fW Y (by exact .inr ⟨fun h=>hv h.ok,V,V⟩)
 rw [C4 hv];refine AH 3 V (AB (off:=0) GS V rfl A5 Y)<|DA 4 V Wh (BO AE Y AN) ?_;refine AH 5 V (AO Y)<|AH 6 V (Aq Y V)<|AH 7 V (AB (off:=1) I0 V rfl A5 Y)<|DA 8 V Wh (BO AE Y AN) ?_
 (refine AH 9 rfl (HV Y Y (IntWalk.i64_in _ ?_)) ?_;(focus (omega)))
 refine AH 10 V (J9 Y Y)<|A2 11 V (AL Y Y)<|Ah<|Zn [0,3,32] ?_;refine Zx<|Au Y (fun gm=>?_) (fun gm=>?_)
 ·
  refine A0<|A3 Y<|AJ<|Zt<|AP V fW Y (by exact .inr ⟨fun h=>gm h.pos,V,V⟩)
 refine AC<|Zx<|Zq ?_;have kv:=HT.1 hv
 have qa:=HT.1 gm;have ql:=kv.len
 have ic:=U9 kv.ord;refine Zg<|Zm Y<|Zp Y V<|Zh 0 I0 V rfl C6 Y<|Zl FA Y ?_;refine Zv (Aa B6 Y)<|A3 Y<|Zq<|A0<|A3 Y<|AQ<|Zb [6,7,0,3] ?_;refine BB (e0:=[(6,_),(7,_)]) (fun m e H=>∃(i:Nat),m=cs.length -i/\(i<=cs.length/\(∀c∈cs.take i,GK rs c))/\e=[(6,I4 (Gp rs (cs.take i))),(7,I4 (i:Int))]/\H=[]) (by exact ⟨0,V,⟨C0 _,by simp⟩,V,V⟩) Wp ?_;rintro _ _ _ ⟨i,rfl,⟨hi,I⟩,rfl,rfl⟩;have o8:=OL rs cs i
 refine Zq<|A0<|Zm Y<|Zh 1 GS V rfl Lw Y<|Zl ON Y ?_;refine Zv (Aa G4 Y)<|Zv (Av Y Y)<|A4<|Au Y (fun d9=>?_) (fun d9=>?_)
 ·
  refine AC<|Zx<|Zq<|AQ<|Zq ?_;obtain ⟨x,O⟩:∃x,cs[i]?=some x:=⟨_,B4 d9⟩;obtain ⟨g,off,cur,T,zz,rfl,hm,qb,j5⟩:=hg i x O;refine Zg<|Zh 1 GS V rfl Lw Y<|Zl ON Y ?_;refine Zm Y<|BX (Ac G4 C3 Y Y A1)<|CQ (cs:=[(g,.cells cur T zz)]) (by simp [hm]) (AA (cs:=x.A28) Ft C3 Y A1 j5) V rfl ?_;refine Ze (Al LN #[_,_,_,_,_,_,_,_,_,_])<|AD fun cb=>Xe (Xw C3 x.A28) ?_;refine A4<|A0<|Zm Y<|Zh 0 B8 V rfl A5 Y<|Zl AE Y ?_;refine Zh 1 B8 V rfl A5 Y<|Zl AE Y ?_;refine Xr [_,_,_] Y call32 Y V (pR sp qv l5 p x.t x.k rs sv pg A1 hs) ?_;obtain ⟨gr,cO⟩:∃gr,gr=Fh rs x.t x.k:=⟨_,rfl⟩;rw [<-cO];refine Zm Y<|Zd Y V<|Zd Y V<|Ze (Al DS #[_,_,_,_,_])<|AD fun xb=>Xe (Xw An #[I4 gr.1.t,I4 gr.1.k,I4 gr.1.v.a,I4 gr.1.v.b,I4 gr.1.v.c]) ?_;refine AG Y<|Zn [0,3,6,7,8,9,10] ?_;refine Zx<|Zq<|A0<|Zm Y<|Zh 2 B8 V rfl CH Y<|Zl E0 Y ?_;refine Zv (Kc NO Y Y)<|Zm Y<|Am (t:=63) Y V (fun gy=>?_) (fun gy=>?_)
  ·
   repeat refine A7 Y rfl ?_
   refine Zv (AV Y Y)<|Z0<|Zn [0,3,6,7,8,72] ?_;refine Zx<|Cn Y<|A0<|A3 Y<|AJ<|Zt<|Ae<|Zt<|Zt<|Ae<|Zt<|AP rfl fW Y (by exact .inr ⟨fun h=>by have h9:=(h.fit x (DE O)).1;rw [<-cO]at h9;exact gy h9,rfl,rfl⟩)
  refine Zf Y Y<|Zf Y Y ?_;refine Ag (t:=65) Y V (fun gB=>?_) (fun gB=>?_)
  ·
   refine Yf 2 FG V rfl DG Y<|Dv Y Wh (Pa #[_,_,_] HE DG Y) V rfl ?_;refine Yf 3 B8 V rfl DG Y<|Dv Y Wh (AA (cs:=#[_,_,_]) HE DG Y Ax AN) V rfl ?_;refine Yg (Ke A6 Hj Cp AE A5 Y Y) ?_;refine Yg (AV Y Y)<|Zv (AL Y Y)<|Z0<|Zn [0,3,6,7,8,72] ?_;refine Zx<|Au Y (fun j3=>?_) (fun j3=>?_)
   ·
    refine A0<|A3 Y<|AJ<|Zt<|Ae<|Zt<|Zt<|Ae<|Zt<|AP rfl fW Y (by exact .inr ⟨fun h=>by have h9:=(h.fit x (DE O)).2;rw [<-cO]at h9;exact j3 (h9 gB),rfl,rfl⟩)
   refine AC<|Zx<|Zq<|Zq ?_;have U:GK rs x:=by
    unfold GK;rw [<-cO];refine ⟨by simpa using gy,fun h=>?_⟩;exact HT.1 j3
   refine Zg<|Zh 2 B8 V rfl CH Y<|Zl E0 Y ?_;refine A4<|AX Y (fun G=>?_) (fun G=>?_)
   ·
    refine Zg<|Zm Y ?_
    (refine BX (GG Y Y (IntWalk.i64_in _ ?_)) ?_;(focus (omega)))
    refine A3 Y<|A0<|Zh 6 B8 V rfl CH Y<|Zl E0 Y ?_;refine A4<|AX Y (fun B=>?_) (fun B=>?_)
    ·
     refine Zg<|Zm Y<|Yi Y Y<|AG Y<|A8<|Zx<|Zg<|Zm Y<|Ya (n:=1) Y Y<|AG Y<|Zn [6,7,0,3] ?_;refine Ab (e':=[(6,_),(7,_)]) (by exact ⟨i+1,rfl,⟨by omega,IW I O U⟩,by rw [iI O G B],rfl⟩)
    refine AC<|A8<|Zx<|Zg<|Zm Y<|Ya (n:=1) Y Y<|AG Y<|Zn [6,7,0,3] ?_;refine Ab (e':=[(6,_),(7,_)]) (by exact ⟨i+1,rfl,⟨by omega,IW I O U⟩,by rw [iJ O G B],rfl⟩)
   refine AC<|Zx<|A0<|Zh 6 B8 V rfl CH Y<|Zl E0 Y ?_;refine A4<|AX Y (fun B=>?_) (fun B=>?_)
   ·
    refine Zg<|Zm Y<|Yi Y Y<|AG Y<|A8<|Zx<|Zg<|Zm Y<|Ya (n:=1) Y Y<|AG Y<|Zn [6,7,0,3] ?_;refine Ab (e':=[(6,_),(7,_)]) (by exact ⟨i+1,rfl,⟨by omega,IW I O U⟩,by rw [iK O G B],rfl⟩)
   refine AC<|A8<|Zx<|Zg<|Zm Y<|Ya (n:=1) Y Y<|AG Y<|Zn [6,7,0,3] ?_;refine Ab (e':=[(6,_),(7,_)]) (by exact ⟨i+1,rfl,⟨by omega,IW I O U⟩,by rw [iL O G B],rfl⟩)
  repeat refine A7 Y rfl ?_
  refine Yg (AL Y Y)<|Zv (AL Y Y)<|Z0<|Zn [0,3,6,7,8,72] ?_;refine Zx<|Ch Y<|AC<|Zx<|Zq<|Zq ?_;have U:GK rs x:=by
   unfold GK;rw [<-cO];refine ⟨by simpa using gy,fun h=>?_⟩
   (rw [h]at gB;cases gB)
  refine Zg<|Zh 2 B8 V rfl CH Y<|Zl E0 Y ?_;refine A4<|AX Y (fun G=>?_) (fun G=>?_)
  ·
   refine Zg<|Zm Y ?_
   (refine BX (GG Y Y (IntWalk.i64_in _ ?_)) ?_;(focus (omega)))
   refine A3 Y<|A0<|Zh 6 B8 V rfl CH Y<|Zl E0 Y ?_;refine A4<|AX Y (fun B=>?_) (fun B=>?_)
   ·
    refine Zg<|Zm Y<|Yi Y Y<|AG Y<|A8<|Zx<|Zg<|Zm Y<|Ya (n:=1) Y Y<|AG Y<|Zn [6,7,0,3] ?_;refine Ab (e':=[(6,_),(7,_)]) (by exact ⟨i+1,rfl,⟨by omega,IW I O U⟩,by rw [iI O G B],rfl⟩)
   refine AC<|A8<|Zx<|Zg<|Zm Y<|Ya (n:=1) Y Y<|AG Y<|Zn [6,7,0,3] ?_;refine Ab (e':=[(6,_),(7,_)]) (by exact ⟨i+1,rfl,⟨by omega,IW I O U⟩,by rw [iJ O G B],rfl⟩)
  refine AC<|Zx<|A0<|Zh 6 B8 V rfl CH Y<|Zl E0 Y ?_;refine A4<|AX Y (fun B=>?_) (fun B=>?_)
  ·
   refine Zg<|Zm Y<|Yi Y Y<|AG Y<|A8<|Zx<|Zg<|Zm Y<|Ya (n:=1) Y Y<|AG Y<|Zn [6,7,0,3] ?_;refine Ab (e':=[(6,_),(7,_)]) (by exact ⟨i+1,rfl,⟨by omega,IW I O U⟩,by rw [iK O G B],rfl⟩)
  refine AC<|A8<|Zx<|Zg<|Zm Y<|Ya (n:=1) Y Y<|AG Y<|Zn [6,7,0,3] ?_;refine Ab (e':=[(6,_),(7,_)]) (by exact ⟨i+1,rfl,⟨by omega,IW I O U⟩,by rw [iL O G B],rfl⟩)
 have ei:i=cs.length:=by omega
 subst ei;rw [G0]at I o8⊢;refine Ay<|Zt<|Zt<|AR<|Zx<|Zq<|A0<|Zm Y<|Zv (Er Y Y)<|A4<|Au Y (fun l8=>?_) (fun l8=>?_)
 ·
  refine A0<|A3 Y<|AJ<|Zt<|AP V fW Y (by exact .inr ⟨fun h=>by have h9:=h.size;omega,V,V⟩)
 refine AC<|Zx<|Zq<|A0<|A3 Y<|AQ<|Zb [11,0,3] ?_;refine BB (e0:=[(11,_)]) (fun m e H=>∃(i:Nat) (w:Value) (sw:List A9),m=cs.length -i/\(i<=cs.length/\Bb 5 83 w (DN rs (cs.take i)).length (Af (DN rs (cs.take i))) sw)/\e=[(11,I4 (i:Int))]/\H=[[(sp,.cells #[w,I4 p] 87 (0,0))],sw]) (by exact ⟨0,_,sv,V,⟨C0 _,gq⟩,V,V⟩) Wp ?_;rintro _ _ _ ⟨i,w,sw,rfl,⟨hi,K⟩,rfl,rfl⟩;obtain ⟨o9,l9⟩:=KI hs ic I i hi;have q9:=Nc hs ic I i hi
 have o8:=OL rs cs i;obtain ⟨qs,ax⟩:∃qs,qs=DN rs (cs.take i):=⟨_,rfl⟩;rw [<-ax]at K o9 q9 l9;obtain ⟨qw,cu,rfl⟩:=K.form;have qo:=Et K
 have pq:=Pq K A1;refine Zq<|A0<|Zm Y<|Zh 1 GS V rfl Lw Y<|Zl ON Y ?_;refine Zv (Aa G4 Y)<|Zv (Av Y Y)<|A4<|Au Y (fun d9=>?_) (fun d9=>?_)
 ·
  refine AC<|Zx<|Zq<|AQ<|Zq ?_;obtain ⟨x,O⟩:∃x,cs[i]?=some x:=⟨_,B4 d9⟩;obtain ⟨g,off,cur,T,zz,rfl,hm,qb,j5⟩:=hg i x O;have U:=l9 i x (CD _) O
  have ek:=VR qs x.t x.k;have J:EI qs x=qs.take (E5 qs x.t x.k)++Na x++(qs.drop (E5 qs x.t x.k)).drop (if x.had then 1 else 0):=rfl
  obtain ⟨k,hk⟩:∃k,k=E5 qs x.t x.k:=⟨_,rfl⟩;have pz:x.had=true->k<qs.length:=fun h=>by
   obtain ⟨r,_,_,h9,_⟩:=JF (by rw [U.1,h]:(Fh qs x.t x.k).2=true);rw [<-hk]at h9;exact (B9.1 h9).1
  rw [<-hk]at ek J;refine Zg<|Zh 1 GS V rfl Lw Y<|Zl ON Y ?_;refine Zm Y<|BX (Ac G4 C3 Y Y A1)<|CQ (cs:=[(g,.cells cur T zz)]) (by simp [hm]) (AA (cs:=x.A28) Ft C3 Y A1 j5) V rfl ?_;refine Ze (Al LN #[_,_,_,_,_,_,_,_,_,_])<|AD fun cb=>Xe (Xw C3 x.A28) ?_;refine A4<|A0<|Zm Y<|Zh 0 B8 V rfl A5 Y<|Zl AE Y ?_;refine Zh 1 B8 V rfl A5 Y<|Zl AE Y ?_;refine Xr [_,_,_] Y call78 Y V (YT sp qw cu p x.t x.k qs sw pq A1 o9) ?_;rw [<-hk];refine AG Y<|Zn [0,3,11,12,13] ?_;refine Zx<|A0<|Zm Y<|Zp Y V<|Zh 0 I0 V rfl C6 Y<|Zl FA Y ?_;refine Zm Y<|BX (CB B6 An Y Y A1)<|A3 Y<|Zq<|A0<|Zh 2 B8 V rfl CH Y<|Zl E0 Y ?_;refine A4<|AX Y (fun G=>?_) (fun G=>?_)
  ·
   have qx:=pz G;refine Zg<|Zm Y<|BX (CB (l:=1) B6 An Y Y A1)<|A3 Y<|A0<|AG Y<|Zn [0,3,11,12,13,14,15] ?_;refine Zx<|A0<|Zo Wh (Pa #[_,_,_,_,_,_,_,_,_,_] Ft C3 Y) ?_;refine Xr [_] Y call80 Y V (SV x) ?_;refine Zm Y<|Zd Y V<|Zd Y V<|Ze (Al DS #[_,_,_,_,_])<|AD fun xb=>Xe (Xw An x.after.A29) ?_;refine A3 Y<|Zq<|A0<|Zm Y<|A4<|AX Y (fun B=>?_) (fun B=>?_)
   ·
    refine Zg<|Zo Wh (Pa #[_,_,_,_,_] CI An Y) ?_;refine Ze (Aj (vs:=[_]) (cs:=[_,_,_,_,_]) B6 An DS Y V rfl V rfl V)<|AD fun gb=>A3 Y<|A0<|AG Y<|Zn [0,3,11,13,14,15,18] ?_;refine Zx<|Zq<|BV<|Zg<|Zm Y<|Zm Y<|Zp Y V<|Zh 0 I0 V rfl C6 Y<|Zl FA Y ?_;refine Zm Y<|BX (Bt B6 An Y Y A1)<|Ze (BR (by_:=40) (sz:=5) B6 (V:Tryz.prog.info? 83=some Tryz.t83) V rfl V rfl Y (Bf 5 _) Y (Jv K k _ ek) Wo Wo (by exact fun u hu=>CU qs u (On hu)) A1 A1) ?_;rintro _ _ ⟨sa,X,rfl⟩;obtain ⟨ga,ca,rfl⟩:=X.form;refine Zm Y<|Ze (BR (by_:=40) (sz:=5) B6 (V:Tryz.prog.info? 83=some Tryz.t83) V rfl V rfl Y (X) Y (DC 5 gb 1 1 83 (0,0) (Af [x.after]) V) Wo Wo (by exact CU _) A1 A1) ?_;rintro _ _ ⟨sb,Z,rfl⟩;obtain ⟨gb,cb,rfl⟩:=Z.form;refine Zm Y<|Ze (BR (by_:=40) (sz:=5) B6 (V:Tryz.prog.info? 83=some Tryz.t83) V rfl V rfl Y (Z) Y (Y9 (Jw K k (qs.length -k) (cu -k) A1) 1 (qs.length -k -1) _ A1 A1) Wo Wo (by exact fun u hu=>CU qs u (ID (ID hu))) A1 A1) ?_;rintro _ _ ⟨sc,af,rfl⟩;have W:=BS af (n':=(EI qs x).length) (xs':=Af (EI qs x)) (by rw [J,XA B,AM G,B7,B7,C1,C2,C2];simp only [DH,J1];omega) (by rw [J,XA B,AM G,Bh,Bh,<-EB,<-Dh (qs.drop k) 1,<-Dh];rw [Ky B];rfl)
    obtain ⟨gc,cc,rfl⟩:=af.form;refine AG Y<|Zn [0,3,11,18] ?_;refine Zx<|Zg<|Zm Y<|Zm Y<|Zp Y V<|Zh 0 I0 V rfl C6 Y<|Xe (Zs C6 Y Y V) ?_;refine Z0<|A8<|Zx<|Zg<|Zm Y<|Ya (n:=1) Y Y<|AG Y<|Zn [11,0,3] ?_;refine Ab (e':=[(11,_)]) (by exact ⟨i+1,_,_,rfl,⟨by omega,by rw [EL rs cs i x O,<-ax];exact W⟩,rfl,rfl⟩)
   refine BV<|AC<|Zx<|A0<|A3 Y<|Zq<|BV<|Zg<|Zm Y<|Zm Y<|Zp Y V<|Zh 0 I0 V rfl C6 Y<|Zl FA Y ?_;refine Zm Y<|BX (Bt B6 An Y Y A1)<|Ze (BR (by_:=40) (sz:=5) B6 (V:Tryz.prog.info? 83=some Tryz.t83) V rfl V rfl Y (Bf 5 _) Y (Jv K k _ ek) Wo Wo (by exact fun u hu=>CU qs u (On hu)) A1 A1) ?_;rintro _ _ ⟨sa,X,rfl⟩;obtain ⟨ga,ca,rfl⟩:=X.form;refine Zm Y<|Ze (BR (by_:=40) (sz:=5) B6 (V:Tryz.prog.info? 83=some Tryz.t83) V rfl V rfl Y (X) Y (Ux 5 none 0) Wo Wo B0 A1 A1) ?_;rintro _ _ ⟨sb,Z,rfl⟩;obtain ⟨gb,cb,rfl⟩:=Z.form;refine Zm Y<|Ze (BR (by_:=40) (sz:=5) B6 (V:Tryz.prog.info? 83=some Tryz.t83) V rfl V rfl Y (Z) Y (Y9 (Jw K k (qs.length -k) (cu -k) A1) 1 (qs.length -k -1) _ A1 A1) Wo Wo (by exact fun u hu=>CU qs u (ID (ID hu))) A1 A1) ?_;rintro _ _ ⟨sc,af,rfl⟩;have W:=BS af (n':=(EI qs x).length) (xs':=Af (EI qs x)) (by rw [J,XB B,AM G,B7,B7,C1,C2,C2];simp only [DH,J1];omega) (by rw [J,XB B,AM G,Bh,Bh,<-EB,<-Dh (qs.drop k) 1,<-Dh];rfl)
   obtain ⟨gc,cc,rfl⟩:=af.form;refine AG Y<|Zn [0,3,11,18] ?_;refine Zx<|Zg<|Zm Y<|Zm Y<|Zp Y V<|Zh 0 I0 V rfl C6 Y<|Xe (Zs C6 Y Y V) ?_;refine Z0<|A8<|Zx<|Zg<|Zm Y<|Ya (n:=1) Y Y<|AG Y<|Zn [11,0,3] ?_;refine Ab (e':=[(11,_)]) (by exact ⟨i+1,_,_,rfl,⟨by omega,by rw [EL rs cs i x O,<-ax];exact W⟩,rfl,rfl⟩)
  refine AC<|Zx<|A0<|A3 Y<|A0<|Zo Wh (Pa #[_,_,_,_,_,_,_,_,_,_] Ft C3 Y) ?_;refine Xr [_] Y call80 Y V (SV x) ?_;refine Zm Y<|Zd Y V<|Zd Y V<|Ze (Al DS #[_,_,_,_,_])<|AD fun xb=>Xe (Xw An x.after.A29) ?_;refine AG Y<|Zn [0,3,11,13,14,15,16,17] ?_;refine Zx<|Zq<|A0<|Zm Y<|A4<|AX Y (fun B=>?_) (fun B=>?_)
  ·
   refine Zg<|Zo Wh (Pa #[_,_,_,_,_] CI An Y) ?_;refine Ze (Aj (vs:=[_]) (cs:=[_,_,_,_,_]) B6 An DS Y V rfl V rfl V)<|AD fun gb=>A3 Y<|A0<|A3 Y<|Zq<|BV<|Zg<|Zm Y<|Zm Y<|Zp Y V<|Zh 0 I0 V rfl C6 Y<|Zl FA Y ?_;refine Zm Y<|BX (Bt B6 An Y Y A1)<|Ze (BR (by_:=40) (sz:=5) B6 (V:Tryz.prog.info? 83=some Tryz.t83) V rfl V rfl Y (Bf 5 _) Y (Jv K k _ ek) Wo Wo (by exact fun u hu=>CU qs u (On hu)) A1 A1) ?_;rintro _ _ ⟨sa,X,rfl⟩;obtain ⟨ga,ca,rfl⟩:=X.form;refine Zm Y<|Ze (BR (by_:=40) (sz:=5) B6 (V:Tryz.prog.info? 83=some Tryz.t83) V rfl V rfl Y (X) Y (DC 5 gb 1 1 83 (0,0) (Af [x.after]) V) Wo Wo (by exact CU _) A1 A1) ?_;rintro _ _ ⟨sb,Z,rfl⟩;obtain ⟨gb,cb,rfl⟩:=Z.form;refine Zm Y<|Ze (BR (by_:=40) (sz:=5) B6 (V:Tryz.prog.info? 83=some Tryz.t83) V rfl V rfl Y (Z) Y (Jw K k (qs.length -k) _ A1) Wo Wo (by exact fun u hu=>CU qs u (ID hu)) A1 A1) ?_;rintro _ _ ⟨sc,af,rfl⟩;have W:=BS af (n':=(EI qs x).length) (xs':=Af (EI qs x)) (by rw [J,XA B,AK (by rw [G];decide),B7,B7,C1,C2,C2];simp only [DH,J1];omega) (by rw [J,XA B,AK (by rw [G];decide),Bh,Bh,<-EB,<-Dh (qs.drop k) 0,<-Dh,eM,Pr];rw [Ky B];rfl)
   obtain ⟨gc,cc,rfl⟩:=af.form;refine AG Y<|Zn [0,3,11,18] ?_;refine Zx<|Zg<|Zm Y<|Zm Y<|Zp Y V<|Zh 0 I0 V rfl C6 Y<|Xe (Zs C6 Y Y V) ?_;refine Z0<|A8<|Zx<|Zg<|Zm Y<|Ya (n:=1) Y Y<|AG Y<|Zn [11,0,3] ?_;refine Ab (e':=[(11,_)]) (by exact ⟨i+1,_,_,rfl,⟨by omega,by rw [EL rs cs i x O,<-ax];exact W⟩,rfl,rfl⟩)
  refine BV<|AC<|Zx<|A0<|A3 Y<|Zq<|BV<|Zg<|Zm Y<|Zm Y<|Zp Y V<|Zh 0 I0 V rfl C6 Y<|Zl FA Y ?_;refine Zm Y<|BX (Bt B6 An Y Y A1)<|Ze (BR (by_:=40) (sz:=5) B6 (V:Tryz.prog.info? 83=some Tryz.t83) V rfl V rfl Y (Bf 5 _) Y (Jv K k _ ek) Wo Wo (by exact fun u hu=>CU qs u (On hu)) A1 A1) ?_;rintro _ _ ⟨sa,X,rfl⟩;obtain ⟨ga,ca,rfl⟩:=X.form;refine Zm Y<|Ze (BR (by_:=40) (sz:=5) B6 (V:Tryz.prog.info? 83=some Tryz.t83) V rfl V rfl Y (X) Y (Ux 5 none 0) Wo Wo B0 A1 A1) ?_;rintro _ _ ⟨sb,Z,rfl⟩;obtain ⟨gb,cb,rfl⟩:=Z.form;refine Zm Y<|Ze (BR (by_:=40) (sz:=5) B6 (V:Tryz.prog.info? 83=some Tryz.t83) V rfl V rfl Y (Z) Y (Jw K k (qs.length -k) _ A1) Wo Wo (by exact fun u hu=>CU qs u (ID hu)) A1 A1) ?_;rintro _ _ ⟨sc,af,rfl⟩;have W:=BS af (n':=(EI qs x).length) (xs':=Af (EI qs x)) (by rw [J,XB B,AK (by rw [G];decide),B7,B7,C1,C2,C2];simp only [DH,J1];omega) (by rw [J,XB B,AK (by rw [G];decide),Bh,Bh,<-EB,<-Dh (qs.drop k) 0,<-Dh,eM,Pr];rfl)
  obtain ⟨gc,cc,rfl⟩:=af.form;refine AG Y<|Zn [0,3,11,18] ?_;refine Zx<|Zg<|Zm Y<|Zm Y<|Zp Y V<|Zh 0 I0 V rfl C6 Y<|Xe (Zs C6 Y Y V) ?_;refine Z0<|A8<|Zx<|Zg<|Zm Y<|Ya (n:=1) Y Y<|AG Y<|Zn [11,0,3] ?_;refine Ab (e':=[(11,_)]) (by exact ⟨i+1,_,_,rfl,⟨by omega,by rw [EL rs cs i x O,<-ax];exact W⟩,rfl,rfl⟩)
 have ei:i=cs.length:=by omega
 subst ei;rw [G0]at ax;refine Ay<|Zt<|Zt<|AR<|Zx<|A0<|Zm Y<|Zh 0 GS V rfl A5 Y<|Zl AE Y ?_;refine Zp Y V<|Zh 1 I0 V rfl A5 Y<|Xe (Zs A5 Y Y V) ?_;refine A4<|A0<|A3 Y<|AJ<|AP rfl fW Y (by exact .inl ⟨⟨kv,qa,I,by omega⟩,_,sw,rfl,by rw [<-ax];exact K,rfl⟩)
end Go.Proofs.YteaiajghbkenoaaGreatDoor
