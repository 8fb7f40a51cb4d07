/- The program's layer 3: ValidChange. -/
import Derived.Test.YtfhjaegddfehhaaGreatDoorLg4
set_option linter.unusedVariables false
set_option linter.unusedSimpArgs false
namespace Go.Proofs.YtfhjaegddfehhaaGreatDoor
open Go.Proofs.Tryz
open Go Go.RowKit Gw
set_option maxRecDepth 100000
attribute [local irreducible] Gw.At Gw.Nx Gw.Ops
def zH(c:Chg):Bool:=if c.had then decide c.before.ok else decide (c.o=V3.zero)
def zI(c:Chg):Bool:=if c.has then decide c.after.ok else decide (c.n=V3.zero)
theorem SC(c:Chg):BH prog 142 #[.agg c.A57,.bool c.had,.agg #[I4 c.o.a,I4 c.o.b,I4 c.o.c]] [] (.bool (zH c)):=YJ c c.had c.o
theorem SE(c:Chg):BH prog 142 #[.agg c.A57,.bool c.has,.agg #[I4 c.n.a,I4 c.n.b,I4 c.n.c]] [] (.bool (zI c)):=YJ c c.has c.n
variable{c:Chg}
theorem Kz(g:c.had≠c.has\/(c.had=true/\c.o≠c.n)):decide c.ok=(zH c&&zI c):=by
 unfold zH zI;cases h1:c.had<;>cases h2:c.has<;>simp_all [Chg.ok]
 all_goals (by_cases m:c.before.ok<;>by_cases B:c.after.ok<;>by_cases G:c.o=V3.zero<;>by_cases I:c.n=V3.zero<;>simp_all)
theorem ug(h:c.had=c.has)(h2:c.had=true->c.o=c.n):decide c.ok=false:=by
 cases h1:c.had<;>simp_all [Chg.ok]
 all_goals (rw [<-h]at*;simp_all)
set_option maxHeartbeats 4000000 in
theorem V9(c:Chg):BH prog 88 #[.agg c.A57] [] (.bool (decide c.ok)):=by
 refine Se func88 ntmps88 [0] ?_;intro u R;refine A0<|Ze (Bx #[_,_,_,_,_,_,_,_,_,_])<|AE fun K=>A3 Y<|A0<|Zh 2 B8 V rfl CH Y<|Zl DM Y<|Zh 6 B8 V rfl CH Y<|Zl DM Y<|Zv (Ki Lk Y Y)<|Zm Y<|Aj (t:=9) Y V (fun g=>?_) (fun g=>?_);·
  refine A7 Y V<|A7 Y V<|A7 Y V<|A7 Y V<|A7 Y V<|A7 Y V<|A7 Y V<|A7 Y V<|A7 Y V<|Zv (AQ Y Y)<|AG Y<|Zn [1,3] ?_;refine Zx<|A0<|Zm Y<|Zm Y<|Dx Y Wh (Pa #[_,_,_,_,_,_,_,_,_,_] Fk C1 Y) V rfl<|Yf 2 B8 V rfl CH Y<|Yl DM Y<|Yf 3 B8 V rfl D3 Y<|Dx Y Wh (Pa #[_,_,_] GS D3 Y) V rfl<|Xr [_,_,_] Y call142 Y V (SC c)<|Zv (AQ Y Y)<|Zm Y<|Af (t:=29) Y V (fun G=>?_) (fun G=>?_);·
   refine Dx Y Wh (Pa #[_,_,_,_,_,_,_,_,_,_] Fk C1 Y) V rfl<|Yf 6 B8 V rfl CH Y<|Yl DM Y<|Yf 7 B8 V rfl D3 Y<|Dx Y Wh (Pa #[_,_,_] GS D3 Y) V rfl<|Xr [_,_,_] Y call142 Y V (SE c)<|Zv (AQ Y Y)<|AG Y<|Zn [2] ?_;refine Zx<|AJ<|AO rfl dy Y (by exact ⟨by rw [Kz (.inl g),G,Tr],rfl⟩)
  refine A7 Y V<|A7 Y V<|A7 Y V<|A7 Y V<|A7 Y V<|A7 Y V<|Zv (AL Y Y)<|AG Y<|Zn [2] ?_;refine Zx<|AJ<|AO rfl dy Y (by exact ⟨by rw [Kz (.inl g),G,Bool.false_and],rfl⟩)
 refine Yf 2 B8 V rfl CH Y<|Yl DM Y<|Zf Y Y<|Af (t:=12) Y V (fun m=>?_) (fun m=>?_);·
  refine Yf 3 B8 V rfl D3 Y<|Dx Y Wh (Pa #[_,_,_] GS D3 Y) V rfl<|Yf 7 B8 V rfl D3 Y<|Dx Y Wh (Pa #[_,_,_] GS D3 Y) V rfl<|Yg (Kj A6 HP C5 AD A4 Y Y) ?_;refine Yg (AQ Y Y)<|Zv (AL Y Y)<|AG Y<|Zn [1,3] ?_;refine Zx<|A0<|Zm Y<|Zm Y<|Aj (t:=21) Y V (fun B=>?_) (fun B=>?_);·
   refine Dx Y Wh (Pa #[_,_,_,_,_,_,_,_,_,_] Fk C1 Y) V rfl<|Yf 2 B8 V rfl CH Y<|Yl DM Y<|Yf 3 B8 V rfl D3 Y<|Dx Y Wh (Pa #[_,_,_] GS D3 Y) V rfl<|Xr [_,_,_] Y call142 Y V (SC c)<|Zv (AQ Y Y)<|Zm Y<|Af (t:=29) Y V (fun I=>?_) (fun I=>?_);·
    refine Dx Y Wh (Pa #[_,_,_,_,_,_,_,_,_,_] Fk C1 Y) V rfl<|Yf 6 B8 V rfl CH Y<|Yl DM Y<|Yf 7 B8 V rfl D3 Y<|Dx Y Wh (Pa #[_,_,_] GS D3 Y) V rfl<|Xr [_,_,_] Y call142 Y V (SE c)<|Zv (AQ Y Y)<|AG Y<|Zn [2] ?_;refine Zx<|AJ<|AO rfl dy Y (by exact ⟨by rw [Kz (.inr ⟨m,B⟩),I,Tr],rfl⟩)
   refine A7 Y V<|A7 Y V<|A7 Y V<|A7 Y V<|A7 Y V<|A7 Y V<|Zv (AL Y Y)<|AG Y<|Zn [2] ?_;refine Zx<|AJ<|AO rfl dy Y (by exact ⟨by rw [Kz (.inr ⟨m,B⟩),I,Bool.false_and],rfl⟩)
  refine A7 Y V<|A7 Y V<|A7 Y V<|A7 Y V<|A7 Y V<|A7 Y V<|Zv (AL Y Y)<|Zm Y<|A7 Y V<|A7 Y V<|A7 Y V<|A7 Y V<|A7 Y V<|A7 Y V<|Zv (AL Y Y)<|AG Y<|Zn [2] ?_;refine Zx<|AJ<|AO rfl dy Y (by exact ⟨by rw [ug (HI.1 g) (fun _=>HI.1 B)],rfl⟩)
 refine A7 Y V<|A7 Y V<|A7 Y V<|A7 Y V<|A7 Y V<|Yg (AL Y Y)<|Zv (AL Y Y)<|AG Y<|Zn [1,3] ?_;refine Zx<|A0<|Zm Y<|Zm Y<|A7 Y V<|A7 Y V<|A7 Y V<|A7 Y V<|A7 Y V<|A7 Y V<|Zv (AL Y Y)<|Zm Y<|A7 Y V<|A7 Y V<|A7 Y V<|A7 Y V<|A7 Y V<|A7 Y V<|Zv (AL Y Y)<|AG Y<|Zn [2] ?_;refine Zx<|AJ<|AO rfl dy Y (by exact ⟨by rw [ug (HI.1 g) (fun J=>by rw [m]at J;cases J)],rfl⟩)
theorem tz(h:c.ok):0<=c.t:=by
 obtain ⟨m,h2,_,_⟩:=h;have G:c.had=true->c.before.ok:=fun g=>cA fun hn=>h2 (.inl ⟨g,hn⟩)
 have B:c.has=true->c.after.ok:=fun g=>cA fun hn=>h2 (.inr ⟨g,hn⟩);cases e1:c.had with
 |true=>have:=(G e1).2.1.1;rw [PU e1]at this;exact this
 |false=>
  cases e2:c.has with
  |true=>have:=(B e2).2.1.1;rw [L9 e2]at this;exact this
  |false=>exact absurd (.inl ⟨by simp [e1],by simp [e2]⟩) m
variable{cs:List Chg}{i:Nat}{x:Chg}
theorem XM{p:Int}{y:Chg}(m:i=0/\y.t=-1\/0<i/\cs[i -1]?=some y)(h:EJ p cs)(hx:cs[i]?=some x):y.lt x:=by
 rcases m with⟨h0,g⟩|⟨h0,g⟩
 · left;have:=tz (h.all i x hx);omega
 · exact h.ord (i -1) y x g (by rw [show i -1+1=i by omega];exact hx)
theorem jJ{y:Chg}(m:i=0/\y.t=-1\/0<i/\cs[i -1]?=some y)(h:y.lt x):i=0\/∃y,cs[i -1]?=some y/\y.lt x:=by
 rcases m with⟨h0,g⟩|⟨h0,g⟩
 · exact .inl h0
 · exact .inr ⟨y,g,h⟩
theorem Pp(p:Int)(q:Option Addr)(cap:Nat)(cs:List Chg)(M:List AA)(hO:Ck M (.slice q cs.length cap) cs):BH prog 39 #[.agg #[I4 p,.slice q cs.length cap]] [M] (.bool (decide (EJ p cs))):=by
 have ax:=mL;obtain ⟨p9,af,e9,bg,hg⟩:=hO;injection e9 with e91 e92 e93
 subst e91 e93;refine Se func39 ntmps39 [0] ?_;intro u R;refine A0<|Ze (Bx #[_,_])<|AE fun b1=>A3 Y<|Zq<|A0<|Zh 0 G3 V rfl A4 Y<|Zl AD Y<|Ze (Ah (vs:=[_]) (cs:=[_]) Cl A4 H4 Y V rfl V rfl V)<|AE fun b2=>Xr [_,_,_] Y call87 Y V (Kb _ 0 1 _ _ _ _ _ p V)<|Zv (D7 Y)<|Zm Y<|Aj (t:=11) Y V (fun hp=>?_) (fun hp=>?_);·
  refine A7 Y V<|A7 Y V<|A7 Y V<|A7 Y V<|A7 Y V<|A7 Y V<|Zv (AQ Y Y)<|Z0<|Zn [1,18] ?_;refine Zx<|CW Y<|A0<|A3 Y<|AJ<|Zt<|AO rfl e5 Y (by exact ⟨by rw [CN (fun h9:EJ p cs=>by have G:=h9.pos;have I:=h9.len;exact hp G)],rfl⟩)
 refine Yf 1 G3 V rfl IH Y<|Yl LL Y<|Yg (AY G1 Y)<|Ze (Ah (vs:=[_]) (cs:=[_]) Cl A4 H4 Y V rfl V rfl V)<|AE fun b3=>Xr [_,_,_] Y call87 Y V (Kb _ 0 1 _ _ _ _ _ (cs.length:Int) V)<|Yg (D7 Y)<|Zv (AL Y Y)<|Z0<|Zn [1,18] ?_;refine Zx<|Aq Y (fun hl=>?_) (fun hl=>?_);·
  refine A0<|A3 Y<|AJ<|Zt<|AO rfl e5 Y (by exact ⟨by rw [CN (fun h9:EJ p cs=>by have G:=h9.pos;have I:=h9.len;(apply hl;omega))],rfl⟩)
 refine AC<|Zx<|A0<|Zv (BM (vs:=[(0,_)]) (cs:=#[_,_,_,_,_,_,_,_,_,_]) Y (AZ (pl:=#[(0,1),(1,1),(2,1),(3,3),(6,1),(7,3)]) Ln B8 (fun _=>by kernel_rfl) V))<|Ze (Al Ln #[_,_,_,_,_,_,_,_,_,_])<|AE fun lb=>Xe (BL C1 Y Y (by(simp [Value.oneCell',Value.cells];done)) Wu AN E6 Wn (by exact BB _))<|A5<|Zq<|A0<|Zh 1 G3 rfl rfl IH Y<|Zl LL Y<|Zv (AY G1 Y)<|Zm Y<|A5<|AR<|Zb [23,3,21,22] ?_;refine BA (e0:=[(23,_)]) (fun m e H=>∃(i:Nat) (y:Chg),m=cs.length -i/\(i<=cs.length/\(∀(j:Nat) (c:Chg),j<i->cs[j]?=some c->c.ok)/\(∀(j:Nat) (b c:Chg),j+1<i->cs[j]?=some b->cs[j+1]?=some c->b.lt c)/\(i=0/\y.t=-1\/0<i/\cs[i -1]?=some y))/\e=[(23,I4 (i:Int))]/\H=[[(lb,.cells y.A57 62 (0,0))]]) (by exact ⟨0,⟨-1,0,false,V3.zero,false,V3.zero⟩,V,⟨by omega,by intro j c hj;omega,by intro j b c hj;omega,.inl ⟨V,V⟩⟩,V,V⟩) Wp ?_;rintro _ _ _ ⟨i,y,rfl,⟨hi,J,K,B⟩,rfl,rfl⟩;refine A0<|Zv (Au Y Y)<|A5<|Zq<|Aq Y (fun U=>?_) (fun U=>?_);·
  obtain ⟨x,hx⟩:∃x,cs[i]?=some x:=⟨_,B3 U⟩;obtain ⟨g,off,cur,T,zz,rfl,hm,bn,W⟩:=hg i x hx;refine AC<|Zx<|Zq<|AR<|A0<|Bb (Ac G1 C1 Y Y A1)<|CS (cs:=[(g,.cells cur T zz)]) (by simp [hm]) (A9 (cs:=x.A57) Fk C1 Y A1 W) V rfl<|Ze (Al Ln #[_,_,_,_,_,_,_,_,_,_])<|AE fun b5=>Xe (Xw C1 _)<|A5<|Zq<|A0<|Zo Wh (Pa #[_,_,_,_,_,_,_,_,_,_] Fk C1 Y)<|Xr [_] Y call88 Y V (V9 x)<|Zv (D7 Y)<|Zm Y<|Aj (t:=30) Y V (fun O=>?_) (fun O=>?_);·
   refine A7 Y V<|A7 Y V<|A7 Y V<|A7 Y V<|A7 Y V<|Zv (AQ Y Y)<|Zm Y<|A7 Y V<|A7 Y V<|A7 Y V<|A7 Y V<|A7 Y V<|A7 Y V<|A7 Y V<|A7 Y V<|A7 Y V<|A7 Y V<|A7 Y V<|A7 Y V<|Zv (AQ Y Y)<|Z0<|Zn [3,5,21,22,23,50] ?_;refine Zx<|CW Y<|A0<|A3 Y<|AJ<|Zt<|Ad<|Zt<|Zt<|Ad<|Zt<|AO rfl e5 Y (by exact ⟨by rw [CN (fun h9:EJ p cs=>by have G:=XM B h9 hx;have I:=h9.all i x hx;unfold Chg.lt at G;exact O I)],rfl⟩)
  refine Yf 0 B8 V rfl A4 Y<|Yl AD Y<|Yf 0 B8 V rfl A4 Y<|Yl AD Y<|Yg (Dv Y Y)<|Zv (AL Y Y)<|Zm Y<|Aj (t:=37) Y V (fun X=>?_) (fun X=>?_);·
   refine A7 Y V<|A7 Y V<|A7 Y V<|A7 Y V<|A7 Y V<|A7 Y V<|A7 Y V<|A7 Y V<|A7 Y V<|A7 Y V<|A7 Y V<|A7 Y V<|Zv (AQ Y Y)<|Z0<|Zn [3,5,21,22,23,50] ?_;refine Zx<|CW Y<|A0<|A3 Y<|AJ<|Zt<|Ad<|Zt<|Zt<|Ad<|Zt<|AO rfl e5 Y (by exact ⟨by rw [CN (fun h9:EJ p cs=>by have G:=XM B h9 hx;have I:=h9.all i x hx;unfold Chg.lt at G;omega)],rfl⟩)
  refine Yf 0 B8 V rfl A4 Y<|Yl AD Y<|Yf 0 B8 V rfl A4 Y<|Yl AD Y<|Yg (CP Y Y)<|Zf Y Y<|Aj (t:=43) Y V (fun Z=>?_) (fun Z=>?_);·
   refine Yf 1 B8 V rfl A4 Y<|Yl AD Y<|Yf 1 B8 V rfl A4 Y<|Yl AD Y<|Yg (NM Y Y)<|Yg (AQ Y Y)<|Zv (AL Y Y)<|Z0<|Zn [3,5,21,22,23,50] ?_;refine Zx<|Aq Y (fun ho=>?_) (fun ho=>?_);·
    refine A0<|A3 Y<|AJ<|Zt<|Ad<|Zt<|Zt<|Ad<|Zt<|AO rfl e5 Y (by exact ⟨by rw [CN (fun h9:EJ p cs=>by have G:=XM B h9 hx;have I:=h9.all i x hx;unfold Chg.lt at G;omega)],rfl⟩)
   refine AC<|Zx<|Zg<|Zo Wh (Pa x.A57 Fk C1 Y)<|Xe (Xw C1 _)<|Z0<|A8<|Zx<|Zg<|Ya (n:=1) Y Y<|Zm Y<|Z0<|Zn [23,3,21,22] ?_;refine Ab (e':=[(23,_)]) (by exact ⟨i+1,x,V,⟨by omega,MQ J hx (HI.1 O),Lt K hx (jJ B (by unfold Chg.lt;omega)),.inr ⟨by omega,hx⟩⟩,V,V⟩)
  refine A7 Y V<|A7 Y V<|A7 Y V<|A7 Y V<|A7 Y V<|Yg (AL Y Y)<|Zv (AL Y Y)<|Z0<|Zn [3,5,21,22,23,50] ?_;refine Zx<|DI Y<|AC<|Zx<|Zg<|Zo Wh (Pa x.A57 Fk C1 Y)<|Xe (Xw C1 _)<|Z0<|A8<|Zx<|Zg<|Ya (n:=1) Y Y<|Zm Y<|Z0<|Zn [23,3,21,22] ?_;refine Ab (e':=[(23,_)]) (by exact ⟨i+1,x,V,⟨by omega,MQ J hx (HI.1 O),Lt K hx (jJ B (by unfold Chg.lt;omega)),.inr ⟨by omega,hx⟩⟩,V,V⟩)
 refine Ay<|Zt<|Zt<|AU<|Zx<|A0<|A3 Y<|AJ<|AO rfl e5 Y (by exact ⟨by rw [Cp (⟨by omega,by omega,fun j c hc=>J j c (by have:=(BE.1 hc).1;omega) hc,fun j b c hb hc=>K j b c (by have:=(BE.1 hc).1;omega) hb hc⟩:EJ p cs)],rfl⟩)
def Hw(ls:List Int):List UInt8:=ls.flatMap U2
theorem Hu:∀(ls:List Int),(∀n∈ls,-4611686018427387903<=n/\n<=4611686018427387903)->(Hw ls).length<=ls.length*9
 |[],_=>by simp [Hw]
 |n::ls,h=>by
  have B:=Hu ls (fun m g=>h m (by simp [g]));have h2:=PP n (h n B0).1 (h n B0).2
  unfold Hw at*;rw [HL,B7,DG];omega
theorem Yc(ls:List Int)(n:Int):Hw (ls++[n])=Hw ls++U2 n:=by simp [Hw]
theorem pG(g off cap:Nat)(cur:Array Value)(T:TypeId)(z:Nat×Nat)(ls:List Int)(I:LB cur off ls)(hn:ls.length<=1073741824)(K:∀n∈ls,-4611686018427387903<=n/\n<=4611686018427387903):
 BH prog 234 #[.slice (some ⟨g,off,none⟩) ls.length cap] [[(g,.cells cur T z)]] (.string (str (Hw ls))):=by
 have W:=mL;refine Se func234 ntmps234 [0] ?_;intro u R;refine A0<|A3 Y<|A0<|A3 Y<|Zq<|A0<|Zm Y<|Zv (AY Cl Y)<|Zm Y<|A5<|AR<|Zb [3,10,8,9] ?_;refine BA (e0:=[(3,_),(10,_)]) (fun m e H=>∃(i:Nat),m=ls.length -i/\(i<=ls.length)/\e=[(3,.string (str (Hw (ls.take i)))),(10,I4 (i:Int))]/\H=[]) (by exact ⟨0,V,C0 _,V,V⟩) Wp ?_;rintro _ _ _ ⟨i,rfl,hi,rfl,rfl⟩;refine A0<|Zv (Au Y Y)<|A5<|Zq<|Aq Y (fun G=>?_) (fun G=>?_);·
  obtain ⟨x,hx⟩:∃x,ls[i]?=some x:=⟨_,B3 G⟩;have B:=K x (DE hx)
  have J:ls.take (i+1)=ls.take i++[x]:=by rw [PF,hx];rfl
  have X:=Hu (ls.take i) (fun m U=>K m (P0 U));have Z:(ls.take i).length<=i:=List.length_take_le ..
  have O:=PP x B.1 B.2;refine AC<|Zx<|Zq<|AR<|A0<|Bb (CB Cl A4 Y Y A1)<|Zl AD Y (hv:=by exact I i x hx)<|A3 Y<|A0<|Zm Y<|Xr [_] Y call186 Y rfl (Qc x B.1 B.2)<|Zm Y<|Zd Y rfl<|Zd Y rfl<|Za Y<|A3 Y<|Zg<|Zm Y<|Zm Y<|Bb (Mk Y Y (by rw [Gq,Gq];omega))<|AG Y<|Zn [3,8,9,10] ?_;refine A8<|Zx<|Zg<|Ya (n:=1) Y Y<|Zm Y<|Z0<|Zn [3,10,8,9] ?_;refine Ab (e':=[(3,_),(10,_)]) (by exact ⟨i+1,rfl,by omega,by rw [J,Yc,<-RJ],rfl⟩)
 refine Ay<|Zt<|Zt<|AU<|Zx<|A0<|Zm Y<|A3 Y<|AJ<|AO rfl results234 Y (by exact ⟨by rw [I2 A1],rfl⟩)
structure Iw where
 p:Int
 ch:List UInt8
 st:List UInt8
variable{sz:Nat}{e:TypeId}{v:Value}{xs:List Value}{s:List AA}
theorem JE{k:Nat}(h:Bc sz e v k xs s)(i:Nat)(hi:i<k):∃g cap cur z,v=I6 g k cap/\s=[(g,.cells cur e z)]/\i*sz+sz<=cur.size/\(cur.extract (i*sz) (i*sz+sz)).toList=(xs.drop (i*sz)).take sz:=by
 obtain ⟨K,⟨_,h0,_⟩|⟨g,cap,cur,z,rfl,rfl,B,hc,G,m,J⟩⟩:=h;· omega
 · have I:i*sz+sz<=k*sz:=by
    have:=TO sz (Nat.succ_le_of_lt hi);rw [Nat.succ_mul]at this;exact this
   have h2:k*sz<=cap*sz:=TO sz B;refine ⟨g,cap,cur,z,V,V,by omega,?_⟩;rw [<-m,Array.toList_extract,r8,eh,To];congr 1;omega
def Ae(rs:List AV):List Value:=rs.flatMap (fun r=>[I4 r.t,I4 r.k,I4 r.v.a,I4 r.v.b,I4 r.v.c])
theorem IM{α:Type}(f:α->List Value)(sz:Nat)(g:∀a,(f a).length=sz):∀(l:List α) (i:Nat) (a:α),l[i]?=some a->((l.flatMap f).drop (i*sz)).take sz=f a
 |x::l,0,a,h=>by
  injection h with h;subst h
  rw [en,Pr,HL,bm (by rw [g];exact CM _),I2 (by rw [g];exact CM _)]
 |x::l,i+1,a,h=>by
  have e1:(f x++l.flatMap f).drop sz=l.flatMap f:=by
   have m:=List.drop_left (l₁:=f x) (l₂:=l.flatMap f);rwa [g]at m
  rw [HL,Nat.succ_mul,Nat.add_comm,<-ZD,e1];exact IM f sz g l i a h
variable{rs:List AV}
theorem Pv(h:Bc 5 e v rs.length (Ae rs) s)(hn:rs.length<=maxLen):iI s v rs:=by
 obtain ⟨b,cap,rfl⟩:=h.form;refine ⟨b,cap,V,hn,fun i r G=>?_⟩;obtain ⟨g,B,cur,z,hv,rfl,I,m⟩:=JE h i (BE.1 G).1;injection hv with hv1 hv2 hv3
 refine ⟨g,0,cur,e,z,hv1,BT.2 V,by omega,?_⟩;rw [D0];apply HD.1;rw [m];exact IM _ 5 (fun _=>rfl) rs i r G
def Cj(cs:List Chg):List Value:=cs.flatMap (fun c=>[I4 c.t,I4 c.k,.bool c.had,I4 c.o.a,I4 c.o.b,I4 c.o.c,.bool c.has,I4 c.n.a,I4 c.n.b,I4 c.n.c])
theorem QQ{rs:List Chg}(h:Bc 10 e v rs.length (Cj rs) s)(hn:rs.length<=maxLen):Ck s v rs:=by
 obtain ⟨b,cap,rfl⟩:=h.form;refine ⟨b,cap,V,hn,fun i r G=>?_⟩;obtain ⟨g,B,cur,z,hv,rfl,I,m⟩:=JE h i (BE.1 G).1;injection hv with hv1 hv2 hv3
 refine ⟨g,0,cur,e,z,hv1,BT.2 V,by omega,?_⟩;rw [D0];apply HD.1;rw [m];exact IM _ 10 (fun _=>rfl) rs i r G
theorem Lp:∀(rs:List AV) (t k:Int),BQ rs->∃A B,rs=A++B/\A.length=E9 rs t k/\(∀r∈A,r.lt2 t k)/\(∀r∈B,¬r.lt2 t k)
 |[],t,k,_=>⟨[],[],rfl,rfl,by simp,by simp⟩
 |r::rs,t,k,hs=>by
  have g:=PC.1 hs;by_cases h:r.lt2 t k
  · obtain ⟨A,B,m,h2,G,I⟩:=Lp rs t k g.2
    refine ⟨r::A,B,by rw [m];rfl,?_,?_,I⟩
    · unfold E9 at*
      rw [PA,AM (by simpa using h),DG,DG,h2]
    · intro x hx
      rcases D4.1 hx with rfl|hx
      · exact h
      · exact G x hx
  · refine ⟨[],r::rs,rfl,?_,by simp,?_⟩
    · unfold E9
      rw [PA,AK (by simpa using h)]
    · intro x hx hc
      rcases D4.1 hx with rfl|hx
      · exact h hc
      · exact h (QG (g.1 x hx) hc)
variable{k t:Int}
theorem Vq{r:AV}(h:r.is t k):¬r.lt2 t k:=by unfold AV.is AV.lt2 at*;omega
theorem KM{r:AV}(m:BQ rs)(K:r∈rs)(h:r.is t k):Fq rs t k=(r,true):=by
 obtain ⟨A,B,g,h2,O,U⟩:=Lp rs t k m;have J:r∈B:=by
  rw [g]at K;rcases B9.1 K with h9|h9
  · exact absurd (O r h9) (Vq h)
  · exact h9
 cases B with
 |nil=>cases J
 |cons b B=>
  have X:b=r:=by
   rcases D4.1 J with h9|h9
   · exact h9.symm
   · exfalso
     have G:BQ (b::B):=by rw [g]at m;exact (P2.1 m).2.1
     have I:=(PC.1 G).1 r h9;have W:=U b B0
     unfold AV.is at h;rw [h.1,h.2]at I;exact W I
  subst X;have Z:rs[E9 rs t k]?=some b:=by rw [<-h2,g,SM (CM _),W4];rfl
  unfold Fq;rw [Z];simp only;rw [AM h]
theorem QJ(h:∀r∈rs,¬r.is t k):Fq rs t k=(AV.zero,false):=by
 unfold Fq;split
 · rename_i r hr
   rw [AK (h r (DE hr))]
 · rfl
theorem JL(h:(Fq rs t k).2=true):∃r∈rs,r.is t k/\rs[E9 rs t k]?=some r/\Fq rs t k=(r,true):=by
 unfold Fq at*;split at h
 · rename_i r hr
   split at h
   · rename_i hi
     exact ⟨r,DE hr,hi,hr,by rw [AM hi]⟩
   · cases h
 · cases h
def GR(rs:List AV)(c:Chg):Prop:=(Fq rs c.t c.k).2=c.had/\((Fq rs c.t c.k).2=true->(Fq rs c.t c.k).1.v=c.o)
def Nn(c:Chg):List AV:=if c.has then [⟨c.t,c.k,c.n⟩]else []
def EK(rs:List AV)(c:Chg):List AV:=rs.take (E9 rs c.t c.k)++Nn c++(rs.drop (E9 rs c.t c.k)).drop (if c.had then 1 else 0)
theorem M3{x:AV}:x∈Nn c↔c.has=true/\x=⟨c.t,c.k,c.n⟩:=by
 unfold Nn;cases c.has<;>simp
theorem Q3(J:BQ rs)(hf:GR rs c):∃A B,EK rs c=A++Nn c++B/\(∀x,x∈rs↔x∈A\/x∈B\/(x∈rs/\x.is c.t c.k))/\BQ A/\BQ B/\(∀r∈A,r.lt2 c.t c.k)/\(∀r∈B,c.t<r.t\/c.t=r.t/\c.k<r.k)/\rs.length=A.length+B.length+(if c.had then 1 else 0):=by
 obtain ⟨A,B,g,h2,h3,h4⟩:=Lp rs c.t c.k J;have O:BQ A:=by rw [g]at J;exact (P2.1 J).1
 have U:BQ B:=by rw [g]at J;exact (P2.1 J).2.1
 have af:rs.take (E9 rs c.t c.k)=A:=by rw [<-h2,g,HM rfl]
 have X:rs.drop (E9 rs c.t c.k)=B:=by rw [<-h2,g,W3 rfl]
 unfold EK;rw [af,X];have G:∀x∈B,¬x.is c.t c.k->c.t<x.t\/c.t=x.t/\c.k<x.k:=fun x hx hn=>by
  have I:=h4 x hx;unfold AV.lt2 at I;unfold AV.is at hn;omega
 cases hh:c.had with
 |false=>
  have Z:∀r∈rs,¬r.is c.t c.k:=fun r K hi=>by
   have I:=hf.1;rw [KM J K hi,hh]at I;cases I
  refine ⟨A,B,by simp,fun x=>?_,O,U,h3,fun r K=>G r K (Z r (by rw [g];exact G2 _ K)),by rw [g];simp⟩;rw [g,B9];constructor
  · rintro (h|h)
    · exact .inl h
    · exact .inr (.inl h)
  · rintro (h|h|⟨h,_⟩)
    · exact .inl h
    · exact .inr h
    · exact h
 |true=>
  obtain ⟨r,K,hi,hp,hg⟩:=JL (by rw [hf.1,hh]:(Fq rs c.t c.k).2=true);have W:B[0]?=some r:=by rw [<-h2,g,SM (CM _),W4]at hp;exact hp
  cases B with
  |nil=>cases W
  |cons b B=>
   injection W with W
   subst W;have m:=PC.1 U
   refine ⟨A,B,by simp,fun x=>?_,O,m.2,h3,fun x hx=>?_,by rw [g];simp;omega⟩
   · constructor
     · intro hx
       have ax:=hx;rw [g]at hx;rcases B9.1 hx with h|h
       · exact .inl h
       · rcases D4.1 h with rfl|h
         · exact .inr (.inr ⟨ax,hi⟩)
         · exact .inr (.inl h)
     · rintro (h|h|⟨h,_⟩)
       · rw [g];exact Dg _ h
       · rw [g];exact G2 _ (EV _ h)
       · exact h
   · have I:=m.1 x hx
     unfold AV.lt2 at I;unfold AV.is at hi;omega
theorem G7(U:BQ rs)(O:GR rs c)(x:AV):x∈EK rs c↔(x∈rs/\¬x.is c.t c.k)\/(c.has=true/\x=⟨c.t,c.k,c.n⟩):=by
 obtain ⟨A,B,I,h2,_,_,J,K,_⟩:=Q3 U O;rw [I,B9,B9,M3];have m:∀x∈A,¬x.is c.t c.k:=fun x hx hi=>Vq hi (J x hx)
 have G:∀x∈B,¬x.is c.t c.k:=fun x hx hi=>by have g:=K x hx;unfold AV.is at hi;omega
 constructor
 · rintro ((h|h)|h)
   · exact .inl ⟨(h2 x).2 (.inl h),m x h⟩
   · exact .inr h
   · exact .inl ⟨(h2 x).2 (.inr (.inl h)),G x h⟩
 · rintro (⟨h,hn⟩|h)
   · rcases (h2 x).1 h with g|g|⟨_,g⟩
     · exact .inl (.inl g)
     · exact .inr g
     · exact absurd g hn
   · exact .inl (.inr h)
theorem JD(X:BQ rs)(W:GR rs c):BQ (EK rs c):=by
 obtain ⟨A,B,K,_,O,U,I,J,_⟩:=Q3 X W;rw [K];have m:∀a b:AV,a.lt2 c.t c.k->(c.t<b.t\/c.t=b.t/\c.k<b.k)->a.lt2 b.t b.k:=fun a b g G=>by unfold AV.lt2 at*;omega
 refine P2.2 ⟨P2.2 ⟨O,?_,?_⟩,U,?_⟩;· unfold Nn;split<;>simp
 · intro a g b G
   obtain ⟨_,rfl⟩:=M3.1 G;exact I a g
 · intro a g b G
   rcases B9.1 g with g|g
   · exact m a b (I a g) (J b G)
   · obtain ⟨_,rfl⟩:=M3.1 g
     have:=J b G;unfold AV.lt2;simp only;omega
theorem xG(I:BQ rs)(G:GR rs c):((EK rs c).length:Int)=rs.length+(if c.has then 1 else 0) -(if c.had then 1 else 0):=by
 obtain ⟨A,B,g,_,_,_,_,_,m⟩:=Q3 I G;rw [g,m];unfold Nn;cases c.has<;>cases c.had<;>simp<;>omega
theorem xm(B:BQ rs)(G:GR rs c)(I:¬(c.t=t/\c.k=k)):Fq (EK rs c) t k=Fq rs t k:=by
 cases hg:(Fq rs t k).2 with
 |true=>
  obtain ⟨r,m,hi,_,J⟩:=JL hg;rw [J];exact KM (JD B G) ((G7 B G r).2 (.inl ⟨m,fun h=>by unfold AV.is at h hi;omega⟩)) hi
 |false=>
  have g:∀r∈rs,¬r.is t k:=fun r m hi=>by rw [KM B m hi]at hg;cases hg
  rw [QJ g];refine QJ fun r m hi=>?_;rcases (G7 B G r).1 m with⟨h,_⟩|⟨_,rfl⟩
  · exact g r h hi
  · exact I hi
def DN(rs:List AV)(cs:List Chg):List AV:=cs.foldl EK rs
theorem EO(rs:List AV)(cs:List Chg)(i:Nat)(c:Chg)(h:cs[i]?=some c):DN rs (cs.take (i+1))=EK (DN rs (cs.take i)) c:=by
 unfold DN;rw [PF,h,Z3];rfl
def yQ(cs:List Chg):Prop:=∀(i j:Nat) (b c:Chg),i<j->cs[i]?=some b->cs[j]?=some c->b.lt c
theorem nX{a b:Chg}(h:a.lt b)(h2:b.lt c):a.lt c:=by unfold Chg.lt at*;omega
theorem UC(h:∀(i:Nat) (b c:Chg),cs[i]?=some b->cs[i+1]?=some c->b.lt c):yQ cs:=by
 intro i j b c g m hc;obtain ⟨d,rfl⟩:∃d,j=i+1+d:=⟨j -(i+1),by omega⟩;clear g;induction d generalizing c with
 |zero=>exact h i b c m hc
 |succ d ih=>
  obtain ⟨x,hx⟩:∃x,cs[i+1+d]?=some x:=by
   have:=(BE.1 hc).1;exact ⟨_,B3 A1⟩
  exact nX (ih x hx) (h (i+1+d) x c hx hc)
theorem KN{rs:List AV}{cs:List Chg}(J:BQ rs)(G:yQ cs)(I:∀c∈cs,GR rs c):∀i,i<=cs.length->BQ (DN rs (cs.take i))/\∀(j:Nat) (c:Chg),i<=j->cs[j]?=some c->GR (DN rs (cs.take i)) c
 |0,_=>⟨J,fun j c _ hc=>I c (DE hc)⟩
 |i+1,hi=>by
  obtain ⟨B,h2⟩:=KN J G I i A1;obtain ⟨x,hx⟩:∃x,cs[i]?=some x:=⟨_,B3 A1⟩;rw [EO rs cs i x hx];have g:=h2 i x (CM _) hx
  refine ⟨JD B g,fun j c O hc=>?_⟩;have m:=G i j x c A1 hx hc
  have K:=h2 j c A1 hc;unfold GR at*;rw [xm B g (by unfold Chg.lt at m;omega)];exact K
def NG(c:Chg):Int:=(if c.has then 1 else 0) -(if c.had then 1 else 0)
def Gr(rs:List AV)(cs:List Chg):Int:=cs.foldl (fun n c=>n+NG c) (rs.length:Int)
theorem Ho(rs:List AV)(cs:List Chg)(i:Nat)(c:Chg)(h:cs[i]?=some c):Gr rs (cs.take (i+1))=Gr rs (cs.take i)+NG c:=by
 unfold Gr;rw [PF,h,Z3];rfl
theorem oo(c:Chg):-1<=NG c/\NG c<=1:=by unfold NG;split<;>split<;>omega
theorem OW(rs:List AV)(cs:List Chg):∀i,(rs.length:Int) -i<=Gr rs (cs.take i)/\Gr rs (cs.take i)<=rs.length+i
 |0=>by unfold Gr;simp
 |i+1=>by
  have m:=OW rs cs i;cases h:cs[i]?with
  |none=>rw [PF,h];simp only [Option.toList,DB];omega
  |some c=>have g:=oo c;rw [Ho rs cs i c h];omega
theorem Nq{rs:List AV}{cs:List Chg}(B:BQ rs)(g:yQ cs)(m:∀c∈cs,GR rs c):∀i,i<=cs.length->((DN rs (cs.take i)).length:Int)=Gr rs (cs.take i)
 |0,_=>rfl
 |i+1,hi=>by
  obtain ⟨x,hx⟩:∃x,cs[i]?=some x:=⟨_,B3 A1⟩;have I:=Nq B g m i A1
  obtain ⟨G,h2⟩:=KN B g m i A1;rw [EO rs cs i x hx,Ho rs cs i x hx,xG G (h2 i x (CM _) hx),I];unfold NG;omega
structure KU(rs:List AV)(p rp:Int)(cs:List Chg):Prop where
 ok:EJ rp cs
 pos:rp=p+1
 fit:∀c∈cs,GR rs c
 size:Gr rs cs<=2000
theorem Ib(h:∀c∈cs.take i,GR rs c)(hx:cs[i]?=some x)(g:GR rs x):∀c∈cs.take (i+1),GR rs c:=by
 rw [PF,hx];intro c hc;rcases B9.1 hc with h9|h9
 · exact h c h9
 · rw [BT.1 h9];exact g
theorem Bh(a b:List AV):Ae (a++b)=Ae a++Ae b:=by unfold Ae;rw [N6]
theorem BF:∀(rs:List AV),(Ae rs).length=rs.length*5
 |[]=>rfl
 |r::rs=>by
  have:=BF rs;unfold Ae at*;rw [HL,B7,this,DG];simp;omega
theorem EE(rs:List AV)(k:Nat):(Ae rs).take (k*5)=Ae (rs.take k):=by
 rcases E0 rs.length k with h|h
 · rw [I2 (by rw [BF];omega),I2 A1]
 · have e:Ae rs=Ae (rs.take k)++Ae (rs.drop k):=by rw [<-Bh,Iv]
   rw [e,HM (by rw [BF,C3];omega)]
theorem Dj(rs:List AV)(k:Nat):(Ae rs).drop (k*5)=Ae (rs.drop k):=by
 rcases E0 rs.length k with h|h
 · rw [SP (by rw [BF];omega),SP A1];rfl
 · have e:Ae rs=Ae (rs.take k)++Ae (rs.drop k):=by rw [<-Bh,Iv]
   rw [e,W3 (by rw [BF,C3];omega)]
theorem CV(rs:List AV):∀u∈Ae rs,u.oneCell'=true:=by
 intro u g;unfold Ae at g;obtain ⟨r,_,h⟩:=S0.1 g;simp only [D4,RW,RC]at h;rcases h with rfl|rfl|rfl|rfl|rfl<;>rfl
theorem BS{n n':Nat}{xs':List Value}(h:Bc sz e v n xs s)(hn:n=n')(hx:xs=xs'):Bc sz e v n' xs' s:=by subst hn hx;exact h
theorem Ex{b:Option Addr}{n c:Nat}(h:Bc sz e (.slice b n c) n xs s):n<=c:=by
 obtain ⟨_,⟨hv,h0,_⟩|⟨_,_,_,_,hv,_,h2,_⟩⟩:=h;· omega
 · injection hv with _ _ hv3;omega
theorem Uz(sz:Nat)(b:Option Addr)(c:Nat):NU sz (.slice b 0 c) 0 [] []:=⟨by simp,.inl ⟨rfl,b,c,rfl⟩⟩
theorem D8(sz g k c:Nat)(e:TypeId)(z:Nat×Nat)(xs:List Value)(h:xs.length=k*sz):NU sz (I6 g k c) k xs [(g,.cells xs.toArray e z)]:=
 ⟨h,.inr ⟨g,0,c,xs.toArray,e,z,rfl,rfl,by unfold C8;rw [Pr];simp⟩⟩
theorem XF(h:c.has=true):Nn c=[⟨c.t,c.k,c.n⟩]:=AM h
theorem XG(h:c.has=false):Nn c=[]:=AK (by rw [h];decide)
theorem iP(hx:cs[i]?=some x)(g:x.had=true)(h2:x.has=true):Gr rs (cs.take (i+1))=Gr rs (cs.take i) -1+1:=by rw [Ho rs cs i x hx];unfold NG;rw [AM h2,AM g];omega
theorem iQ(hx:cs[i]?=some x)(g:x.had=true)(h2:x.has=false):Gr rs (cs.take (i+1))=Gr rs (cs.take i) -1:=by rw [Ho rs cs i x hx];unfold NG;rw [AK (by rw [h2];decide),AM g];omega
theorem iR(hx:cs[i]?=some x)(g:x.had=false)(h2:x.has=true):Gr rs (cs.take (i+1))=Gr rs (cs.take i)+1:=by rw [Ho rs cs i x hx];unfold NG;rw [AM h2,AK (by rw [g];decide)];omega
theorem iT(hx:cs[i]?=some x)(g:x.had=false)(h2:x.has=false):Gr rs (cs.take (i+1))=Gr rs (cs.take i):=by rw [Ho rs cs i x hx];unfold NG;rw [AK (by rw [h2];decide),AK (by rw [g];decide)];omega
theorem qH(sp:Nat)(p rp:Int)(v:Value)(rs:List AV)(sv M:List AA)(q:Option Addr)(ax:Nat)(cs:List Chg)(ek:Bc 5 71 v rs.length (Ae rs) sv)(hO:Ck M (.slice q cs.length ax) cs)(hs:BQ rs)(hn:rs.length<=2000)(hp:0<=p/\p<=10000):
 Ba prog 21 #[I5 sp,.agg #[I4 rp,.slice q cs.length ax]] [[(sp,.cells #[v,I4 p] 75 (0,0))],sv,M] (fun r H'=>(KU rs p rp cs/\∃v' l9,r=I4 0/\Bc 5 71 v' (DN rs cs).length (Ae (DN rs cs)) l9/\H'=[[(sp,.cells #[v',I4 rp] 75 (0,0))],l9,M])\/(¬KU rs p rp cs/\r=I4 40/\H'=[[(sp,.cells #[v,I4 p] 75 (0,0))],sv,M])):=by
 have qj:=mL;obtain ⟨qv,j3,rfl⟩:=ek.form;have lw:=Pv ek A1
 obtain ⟨p9,pz,e9,ql,hg⟩:=id hO;injection e9 with e91 e92 e93
 subst e91 e93;refine Se func21 ntmps21 [0,1] ?_;intro u R;refine A0<|Ze (Bx #[_,_])<|AE fun rb=>A3 Y<|A0<|Zo Wh (Pa #[_,_] HX F0 Y) ?_;refine Xr [_] Y call58 Y V (kS rp q ax cs M hO) ?_;refine A3 Y<|Zq<|Zq<|Az (n:=12) (0::1::3::7::15::7::39::103::231::487::1023::2047::[]) 0 A6 A6 V<|A2 0 V (AP Y)<|A2 1 V (D7 Y)<|A2 2 V (AP Y)<|DX (t:=23) Y (fun hv=>?_) (fun hv=>?_);·
  rw [Cp hv];refine AF 3 V<|AF 4 V<|AF 5 V<|AF 6 V<|AF 7 V<|AF 8 V<|AF 9 V<|AF 10 V<|A2 11 V (AQ Y Y)<|Ag<|Zn [0,3,32] ?_;refine Zx<|CW Y<|A0<|A3 Y<|AJ<|Zt<|AO V e6 Y (by exact .inr ⟨fun h=>hv h.ok,V,V⟩)
 rw [CN hv];refine An 3 V (AB (off:=0) G3 V rfl A4 Y)<|DH 4 V Wh (BP AD Y AN) ?_;refine An 5 V (AP Y)<|An 6 V (Ap Y V)<|An 7 V (AB (off:=1) IF V rfl A4 Y)<|DH 8 V Wh (BP AD Y AN) ?_
 (refine An 9 rfl (He Y Y (IntWalk.i64_in _ ?_)) ?_;(focus (omega)))
 refine An 10 V (GG Y Y)<|A2 11 V (AL Y Y)<|Ag<|Zn [0,3,32] ?_;refine Zx<|Aq Y (fun d9=>?_) (fun d9=>?_);·
  refine A0<|A3 Y<|AJ<|Zt<|AO V e6 Y (by exact .inr ⟨fun h=>d9 h.pos,V,V⟩)
 refine AC<|Zx<|Zq ?_;have ic:=HI.1 hv
 have pg:=HI.1 d9;have q9:=ic.len
 have gy:=UC ic.ord;refine Zg<|Zm Y<|Zp Y V<|Zh 0 IF V rfl C6 Y<|Zl F1 Y ?_;refine Zv (AY B5 Y)<|A3 Y<|Zq<|A0<|A3 Y<|AR<|Zb [6,7,0,3] ?_;refine BA (e0:=[(6,_),(7,_)]) (fun m e H=>∃(i:Nat),m=cs.length -i/\(i<=cs.length/\(∀c∈cs.take i,GR rs c))/\e=[(6,I4 (Gr rs (cs.take i))),(7,I4 (i:Int))]/\H=[]) (by exact ⟨0,V,⟨C0 _,by simp⟩,V,V⟩) Wp ?_;rintro _ _ _ ⟨i,rfl,⟨hi,I⟩,rfl,rfl⟩;have l5:=OW rs cs i
 refine Zq<|A0<|Zm Y<|Zh 1 G3 V rfl IH Y<|Zl LL Y ?_;refine Zv (AY G1 Y)<|Zv (Au Y Y)<|A5<|Aq Y (fun cu=>?_) (fun cu=>?_);·
  refine AC<|Zx<|Zq<|AR<|Zq ?_;obtain ⟨x,hx⟩:∃x,cs[i]?=some x:=⟨_,B3 cu⟩;obtain ⟨g,off,cur,T,zz,rfl,hm,pq,gF⟩:=hg i x hx;refine Zg<|Zh 1 G3 V rfl IH Y<|Zl LL Y ?_;refine Zm Y<|Bb (Ac G1 C1 Y Y A1)<|CS (cs:=[(g,.cells cur T zz)]) (by simp [hm]) (A9 (cs:=x.A57) Fk C1 Y A1 gF) V rfl ?_;refine Ze (Al Ln #[_,_,_,_,_,_,_,_,_,_])<|AE fun cb=>Xe (Xw C1 x.A57) ?_;refine A5<|A0<|Zm Y<|Zh 0 B8 V rfl A4 Y<|Zl AD Y ?_;refine Zh 1 B8 V rfl A4 Y<|Zl AD Y ?_;refine Xr [_,_,_] Y call20 Y V (qG sp qv j3 p x.t x.k rs sv lw A1 hs) ?_;obtain ⟨gr,bn⟩:∃gr,gr=Fq rs x.t x.k:=⟨_,rfl⟩;rw [<-bn];refine Zm Y<|Zd Y V<|Zd Y V<|Ze (Al DS #[_,_,_,_,_])<|AE fun xb=>Xe (Xw AW #[I4 gr.1.t,I4 gr.1.k,I4 gr.1.v.a,I4 gr.1.v.b,I4 gr.1.v.c]) ?_;refine AG Y<|Zn [0,3,6,7,8,9,10] ?_;refine Zx<|Zq<|A0<|Zm Y<|Zh 2 B8 V rfl CH Y<|Zl DM Y ?_;refine Zv (Ki Lk Y Y)<|Zm Y<|Aj (t:=63) Y V (fun gm=>?_) (fun gm=>?_);·
   refine A7 Y V<|A7 Y V<|A7 Y V<|A7 Y V<|A7 Y V<|A7 Y V<|A7 Y V<|A7 Y V<|Zv (AQ Y Y)<|Z0<|Zn [0,3,6,7,8,72] ?_;refine Zx<|CW Y<|A0<|A3 Y<|AJ<|Zt<|Ad<|Zt<|Zt<|Ad<|Zt<|AO rfl e6 Y (by exact .inr ⟨fun h=>by have h9:=(h.fit x (DE hx)).1;rw [<-bn]at h9;exact gm h9,rfl,rfl⟩)
  refine Zf Y Y<|Zf Y Y ?_;refine Af (t:=65) Y V (fun gq=>?_) (fun gq=>?_);·
   refine Yf 2 FF V rfl D3 Y<|Dx Y Wh (Pa #[_,_,_] GS D3 Y) V rfl ?_;refine Yf 3 B8 V rfl D3 Y<|Dx Y Wh (A9 (cs:=#[_,_,_]) GS D3 Y As AN) V rfl ?_;refine Yg (Kj A6 HP C5 AD A4 Y Y) ?_;refine Yg (AQ Y Y)<|Zv (AL Y Y)<|Z0<|Zn [0,3,6,7,8,72] ?_;refine Zx<|Aq Y (fun gB=>?_) (fun gB=>?_);·
    refine A0<|A3 Y<|AJ<|Zt<|Ad<|Zt<|Zt<|Ad<|Zt<|AO rfl e6 Y (by exact .inr ⟨fun h=>by have h9:=(h.fit x (DE hx)).2;rw [<-bn]at h9;exact gB (h9 gq),rfl,rfl⟩)
   refine AC<|Zx<|Zq<|Zq ?_;have O:GR rs x:=by
    unfold GR;rw [<-bn];refine ⟨by simpa using gm,fun h=>?_⟩;exact HI.1 gB
   refine Zg<|Zh 2 B8 V rfl CH Y<|Zl DM Y ?_;refine A5<|AX Y (fun G=>?_) (fun G=>?_);·
    refine Zg<|Zm Y ?_
    (refine Bb (GL Y Y (IntWalk.i64_in _ ?_)) ?_;(focus (omega)))
    refine A3 Y<|A0<|Zh 6 B8 V rfl CH Y<|Zl DM Y ?_;refine A5<|AX Y (fun B=>?_) (fun B=>?_);·
     refine Zg<|Zm Y<|Yi Y Y<|AG Y<|A8<|Zx<|Zg<|Zm Y<|Ya (n:=1) Y Y<|AG Y<|Zn [6,7,0,3] ?_;refine Ab (e':=[(6,_),(7,_)]) (by exact ⟨i+1,rfl,⟨by omega,Ib I hx O⟩,by rw [iP hx G B],rfl⟩)
    refine AC<|A8<|Zx<|Zg<|Zm Y<|Ya (n:=1) Y Y<|AG Y<|Zn [6,7,0,3] ?_;refine Ab (e':=[(6,_),(7,_)]) (by exact ⟨i+1,rfl,⟨by omega,Ib I hx O⟩,by rw [iQ hx G B],rfl⟩)
   refine AC<|Zx<|A0<|Zh 6 B8 V rfl CH Y<|Zl DM Y ?_;refine A5<|AX Y (fun B=>?_) (fun B=>?_);·
    refine Zg<|Zm Y<|Yi Y Y<|AG Y<|A8<|Zx<|Zg<|Zm Y<|Ya (n:=1) Y Y<|AG Y<|Zn [6,7,0,3] ?_;refine Ab (e':=[(6,_),(7,_)]) (by exact ⟨i+1,rfl,⟨by omega,Ib I hx O⟩,by rw [iR hx G B],rfl⟩)
   refine AC<|A8<|Zx<|Zg<|Zm Y<|Ya (n:=1) Y Y<|AG Y<|Zn [6,7,0,3] ?_;refine Ab (e':=[(6,_),(7,_)]) (by exact ⟨i+1,rfl,⟨by omega,Ib I hx O⟩,by rw [iT hx G B],rfl⟩)
  refine A7 Y V<|A7 Y V<|A7 Y V<|A7 Y V<|A7 Y V<|Yg (AL Y Y)<|Zv (AL Y Y)<|Z0<|Zn [0,3,6,7,8,72] ?_;refine Zx<|DI Y<|AC<|Zx<|Zq<|Zq ?_;have O:GR rs x:=by
   unfold GR;rw [<-bn];refine ⟨by simpa using gm,fun h=>?_⟩
   (rw [h]at gq;cases gq)
  refine Zg<|Zh 2 B8 V rfl CH Y<|Zl DM Y ?_;refine A5<|AX Y (fun G=>?_) (fun G=>?_);·
   refine Zg<|Zm Y ?_
   (refine Bb (GL Y Y (IntWalk.i64_in _ ?_)) ?_;(focus (omega)))
   refine A3 Y<|A0<|Zh 6 B8 V rfl CH Y<|Zl DM Y ?_;refine A5<|AX Y (fun B=>?_) (fun B=>?_);·
    refine Zg<|Zm Y<|Yi Y Y<|AG Y<|A8<|Zx<|Zg<|Zm Y<|Ya (n:=1) Y Y<|AG Y<|Zn [6,7,0,3] ?_;refine Ab (e':=[(6,_),(7,_)]) (by exact ⟨i+1,rfl,⟨by omega,Ib I hx O⟩,by rw [iP hx G B],rfl⟩)
   refine AC<|A8<|Zx<|Zg<|Zm Y<|Ya (n:=1) Y Y<|AG Y<|Zn [6,7,0,3] ?_;refine Ab (e':=[(6,_),(7,_)]) (by exact ⟨i+1,rfl,⟨by omega,Ib I hx O⟩,by rw [iQ hx G B],rfl⟩)
  refine AC<|Zx<|A0<|Zh 6 B8 V rfl CH Y<|Zl DM Y ?_;refine A5<|AX Y (fun B=>?_) (fun B=>?_);·
   refine Zg<|Zm Y<|Yi Y Y<|AG Y<|A8<|Zx<|Zg<|Zm Y<|Ya (n:=1) Y Y<|AG Y<|Zn [6,7,0,3] ?_;refine Ab (e':=[(6,_),(7,_)]) (by exact ⟨i+1,rfl,⟨by omega,Ib I hx O⟩,by rw [iR hx G B],rfl⟩)
  refine AC<|A8<|Zx<|Zg<|Zm Y<|Ya (n:=1) Y Y<|AG Y<|Zn [6,7,0,3] ?_;refine Ab (e':=[(6,_),(7,_)]) (by exact ⟨i+1,rfl,⟨by omega,Ib I hx O⟩,by rw [iT hx G B],rfl⟩)
 have ei:i=cs.length:=by omega
 subst ei;rw [GB]at I l5⊢;refine Ay<|Zt<|Zt<|AU<|Zx<|Zq<|A0<|Zm Y<|Zv (Ev Y Y)<|A5<|Aq Y (fun j5=>?_) (fun j5=>?_);·
  refine A0<|A3 Y<|AJ<|Zt<|AO V e6 Y (by exact .inr ⟨fun h=>by have h9:=h.size;omega,V,V⟩)
 refine AC<|Zx<|Zq<|A0<|A3 Y<|AR<|Zb [11,0,3] ?_;refine BA (e0:=[(11,_)]) (fun m e H=>∃(i:Nat) (w:Value) (sw:List AA),m=cs.length -i/\(i<=cs.length/\Bc 5 71 w (DN rs (cs.take i)).length (Ae (DN rs (cs.take i))) sw)/\e=[(11,I4 (i:Int))]/\H=[[(sp,.cells #[w,I4 p] 75 (0,0))],sw]) (by exact ⟨0,_,sv,V,⟨C0 _,ek⟩,V,V⟩) Wp ?_;rintro _ _ _ ⟨i,w,sw,rfl,⟨hi,K⟩,rfl,rfl⟩;obtain ⟨l8,kv⟩:=KN hs gy I i hi;have p8:=Nq hs gy I i hi
 have l5:=OW rs cs i;obtain ⟨qs,af⟩:∃qs,qs=DN rs (cs.take i):=⟨_,rfl⟩;rw [<-af]at K l8 p8 kv;obtain ⟨qw,bg,rfl⟩:=K.form;have qa:=Ex K
 have o8:=Pv K A1;refine Zq<|A0<|Zm Y<|Zh 1 G3 V rfl IH Y<|Zl LL Y ?_;refine Zv (AY G1 Y)<|Zv (Au Y Y)<|A5<|Aq Y (fun cu=>?_) (fun cu=>?_);·
  refine AC<|Zx<|Zq<|AR<|Zq ?_;obtain ⟨x,hx⟩:∃x,cs[i]?=some x:=⟨_,B3 cu⟩;obtain ⟨g,off,cur,T,zz,rfl,hm,pq,gF⟩:=hg i x hx;have O:=kv i x (CM _) hx
  have cO:=VT qs x.t x.k;have J:EK qs x=qs.take (E9 qs x.t x.k)++Nn x++(qs.drop (E9 qs x.t x.k)).drop (if x.had then 1 else 0):=rfl
  obtain ⟨k,hk⟩:∃k,k=E9 qs x.t x.k:=⟨_,rfl⟩;have o9:x.had=true->k<qs.length:=fun h=>by
   obtain ⟨r,_,_,h9,_⟩:=JL (by rw [O.1,h]:(Fq qs x.t x.k).2=true);rw [<-hk]at h9;exact (BE.1 h9).1
  rw [<-hk]at cO J;refine Zg<|Zh 1 G3 V rfl IH Y<|Zl LL Y ?_;refine Zm Y<|Bb (Ac G1 C1 Y Y A1)<|CS (cs:=[(g,.cells cur T zz)]) (by simp [hm]) (A9 (cs:=x.A57) Fk C1 Y A1 gF) V rfl ?_;refine Ze (Al Ln #[_,_,_,_,_,_,_,_,_,_])<|AE fun cb=>Xe (Xw C1 x.A57) ?_;refine A5<|A0<|Zm Y<|Zh 0 B8 V rfl A4 Y<|Zl AD Y ?_;refine Zh 1 B8 V rfl A4 Y<|Zl AD Y ?_;refine Xr [_,_,_] Y call57 Y V (YW sp qw bg p x.t x.k qs sw o8 A1 l8) ?_;rw [<-hk];refine AG Y<|Zn [0,3,11,12,13] ?_;refine Zx<|A0<|Zm Y<|Zp Y V<|Zh 0 IF V rfl C6 Y<|Zl F1 Y ?_;refine Zm Y<|Bb (C9 B5 AW Y Y A1)<|A3 Y<|Zq<|A0<|Zh 2 B8 V rfl CH Y<|Zl DM Y ?_;refine A5<|AX Y (fun G=>?_) (fun G=>?_);·
   have qb:=o9 G;refine Zg<|Zm Y<|Bb (C9 (l:=1) B5 AW Y Y A1)<|A3 Y<|A0<|AG Y<|Zn [0,3,11,12,13,14,15] ?_;refine Zx<|A0<|Zo Wh (Pa #[_,_,_,_,_,_,_,_,_,_] Fk C1 Y) ?_;refine Xr [_] Y call59 Y V (Sa x) ?_;refine Zm Y<|Zd Y V<|Zd Y V<|Ze (Al DS #[_,_,_,_,_])<|AE fun xb=>Xe (Xw AW x.after.A58) ?_;refine A3 Y<|Zq<|A0<|Zm Y<|A5<|AX Y (fun B=>?_) (fun B=>?_);·
    refine Zg<|Zo Wh (Pa #[_,_,_,_,_] CI AW Y) ?_;refine Ze (Ah (vs:=[_]) (cs:=[_,_,_,_,_]) B5 AW DS Y V rfl V rfl V)<|AE fun gb=>A3 Y<|A0<|AG Y<|Zn [0,3,11,13,14,15,18] ?_;refine Zx<|Zq<|BU<|Zg<|Zm Y<|Zm Y<|Zp Y V<|Zh 0 IF V rfl C6 Y<|Zl F1 Y ?_;refine Zm Y<|Bb (Bq B5 AW Y Y A1)<|Ze (BR (by_:=40) (sz:=5) B5 (V:Tryz.prog.info? 71=some Tryz.t71) V rfl V rfl Y (Bf 5 _) Y (K3 K k _ cO) Wo Wo (by exact fun u hu=>CV qs u (P0 hu)) A1 A1) ?_;rintro _ _ ⟨sa,W,rfl⟩;obtain ⟨ga,ca,rfl⟩:=W.form;refine Zm Y<|Ze (BR (by_:=40) (sz:=5) B5 (V:Tryz.prog.info? 71=some Tryz.t71) V rfl V rfl Y (W) Y (D8 5 gb 1 1 71 (0,0) (Ae [x.after]) V) Wo Wo (by exact CV _) A1 A1) ?_;rintro _ _ ⟨sb,X,rfl⟩;obtain ⟨gb,cb,rfl⟩:=X.form;refine Zm Y<|Ze (BR (by_:=40) (sz:=5) B5 (V:Tryz.prog.info? 71=some Tryz.t71) V rfl V rfl Y (X) Y (YB (K4 K k (qs.length -k) (bg -k) A1) 1 (qs.length -k -1) _ A1 A1) Wo Wo (by exact fun u hu=>CV qs u (J0 (J0 hu))) A1 A1) ?_;rintro _ _ ⟨sc,Z,rfl⟩;have U:=BS Z (n':=(EK qs x).length) (xs':=Ae (EK qs x)) (by rw [J,XF B,AM G,B7,B7,C3,C2,C2];simp only [DG,KK];omega) (by rw [J,XF B,AM G,Bh,Bh,<-EE,<-Dj (qs.drop k) 1,<-Dj];rw [L9 B];rfl)
    obtain ⟨gc,cc,rfl⟩:=Z.form;refine AG Y<|Zn [0,3,11,18] ?_;refine Zx<|Zg<|Zm Y<|Zm Y<|Zp Y V<|Zh 0 IF V rfl C6 Y<|Xe (Zs C6 Y Y V) ?_;refine Z0<|A8<|Zx<|Zg<|Zm Y<|Ya (n:=1) Y Y<|AG Y<|Zn [11,0,3] ?_;refine Ab (e':=[(11,_)]) (by exact ⟨i+1,_,_,rfl,⟨by omega,by rw [EO rs cs i x hx,<-af];exact U⟩,rfl,rfl⟩)
   refine BU<|AC<|Zx<|A0<|A3 Y<|Zq<|BU<|Zg<|Zm Y<|Zm Y<|Zp Y V<|Zh 0 IF V rfl C6 Y<|Zl F1 Y ?_;refine Zm Y<|Bb (Bq B5 AW Y Y A1)<|Ze (BR (by_:=40) (sz:=5) B5 (V:Tryz.prog.info? 71=some Tryz.t71) V rfl V rfl Y (Bf 5 _) Y (K3 K k _ cO) Wo Wo (by exact fun u hu=>CV qs u (P0 hu)) A1 A1) ?_;rintro _ _ ⟨sa,W,rfl⟩;obtain ⟨ga,ca,rfl⟩:=W.form;refine Zm Y<|Ze (BR (by_:=40) (sz:=5) B5 (V:Tryz.prog.info? 71=some Tryz.t71) V rfl V rfl Y (W) Y (Uz 5 none 0) Wo Wo B0 A1 A1) ?_;rintro _ _ ⟨sb,X,rfl⟩;obtain ⟨gb,cb,rfl⟩:=X.form;refine Zm Y<|Ze (BR (by_:=40) (sz:=5) B5 (V:Tryz.prog.info? 71=some Tryz.t71) V rfl V rfl Y (X) Y (YB (K4 K k (qs.length -k) (bg -k) A1) 1 (qs.length -k -1) _ A1 A1) Wo Wo (by exact fun u hu=>CV qs u (J0 (J0 hu))) A1 A1) ?_;rintro _ _ ⟨sc,Z,rfl⟩;have U:=BS Z (n':=(EK qs x).length) (xs':=Ae (EK qs x)) (by rw [J,XG B,AM G,B7,B7,C3,C2,C2];simp only [DG,KK];omega) (by rw [J,XG B,AM G,Bh,Bh,<-EE,<-Dj (qs.drop k) 1,<-Dj];rfl)
   obtain ⟨gc,cc,rfl⟩:=Z.form;refine AG Y<|Zn [0,3,11,18] ?_;refine Zx<|Zg<|Zm Y<|Zm Y<|Zp Y V<|Zh 0 IF V rfl C6 Y<|Xe (Zs C6 Y Y V) ?_;refine Z0<|A8<|Zx<|Zg<|Zm Y<|Ya (n:=1) Y Y<|AG Y<|Zn [11,0,3] ?_;refine Ab (e':=[(11,_)]) (by exact ⟨i+1,_,_,rfl,⟨by omega,by rw [EO rs cs i x hx,<-af];exact U⟩,rfl,rfl⟩)
  refine AC<|Zx<|A0<|A3 Y<|A0<|Zo Wh (Pa #[_,_,_,_,_,_,_,_,_,_] Fk C1 Y) ?_;refine Xr [_] Y call59 Y V (Sa x) ?_;refine Zm Y<|Zd Y V<|Zd Y V<|Ze (Al DS #[_,_,_,_,_])<|AE fun xb=>Xe (Xw AW x.after.A58) ?_;refine AG Y<|Zn [0,3,11,13,14,15,16,17] ?_;refine Zx<|Zq<|A0<|Zm Y<|A5<|AX Y (fun B=>?_) (fun B=>?_);·
   refine Zg<|Zo Wh (Pa #[_,_,_,_,_] CI AW Y) ?_;refine Ze (Ah (vs:=[_]) (cs:=[_,_,_,_,_]) B5 AW DS Y V rfl V rfl V)<|AE fun gb=>A3 Y<|A0<|A3 Y<|Zq<|BU<|Zg<|Zm Y<|Zm Y<|Zp Y V<|Zh 0 IF V rfl C6 Y<|Zl F1 Y ?_;refine Zm Y<|Bb (Bq B5 AW Y Y A1)<|Ze (BR (by_:=40) (sz:=5) B5 (V:Tryz.prog.info? 71=some Tryz.t71) V rfl V rfl Y (Bf 5 _) Y (K3 K k _ cO) Wo Wo (by exact fun u hu=>CV qs u (P0 hu)) A1 A1) ?_;rintro _ _ ⟨sa,W,rfl⟩;obtain ⟨ga,ca,rfl⟩:=W.form;refine Zm Y<|Ze (BR (by_:=40) (sz:=5) B5 (V:Tryz.prog.info? 71=some Tryz.t71) V rfl V rfl Y (W) Y (D8 5 gb 1 1 71 (0,0) (Ae [x.after]) V) Wo Wo (by exact CV _) A1 A1) ?_;rintro _ _ ⟨sb,X,rfl⟩;obtain ⟨gb,cb,rfl⟩:=X.form;refine Zm Y<|Ze (BR (by_:=40) (sz:=5) B5 (V:Tryz.prog.info? 71=some Tryz.t71) V rfl V rfl Y (X) Y (K4 K k (qs.length -k) _ A1) Wo Wo (by exact fun u hu=>CV qs u (J0 hu)) A1 A1) ?_;rintro _ _ ⟨sc,Z,rfl⟩;have U:=BS Z (n':=(EK qs x).length) (xs':=Ae (EK qs x)) (by rw [J,XF B,AK (by rw [G];decide),B7,B7,C3,C2,C2];simp only [DG,KK];omega) (by rw [J,XF B,AK (by rw [G];decide),Bh,Bh,<-EE,<-Dj (qs.drop k) 0,<-Dj,en,Pr];rw [L9 B];rfl)
   obtain ⟨gc,cc,rfl⟩:=Z.form;refine AG Y<|Zn [0,3,11,18] ?_;refine Zx<|Zg<|Zm Y<|Zm Y<|Zp Y V<|Zh 0 IF V rfl C6 Y<|Xe (Zs C6 Y Y V) ?_;refine Z0<|A8<|Zx<|Zg<|Zm Y<|Ya (n:=1) Y Y<|AG Y<|Zn [11,0,3] ?_;refine Ab (e':=[(11,_)]) (by exact ⟨i+1,_,_,rfl,⟨by omega,by rw [EO rs cs i x hx,<-af];exact U⟩,rfl,rfl⟩)
  refine BU<|AC<|Zx<|A0<|A3 Y<|Zq<|BU<|Zg<|Zm Y<|Zm Y<|Zp Y V<|Zh 0 IF V rfl C6 Y<|Zl F1 Y ?_;refine Zm Y<|Bb (Bq B5 AW Y Y A1)<|Ze (BR (by_:=40) (sz:=5) B5 (V:Tryz.prog.info? 71=some Tryz.t71) V rfl V rfl Y (Bf 5 _) Y (K3 K k _ cO) Wo Wo (by exact fun u hu=>CV qs u (P0 hu)) A1 A1) ?_;rintro _ _ ⟨sa,W,rfl⟩;obtain ⟨ga,ca,rfl⟩:=W.form;refine Zm Y<|Ze (BR (by_:=40) (sz:=5) B5 (V:Tryz.prog.info? 71=some Tryz.t71) V rfl V rfl Y (W) Y (Uz 5 none 0) Wo Wo B0 A1 A1) ?_;rintro _ _ ⟨sb,X,rfl⟩;obtain ⟨gb,cb,rfl⟩:=X.form;refine Zm Y<|Ze (BR (by_:=40) (sz:=5) B5 (V:Tryz.prog.info? 71=some Tryz.t71) V rfl V rfl Y (X) Y (K4 K k (qs.length -k) _ A1) Wo Wo (by exact fun u hu=>CV qs u (J0 hu)) A1 A1) ?_;rintro _ _ ⟨sc,Z,rfl⟩;have U:=BS Z (n':=(EK qs x).length) (xs':=Ae (EK qs x)) (by rw [J,XG B,AK (by rw [G];decide),B7,B7,C3,C2,C2];simp only [DG,KK];omega) (by rw [J,XG B,AK (by rw [G];decide),Bh,Bh,<-EE,<-Dj (qs.drop k) 0,<-Dj,en,Pr];rfl)
  obtain ⟨gc,cc,rfl⟩:=Z.form;refine AG Y<|Zn [0,3,11,18] ?_;refine Zx<|Zg<|Zm Y<|Zm Y<|Zp Y V<|Zh 0 IF V rfl C6 Y<|Xe (Zs C6 Y Y V) ?_;refine Z0<|A8<|Zx<|Zg<|Zm Y<|Ya (n:=1) Y Y<|AG Y<|Zn [11,0,3] ?_;refine Ab (e':=[(11,_)]) (by exact ⟨i+1,_,_,rfl,⟨by omega,by rw [EO rs cs i x hx,<-af];exact U⟩,rfl,rfl⟩)
 have ei:i=cs.length:=by omega
 subst ei;rw [GB]at af;refine Ay<|Zt<|Zt<|AU<|Zx<|A0<|Zm Y<|Zh 0 G3 V rfl A4 Y<|Zl AD Y ?_;refine Zp Y V<|Zh 1 IF V rfl A4 Y<|Xe (Zs A4 Y Y V) ?_;refine A5<|A0<|A3 Y<|AJ<|AO rfl e6 Y (by exact .inl ⟨⟨ic,pg,I,by omega⟩,_,sw,rfl,by rw [<-af];exact K,rfl⟩)
end Go.Proofs.YtfhjaegddfehhaaGreatDoor
