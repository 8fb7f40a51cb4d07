/- proof.Build and Check on any answers. -/
import Derived.Test.YtljkoipiekbijaaGreatDoorSu1
set_option linter.unusedVariables false
set_option linter.unusedSimpArgs false
namespace Go.Proofs.YtljkoipiekbijaaGreatDoor
open Go.Proofs.Tryz
open Go Go.RowKit Gw
set_option maxRecDepth 100000
attribute [local irreducible] Gw.At Gw.Nx Gw.Ops
set_option maxHeartbeats 1000000 in
theorem aW{M:List AR}(q:QM)(I base:Int){z:C1}{m:Nat}{L:List RP}(O:Et M (.slice z L.length m) L)(y:Bu q L=none)(Z:C1)(X W:Nat)(G:Addr)(E:An)(J:Nat×Nat):BB prog 11 #[.agg #[I4 q.kd,I4 q.tb,I4 q.cl,I4 q.lo,I4 q.hi,I4 q.bq,I4 q.ot,I4 I,I4 base,.slice z L.length m],.slice Z X W] [M,[(0,.cells #[.iface 343 (.pointer (some G))] E J)]] (.tuple #[.agg #[I4 0,I4 0,I4 0,I4 0,I4 0,I4 0,I4 0,.slice none 0 0,I4 0,.bool false,I4 0,I4 0,I4 0,.slice none 0 0,.slice none 0 0],.bool false]):=by
 have U:=mL;refine Se func11 ntmps11 [0,1] ?_;intro u R;refine A2<|Ze (Bx #[I4 q.kd,I4 q.tb,I4 q.cl,I4 q.lo,I4 q.hi,I4 q.bq,I4 q.ot,I4 I,I4 base,.slice z L.length m])<|AE fun be=>Ze (Al Hs #[_,_,_,_,_,_,_,_,_,_,_,_,_,_,_])<|AE fun bo=>AF Y<|A2<|Zh 0 L4 V rfl CN Y<|Zo Wh (A7 (cs:=#[_,_,_,_,_,_,_]) DE CN Y BW B5) ?_;refine Zh 9 L4 V rfl E0 Y<|Zl FG Y ?_;refine Zc [_,_] Y call16 Y V (gZ O q G E J) ?_;rintro _ _ ⟨_,⟨af,s0,rfl,h0,rfl⟩,rfl⟩;rw [y]at h0⊢;obtain ⟨p0,K,rfl⟩:=h0.form;rw [show Option.isSome (none:Option CB)=false from rfl];refine Sk 3 V<|Ze (Al GO #[_,_,_])<|AE fun bs=>Xe (Xw BE #[.slice p0 0 K,I4 0,.bool false]) ?_;refine AN Y<|Zn [1,2,4,6,7] ?_;refine Zx<|C0 Y<|Zv (CR Y)<|Zm Y<|Ae (t:=19) Y V (fun g=>?_) (fun g=>?_);·
  refine Sk 4 rfl<|A6<|BV Y<|A2<|Zv (BK (vs:=[]) (cs:=#[_,_,_,_,_,_,_,_,_,_,_,_,_,_,_]) Y (AY (pl:=#[(0,7),(7,3),(10,1),(11,1),(12,1),(13,1),(14,1)]) Hs C3 (fun _=>by kernel_rfl) rfl))<|Xe (Ao F0 Y Y Ft Wu (by exact Bj rfl) DO AH (by exact Aw _)) ?_;refine AM Y<|Zt<|Bo V results11 Y Wh (Ai HQ F0 Wn (AP V)) Y (by exact ⟨V,V⟩)
 cases g
theorem wM{M:List AR}(q:QM)(I base:Int)(Z:-1000000000000<=base/\base<=1000000000000){W:C1}{J:Nat}{L:List RP}(K:Et M (.slice W L.length J) L)(E:L.length<=1000000){U:A3}{l:List Bz}(O:DD M U l)(G:∀x∈l,x.cs.length<=1000)(m:Addr)(g:An)(y:Nat×Nat):CJ prog 11 #[.agg #[I4 q.kd,I4 q.tb,I4 q.cl,I4 q.lo,I4 q.hi,I4 q.bq,I4 q.ot,I4 I,I4 base,.slice W L.length J],U] [M,[(0,.cells #[.iface 343 (.pointer (some m))] g y)]] (fun w H'=>∃(z:FI) (s:List AR) (b:Bool),((b=true/\Cy q base L l=some z.a/\z.ok (s++M))\/(b=false/\Cy q base L l=none))/\w= .tuple #[.agg z.Ax5,.bool b]/\H'=[s,M,[(0,.cells #[.iface 343 (.pointer (some m))] g y)]]):=by
 cases hs:Bu q L with
 |some r=>
  refine Tv (jD q I base Z K E hs O G) [(0,.cells #[.iface 343 (.pointer (some m))] g y)] C4 ?_;rintro w H' ⟨z,s,b,X,h2,rfl⟩;exact ⟨_,⟨z,s,b,X,h2,V⟩,by simp⟩
 |none=>
  obtain ⟨lp,lc,rfl,_⟩:=id O;refine E8 (aW q I base K hs lp _ lc m g y) V ?_;rintro w H' ⟨rfl,rfl⟩;exact ⟨_,⟨⟨⟨⟨0,0,0,0,0,0,0⟩,CB.none,0,0,0,[],[]⟩,none,0,none,0,none,0⟩,[],false,.inr ⟨rfl,by unfold Cy;rw [hs];rfl⟩,rfl,rfl⟩,by simp⟩
set_option maxHeartbeats 1000000 in
theorem wI(base until_:D5){M:List AR}{z:FI}(hz:z.ok M)(hs:∀x∈z.a.ranges,x.small)(bn:z.a.ranges.length<=1000000)(hb:-1000000000000<=z.a.base/\z.a.base<=1000000000000)(ax:∀x∈z.a.recs,x.cs.length<=1000)(J:An)(zg:Nat×Nat)(pa:Addr)(Tx:An)(zx:Nat×Nat):BB prog 19 #[.agg #[I4 base.p,.string (str base.ch),.string (str base.st)],.agg #[I4 until_.p,.string (str until_.ch),.string (str until_.st)],.agg z.Ax5] [[(1,.cells (Dj.map CP).toArray J zg)],M,[(0,.cells #[.iface 343 (.pointer (some pa))] Tx zx)]] (.bool (decide (Eg base until_ z.a))):=by
 have cO:=mL;refine Se func19 ntmps19 [0,1,2] ?_;intro u R;refine A2<|Ze (Bx #[_,_,_])<|AE fun b1=>Ze (Bx #[_,_,_])<|AE fun b2=>Ze (Bx z.Ax5)<|AE fun b3=>CT Y<|A2<|Zh 0 Hc V rfl A4 Y<|Zl A5 Y ?_;refine Zh 12 C3 V rfl A4 Y<|Zl A5 Y ?_;refine Zv (ED Y Y)<|Zm Y<|AZ (t:=15) Y V (fun K=>?_) (fun K=>?_);·
  refine Sk 14 V<|Z0<|Zn [3,5,29] ?_;refine Zx<|BV Y<|A2<|AM Y<|Zt<|AO V SZ Y (by exact ⟨congrArg Value.bool (CC (fun g:Eg base until_ z.a=>by exact K g.1)).symm,V⟩)
 refine Yf 0 Hc V rfl A4 Y<|Yl A5 Y ?_;refine Yf 11 C3 V rfl A4 Y<|Yl A5 Y ?_;refine Yg (ED Y Y)<|Sk 2 V ?_;refine AZ (t:=22) Y V (fun h2=>?_) (fun h2=>?_);·
  refine Sk 7 V<|Z0<|Zn [3,5,29] ?_;refine Zx<|BV Y<|A2<|AM Y<|Zt<|AO V SZ Y (by exact ⟨congrArg Value.bool (CC (fun g:Eg base until_ z.a=>by exact h2 g.2.1)).symm,V⟩)
 refine DK Y Wh (A7 (cs:=#[_,_,_]) HK Ek Y BW (by exact AP V)) V rfl ?_;refine Yf 14 C3 V rfl Kd Y<|Yl LS Y ?_;refine DK Y Wh (A7 (cs:=#[_,_,_]) HK Ek Y BW (by exact AP V)) V rfl ?_;refine Xr [_,_,_] Y call59 Y V (Vw base until_ hz.2.2 J zg) ?_;refine Yg (Bp Y)<|H3 Y Y<|Z0<|Zn [3,5,29] ?_;refine Zx<|Ad Y (fun W=>?_) (fun W=>?_);·
  refine A2<|AM Y<|Zt<|AO V SZ Y (by exact ⟨congrArg Value.bool (CC (fun g:Eg base until_ z.a=>by exact W g.2.2.1)).symm,V⟩)
 have O:=Fi.1 K;have U:=Fi.1 h2
 have X:=Fi.1 W;refine AB<|BT<|Zv (CV (vs:=[]) (us:=[_]) Y Y)<|CT Y<|A2<|Zh 13 C3 V rfl E0 Y<|Zl FG Y ?_;refine Zm Y<|Zc [_,_] Y call62 Y V (aZ base hz.2.1 hs b1 J zg) ?_;rintro _ _ ⟨_,⟨bf,rfl,G,rfl⟩,rfl⟩;refine A6<|Af Y (fun Z=>?_) (fun Z=>?_);·
  refine A2<|AM Y<|Zt<|AO V SZ Y (by exact ⟨congrArg Value.bool (CC (fun g:Eg base until_ z.a=>(G.1 Z) g.2.2.2.1)).symm,V⟩)
 have h5:∀x∈z.a.ranges,KF base.st x:=Fi.1 fun g=>by have:=G.2 g;rw [Z]at this;cases this
 refine AB<|BT<|Zh 0 C3 V rfl CN Y<|Zo Wh (A7 (cs:=#[_,_,_,_,_,_,_]) DE CN Y BW B5) ?_;refine Zh 12 C3 V rfl A4 Y<|Zl A5 Y ?_;refine Zh 13 C3 V rfl E0 Y<|Zl FG Y ?_;refine Zv (BK (vs:=[(0,.agg z.a.q.Ax4),(2,I4 z.a.base),(3,.slice z.gp z.a.ranges.length z.gc)]) (cs:=#[I4 z.a.q.kd,I4 z.a.q.tb,I4 z.a.q.cl,I4 z.a.q.lo,I4 z.a.q.hi,I4 z.a.q.bq,I4 z.a.q.ot,I4 0,I4 z.a.base,.slice z.gp z.a.ranges.length z.gc]) Y (AY (pl:=#[(0,7),(7,1),(8,1),(9,1)]) SR L4 (fun _=>by kernel_rfl) AG))<|Zh 14 C3 V rfl Kd Y<|Zl LS Y ?_;refine Zc [_,_] Y call11 Y V (wM z.a.q 0 z.a.base hb hz.2.1 bn hz.2.2 ax pa Tx zx) ?_;rintro _ _ ⟨_,⟨y,s9,d9,I,rfl,rfl⟩,rfl⟩;refine Sk 3 V<|Ze (Al Hs #[_,_,_,_,_,_,_,_,_,_,_,_,_,_,_])<|AE fun b4=>Xe (Xw F0 y.Ax5) ?_;refine AN Y<|Zn [5,8,9] ?_;refine BT<|Sk 2 V ?_;refine Ae (t:=49) Y V (fun h6=>?_) (fun h6=>?_);·
  obtain ⟨E,cu⟩:Cy z.a.q z.a.base z.a.ranges z.a.recs=some y.a/\y.ok (s9++M):=by rcases I with⟨_,g⟩|⟨g,_⟩;exact g;rw [h6]at g;cases g
  refine DK Y Wh (A7 (cs:=#[_,_,_,_,_,_,_,_,_,_,_,_,_,_,_]) HQ F0 Y BW (by exact AP V)) V rfl ?_;refine DK Y Wh (A7 (cs:=#[_,_,_,_,_,_,_,_,_,_,_,_,_,_,_]) HQ F0 Y BW (by exact AP V)) V rfl ?_;refine Xr [_,_] Y call21 Y V (VN hz cu) ?_;refine HR Y Y<|AM Y<|AO rfl SZ Y (by exact ⟨by exact F4 ⟨fun g=>⟨O,U,X,h5,y.a,E,g⟩,fun g=>by obtain ⟨b,m,af⟩:=g.2.2.2.2;rw [E]at m;injection m with m;rw [m];exact af⟩,rfl⟩)
 have E:Cy z.a.q z.a.base z.a.ranges z.a.recs=none:=by rcases I with⟨g,_⟩|⟨_,g⟩;rw [h6]at g;cases g;exact g
 refine Sk 4 rfl<|AM Y<|AO rfl SZ Y (by exact ⟨by exact congrArg Value.bool (CC (fun g:Eg base until_ z.a=>by obtain ⟨b,m,_⟩:=g.2.2.2.2;rw [E]at m;cases m)).symm,rfl⟩)
theorem J3{z:Int}(k:Int)(m:1<=k)(g:-9223372036854775808<=z)(h2:z<=9223372036854775807):-9223372036854775808<=z.tdiv k/\z.tdiv k<=9223372036854775807:=by
 have h:=Int.natAbs_tdiv_le_natAbs z k;rcases Int.lt_or_le z 0 with hz|hz
 · have:z.tdiv k<=0:=by
    obtain ⟨y,rfl⟩:∃y,z=-y:=⟨-z,by omega⟩;rw [Int.neg_tdiv];have:=Int.tdiv_nonneg (a:=y) (b:=k) A0 A0
    omega
   omega
 · have:=Int.tdiv_nonneg hz (show(0:Int)<=k by omega)
   omega
theorem NA{kd tb cl lo hi bq ot:Int}(h:(0<=tb/\tb<=3)/\(0<=cl/\cl<=3)/\(-1000000000<=lo/\lo<=hi/\hi<=1000000000)/\
 ((kd=1/\cl=0/\lo=hi/\(1<=lo/\lo<=1000000)/\bq=0/\ot=0)\/((kd=2\/kd=3)/\bq=0/\ot=0)\/
  ((kd=4\/kd=5\/kd=6)/\(1<=bq/\bq<=3)/\ot=0)\/(kd=7/\(1<=bq/\bq<=3)/\(0<=ot/\ot<=3)))):BH ⟨kd,tb,cl,lo,hi,bq,ot⟩:=h
theorem sF{g o c sz a:Nat}(h:a<c):EJ (some ⟨g,o,none⟩) a c sz=some ⟨g,o+a*sz,none⟩:=by
 unfold EJ;rw [Ax A0,N5,Cq]
theorem J8{M:List AR}{p:C1}{cap a b:Nat}{l:List Bz}(h:DD M (.slice p l.length cap) l)(G:a<=b)(U:b<=l.length):DD M (.slice (EJ p a cap 2) (b -a) (cap -a)) ((l.drop a).take (b -a)):=by
 obtain ⟨X,y,e,⟨W,J⟩,I⟩:=h;injection e with e1 e2 e3
 subst e1 e3;have z:((l.drop a).take (b -a)).length=b -a:=by rw [CI,D4];omega
 refine ⟨_,_,by rw [z],⟨by omega,by omega⟩,fun i x hx=>?_⟩;rw [I3]at hx;split at hx
 · rw [Ly]at hx
   obtain ⟨E,g,off,cur,T,zz,rfl,K,O,m⟩:=I (a+i) x hx;rw [sF A0];exact ⟨E,g,_,cur,T,zz,rfl,K,by omega,by rw [show off+a*2+i*2=off+(a+i)*2 by omega];exact m⟩
 · cases hx
theorem oW(rs:List AV)(c:Chg):(Ej rs c).length<=rs.length+1:=by
 unfold Ej OA;simp only [C7,CI,D4];split<;>simp only [HI,My]<;>omega
theorem Sj:∀(cs:List Chg) (rs:List AV),(Du rs cs).length<=rs.length+cs.length
 |[],_=>B4 _
 |c::cs,rs=>by
  have g:=Sj cs (Ej rs c);have h2:=oW rs c
  rw [GB];exact To g A0
theorem Dy.few{l:List Bz}(h:Dy l):∀i,i<=l.length->(Bq (l.take i)).length<=3*i
 |0,_=>by rw [Hh];exact B4 _
 |i+1,hi=>by
  obtain ⟨r,g⟩:∃r,l[i]?=some r:=⟨_,Bk A0⟩;rw [Bt g,FZ];have m:=Sj r.cs (Bq (l.take i))
  have h2:=Dy.few h i A0;have y:=(h i r g).2
  omega
theorem xV{M:List AR}{q:C1}{cap:Nat}{l:List Bz}(m:DD M (.slice q l.length cap) l)(g:Dy l)(G:l.length<=1000000)(k:Nat)(y:k<=l.length):CJ prog 6 #[.slice q l.length cap,I4 (k:Int)] [M] (fun r H'=>∃v s,r= .tuple #[v,I4 0]/\RO v (k:Int) (Bq (l.take k)) s/\H'=[s,M]):=by
 refine E8 (zP q cap l M m g G k y) V ?_;rintro r H' ⟨sp,K,es,z,lm,rfl,I,E,rfl⟩;obtain ⟨J,hn⟩:=g.rows k y;exact ⟨_,⟨_,_,V,⟨sp,K,es,z,lm,V,I,E,J,hn,V⟩,V⟩,by simp⟩
theorem Pf{E M:List AR}(q:QM)(J base:Int)(U:-1000000000000<=base/\base<=1000000000000){I:C1}{y:Nat}{L:List RP}(O:Et (E++M) (.slice I L.length y) L)(g:L.length<=1000000){r:CB}(X:Bu q L=some r){G:A3}{l:List Bz}(W:DD (E++M) G l)(m:∀x∈l,x.cs.length<=1000):CJ prog 11 #[.agg #[I4 q.kd,I4 q.tb,I4 q.cl,I4 q.lo,I4 q.hi,I4 q.bq,I4 q.ot,I4 J,I4 base,.slice I L.length y],G] [E,M] (fun w H'=>∃(z:FI) (s:List AR) (b:Bool),((b=true/\Cy q base L l=some z.a/\z.ok (s++E++M))\/(b=false/\Cy q base L l=none/\z=AZ0))/\w= .tuple #[.agg z.Ax5,.bool b]/\H'=[s,E,M]):=by
 refine E8 (Tz q J base U O g X W m) C4 ?_;rintro w H' ⟨z,s,b,K,rfl,rfl⟩;exact ⟨_,⟨z,s,b,by simpa only [G0]using K,V,V⟩,by simp⟩
theorem Pd{E M:List AR}(base until_:D5){z:FI}(hz:z.ok (E++M))(K:∀x∈z.a.ranges,x.small)(m:z.a.ranges.length<=1000000)(I:-1000000000000<=z.a.base/\z.a.base<=1000000000000)(g:∀x∈z.a.recs,x.cs.length<=1000){r:CB}(J:Bu z.a.q z.a.ranges=some r)(y:An)(G:Nat×Nat):BB prog 19 #[.agg #[I4 base.p,.string (str base.ch),.string (str base.st)],.agg #[I4 until_.p,.string (str until_.ch),.string (str until_.st)],.agg z.Ax5] [[(1,.cells (Dj.map CP).toArray y G)],E,M] (.bool (decide (Eg base until_ z.a))):=by
 refine E8 (wJ base until_ hz K m I g J y G) C4 ?_;rintro r H' ⟨rfl,rfl⟩;exact ⟨_,⟨V,V⟩,by simp⟩
def FD(l:List Bz)(a b:Nat):List Bz:=(l.drop a).take (b -a)
theorem QF{l:List Bz}{a b:Nat}(g:b<=l.length):(FD l a b).length=b -a:=by unfold FD;rw [CI,D4];omega
theorem Yc{l:List Bz}{a b k:Nat}{x:Bz}(h:(FD l a b)[k]?=some x):l[a+k]?=some x/\k<b -a:=by
 unfold FD at h;rw [I3]at h;split at h;· rename_i h9;rw [Ly]at h;exact ⟨h,h9⟩
 · cases h
theorem H5{l:List Bz}(h:Dy l)(a b:Nat):∀x∈FD l a b,x.cs.length<=1000:=fun x hx=>by
 obtain ⟨k,g⟩:=JT hx;have:=(h _ x (Yc g).1).2
 omega
theorem Fs{l:List Bz}(h:Dy l)(y:l.length<=20){k:Nat}(g:k<=l.length)(q:QM):(Cm (Bq (l.take k)) q).length<=100:=by
 have m:=h.few k g;have h2:=(@Sb (Bq (l.take k)) q.tb q.cl.toNat q.lo q.hi).1
 unfold Cm;omega
theorem Jr(rs:List AV)(q:QM):(EQ rs q).length<=1+(Cm rs q).length:=by
 unfold EQ;split;· rw [GB,C2];omega
 · simp
noncomputable def Ee(l:List Bz)(a b:Nat)(q:QM):Option Jj:=Cy q (a:Int) (EQ (Bq (l.take a)) q) (FD l a b)
theorem jh{q:QM}{l:List Bz}{a b:Nat}{st g:CB×Int}(h:II q (a:Int) 0 st (FD l a b)=some g):II q (a:Int) 0 st ((l.drop a).take (b -a))=some g:=h
theorem Hr{l:List Bz}(g:Dy l)(m:l.length<=20){a b:Nat}(J:a<=b)(K:b<=l.length){q:QM}(G:BH q){x:Jj}(h:Ee l a b q=some x):x=⟨q,EI (Bq (l.take b)) q,x.since,(b:Int),(a:Int),EQ (Bq (l.take a)) q,FD l a b⟩/\tO q l a (b -a) x.since:=by
 obtain ⟨M,hn⟩:=g.rows a A0;have z:=GL M hn (g.rowsOk a A0) G (Fs g m A0 q)
 have y:=QF (l:=l) (a:=a) K;unfold Ee at h;rw [Jt z A0]at h;cases hr:II q (a:Int) 0 (EI (Bq (l.take a)) q,(a:Int)) (FD l a b)with
 |none=>rw [hr]at h;cases h
 |some st=>
  rw [hr]at h;injection h with h
  obtain ⟨E,I⟩:=Uv G g (by omega:a<=l.length) (b -a) A0 st (jh hr);rw [show a+(b -a)=b by omega]at E;subst h;refine ⟨?_,I⟩;simp only [y,E];congr 1;omega
theorem vI{l:List Bz}(z:Dy l){a b:Nat}(I:b<=l.length)(E:l.length<=20):∀(k:Nat) (x:Bz),(FD l a b)[k]?=some x->(a:Int)<=9223372036854775806 -((0+k:Nat):Int)/\x.p=(a:Int)+1+((0+k:Nat):Int):=fun k x y=>by
 obtain ⟨g,h2⟩:=Yc y;have m:x.p=((a+k:Nat):Int)+1:=(z _ x g).1.pos
 have G:=(D3.1 g).1;exact ⟨by omega,by rw [m];push_cast;omega⟩
theorem R8{l:List Bz}(y:Dy l)(g:l.length<=20){a b:Nat}(G:a<=b)(E:b<=l.length){q:QM}(K:BH q)(I:1<=q.kd/\q.kd<=4):Ee l a b q≠none:=by
 obtain ⟨M,hn⟩:=y.rows a A0;have z:=GL M hn (y.rowsOk a A0) K (Fs y g A0 q)
 have J:=QF (l:=l) (a:=a) E;obtain ⟨st,m⟩:=SF I (FD l a b) 0 (EI (Bq (l.take a)) q,(a:Int)) (vI y E g);unfold Ee;rw [Jt z A0,m];exact fun h=>by cases h
theorem Z4{rs:List AV}(g:BP rs)(hn:rs.length<=2000)(q:QM):∀x∈EQ rs q,x.small:=fun x hx=>by
 unfold EQ at hx;rcases H4.1 hx with rfl|hx
 · exact ⟨Qu g hn _ _ _ _,MX g hn _ _ _ _⟩
 · split at hx
   · obtain ⟨r,_,rfl⟩:=HX.1 hx
     exact ⟨Qu g hn _ _ _ _,MX g hn _ _ _ _⟩
   · cases hx
theorem kw{rs:List AV}(y:BP rs)(hn:rs.length<=2000)(g:∀r∈rs,r.ok){q:QM}(m:BH q):∀x∈EQ rs q,KF (Eu rs) x:=fun x hx=>by
 have E:=m.1;have h2:=m.2.1
 have z:=m.2.2.1.2.1;have G:0<=q.ot/\q.ot<=3:=by have:=m.2.2.2;omega
 unfold EQ at hx;rcases H4.1 hx with rfl|hx
 · exact Uk y hn g _ _ A0 A0 _ _ z
 · split at hx
   · obtain ⟨r,_,rfl⟩:=HX.1 hx
     exact Uk y hn g _ _ A0 A0 _ _ (db _)
   · cases hx
theorem Rj{l:List Bz}(m:Dy l)(G:l.length<=9000){st:Bs}(g:st.length=32){a:Nat}:∀k,a+k<=l.length->∃h,IY st (Ep l a) ((l.drop a).take k)=some h/\h.p=((a+k:Nat):Int)/\h.ch=(Ep l (a+k)).ch/\h.ok/\(k=0->h=Ep l a)/\(0<k->h.st=st)
 |0,hk=>by
  obtain ⟨W,h2,_⟩:=KA m G a A0;exact ⟨Ep l a,by rw [Hh];rfl,h2,rfl,W,fun _=>rfl,fun h=>by omega⟩
 |k+1,hk=>by
  obtain ⟨h,K,M,O,U,_,_⟩:=Rj m G g (a:=a) k A0;obtain ⟨r,z⟩:∃r,l[a+k]?=some r:=⟨_,Bk A0⟩;have E:(l.drop a)[k]?=some r:=by rw [Ly];exact z
  obtain ⟨I,_⟩:=m _ r z;have J:r.p=((a+k:Nat):Int)+1:=I.pos
  have y:Ef h r st:=⟨I.ok,U,g,by rw [M];exact J⟩;refine ⟨Fb h r st,by rw [Ju K E,B2 y],by show r.p=_;rw [J];rfl,?_,⟨⟨by show 0<=r.p;omega,by show r.p<=10000;omega⟩,R5 _ _,g⟩,fun h=>by omega,fun _=>rfl⟩;show OU h.ch _=_
  rw [O,show a+(k+1)=a+k+1 by omega,Lm z];rfl
theorem ZW{l:List Bz}(m:Dy l)(g:l.length<=9000){a b:Nat}(M:a<=b)(O:b<=l.length):FW (Ep l a) (FD l a b) (Ep l b):=by
 obtain ⟨J,_,_⟩:=KA m g a A0;obtain ⟨h2,K,W⟩:=KA m g b O;obtain ⟨h,E,y,z,U,G,I⟩:=Rj m g h2.2.2 (a:=a) (b -a) A0;refine ⟨J,h2,?_⟩;unfold FD;rw [E];rcases P2 (b -a)with h0|h0
 · rw [G h0,show a=b by omega]
 · rw [show a+(b -a)=b by omega]at y z
   exact congrArg some (ic.2 ⟨by rw [y,K],z,I h0⟩)
theorem ZX{l:List Bz}(G:Dy l)(z:l.length<=9000){a b:Nat}(E:a<=b)(I:b<=l.length){u:D5}(h:FW (Ep l a) (FD l a b) u):u.p=(b:Int):=by
 obtain ⟨w,m,y,_⟩:=Rj G z h.2.1.2.2 (a:=a) (b -a) A0;have g:=h.2.2
 unfold FD at g;rw [m]at g;injection g with g
 rw [<-g,y];congr 1;omega
theorem Jj.eqv_refl(a:Jj):a.eqv a:=⟨rfl,rfl,rfl,rfl,rfl,rfl,rfl⟩
theorem RB{l:List Bz}(g:Dy l)(z:l.length<=20){a b:Nat}(m:a<=b)(E:b<=l.length){q:QM}(I:BH q){x:Jj}(h:Ee l a b q=some x):Eg (Ep l a) (Ep l b) x:=by
 obtain ⟨K,hn⟩:=g.rows a A0;obtain ⟨e,_⟩:=Hr g z m E I h;have h2:=(KA g A0 b E).2.1
 obtain ⟨_,J,G⟩:=KA g A0 a A0;unfold Ee at h;have hx:x.q=q/\x.base=(a:Int)/\x.ranges=EQ (Bq (l.take a)) q/\x.recs=FD l a b/\x.until_=(b:Int):=by rw [e];exact ⟨rfl,rfl,rfl,rfl,rfl⟩
 refine ⟨by rw [J,hx.2.1],by rw [h2,hx.2.2.2.2],by rw [hx.2.2.2.1];exact ZW g A0 m E,fun y hy=>?_,x,by rw [hx.1,hx.2.1,hx.2.2.1,hx.2.2.2.1];exact h,x.eqv_refl⟩;rw [G];exact kw K hn (g.rowsOk a A0) I y (by rw [<-hx.2.2.1];exact hy)
theorem fM{l:List Bz}(J:Dy l)(E:l.length<=20){a b:Nat}(m:a<=b)(I:b<=l.length){q:QM}(M:BH q){x y:Jj}(h:Ee l a b q=some x)(hy:y.q=x.q/\y.base=x.base/\y.ranges=x.ranges/\y.recs=x.recs){u:D5}:Eg (Ep l a) u y->y.eqv x/\u.p=y.until_/\u.p=(b:Int):=fun hc=>by
 obtain ⟨e,_⟩:=Hr J E m I M h;have hx:x.q=q/\x.base=(a:Int)/\x.ranges=EQ (Bq (l.take a)) q/\x.recs=FD l a b:=by rw [e];exact ⟨rfl,rfl,rfl,rfl⟩
 obtain ⟨_,h2,G,_,z,g,K⟩:=hc;rw [hy.1,hy.2.1,hy.2.2.1,hy.2.2.2,hx.1,hx.2.1,hx.2.2.1,hx.2.2.2]at g;unfold Ee at h;rw [h]at g;injection g with g
 subst g;rw [hy.2.2.2,hx.2.2.2]at G;exact ⟨K,h2,ZX J A0 m I G⟩
def exC(k n:Int):Chg:=⟨0,k,false,⟨0,0,0⟩,true,⟨n,0,0⟩⟩
def exL(p1 p2 p3:C1):List Bz:=[⟨1,p1,1,[exC 5 10]⟩,⟨2,p2,1,[exC 6 99]⟩,⟨3,p3,1,[exC 7 11]⟩]
def exQ:QM:=⟨3,0,1,10,19,0,0⟩
theorem Hq:BH exQ:=by decide
theorem yD{p k n:Int}(g:1<=p/\p<=10000)(h:(exC k n).ok):Es p [exC k n]:=⟨g,⟨B4 _,by show 1<=8;decide⟩,fun i c hc=>by
 match i,hc with
 |0,hc=>injection hc with hc;rw [<-hc];exact h
 |i+1,hc=>simp at hc,fun i b c m hc=>by simp at hc⟩
def exR:Nat->List AV
 |0=>[]
 |1=>[⟨0,5,⟨10,0,0⟩⟩]
 |2=>[⟨0,5,⟨10,0,0⟩⟩,⟨0,6,⟨99,0,0⟩⟩]
 |_=>[⟨0,5,⟨10,0,0⟩⟩,⟨0,6,⟨99,0,0⟩⟩,⟨0,7,⟨11,0,0⟩⟩]
theorem iq(g m y:C1):Bq ((exL g m y).take 0)=exR 0/\Bq ((exL g m y).take 1)=exR 1/\Bq ((exL g m y).take 2)=exR 2/\Bq ((exL g m y).take 3)=exR 3:=⟨rfl,by kernel_rfl,by kernel_rfl,by kernel_rfl⟩
theorem fD{rs:List AV}{p k n:Int}(m:1<=p+1/\p+1<=10000)(h:(exC k n).ok)(g:Gy rs (exC k n))(hz:IG rs [exC k n]<=2000):Ns rs p (p+1) [exC k n]:=⟨yD m h,rfl,fun c hc=>by rw [HA.1 hc];exact g,hz⟩
theorem fE(m y z:C1):Dy (exL m y z):=fun i r g=>by
 obtain ⟨h0,E,h2,_⟩:=iq m y z
 match i,g with
 |0,g=>injection g with g;subst g;rw [h0];exact ⟨fD (p:=0) AH AH (by unfold Gy;decide) AH,by show 1<=3;decide⟩
 |1,g=>injection g with g;subst g;rw [E];exact ⟨fD (p:=1) AH AH (by unfold Gy;decide) AH,by show 1<=3;decide⟩
 |2,g=>injection g with g;subst g;rw [h2];exact ⟨fD (p:=2) AH AH (by unfold Gy;decide) AH,by show 1<=3;decide⟩
 |i+3,g=>simp [exL]at g
theorem rZ(z m g:C1):(∃x,Ee (exL z m g) 1 2 exQ=some x/\x.res.val=1/\x.since=1/\x.until_=2)/\∃y,Ee (exL z m g) 1 3 exQ=some y/\y.res.val=2/\y.since=3/\y.until_=3:=by
 have G:=fE z m g;obtain ⟨_,_,h2,X⟩:=iq z m g;have K:1<=exQ.kd/\exQ.kd<=4:=by decide
 refine ⟨?_,?_⟩
 · cases h:Ee (exL z m g) 1 2 exQ with
   |none=>exact absurd h (R8 G (by show 3<=20;decide) AH (by show 2<=3;decide) Hq K)
   |some x=>
    obtain ⟨e,J⟩:=Hr G (by show 3<=20;decide) AH (by show 2<=3;decide) Hq h;refine ⟨x,rfl,?_,?_,by rw [e];rfl⟩;· rw [e,h2];exact (by decide:(EI (exR 2) exQ).val=1)
    · obtain ⟨⟨M,O⟩,U,_⟩:=J
      rcases (by omega:x.since=1\/x.since=2)with h9|h9
      · exact h9
      · obtain ⟨j,r,Z,I,E⟩:=U (by rw [h9];decide)
        obtain rfl:j=1:=by omega
        injection I with I
        subst I;have:Pw exQ ⟨2,m,1,[exC 6 99]⟩=false:=(by decide:[exC 6 99].any (DZ exQ)=false)
        rw [this]at E;cases E
 · cases h:Ee (exL z m g) 1 3 exQ with
   |none=>exact absurd h (R8 G (by show 3<=20;decide) AH (by show 3<=3;decide) Hq K)
   |some x=>
    obtain ⟨e,J⟩:=Hr G (by show 3<=20;decide) AH (by show 3<=3;decide) Hq h;refine ⟨x,rfl,?_,?_,by rw [e];rfl⟩;· rw [e,X];exact (by decide:(EI (exR 3) exQ).val=2)
    · obtain ⟨⟨M,O⟩,_,W⟩:=J
      rcases (by omega:x.since=3\/x.since<=2)with h9|h9
      · exact h9
      · have E:=W 2 ⟨3,g,1,[exC 7 11]⟩ A0 AH rfl
        have:Pw exQ ⟨3,g,1,[exC 7 11]⟩=true:=(by decide:[exC 7 11].any (DZ exQ)=true);rw [this]at E;cases E
theorem rW(m y g:C1):Cy exQ 1 (EQ (Bq ((exL m y g).take 1)) exQ) (FD (exL m y g) 2 3)=none:=by
 have z:=fE m y g;obtain ⟨I,hn⟩:=z.rows 1 (by show 1<=3;decide);have E:=GL I hn (z.rowsOk 1 (by show 1<=3;decide)) Hq (Fs z (by show 3<=20;decide) (by show 1<=3;decide) exQ)
 rw [Jt E (by show 1<=64;decide)];rw [show FD (exL m y g) 2 3=[⟨3,g,1,[exC 7 11]⟩] from rfl];unfold II;rw [Ax (fun G=>by have:=G.2.2;revert this;show(3:Int)=1+1+((0:Nat):Int)->False;decide)];rfl
theorem j4{g o c sz a:Nat}(h:a<c):EJ (some ⟨g,o,none⟩) a c sz=some ⟨g,o+a*sz,none⟩:=by
 unfold EJ;rw [Ax A0,N5,Cq]
theorem CZ.sub{M:List AR}{p:C1}{n cap a b:Nat}{rs:List AV}(h:CZ M (.slice p n cap) rs)(J:a<=b)(K:b<=rs.length):CZ M (.slice (EJ p a cap 5) (b -a) (cap -a)) ((rs.drop a).take (b -a)):=by
 obtain ⟨O,y,e,E,z⟩:=h;injection e with e1 e2 e3
 subst e1 e2 e3;refine ⟨_,_,by rw [CI,D4,OR A0],by rw [CI,D4];omega,fun i x hx=>?_⟩;rw [I3]at hx;split at hx
 · rw [Ly]at hx
   obtain ⟨g,off,cur,T,zz,rfl,G,I,m⟩:=z (a+i) x hx;rw [j4 A0];exact ⟨g,_,cur,T,zz,rfl,G,by omega,by rw [show off+a*5+i*5=off+(a+i)*5 by omega];exact m⟩
 · cases hx
theorem GG.sub{M:List AR}{p:C1}{n cap a b:Nat}{ps:List (List Bs)}(h:GG M (.slice p n cap) ps)(J:a<=b)(K:b<=ps.length):GG M (.slice (EJ p a cap 1) (b -a) (cap -a)) ((ps.drop a).take (b -a)):=by
 obtain ⟨O,y,e,E,z⟩:=h;injection e with e1 e2 e3
 subst e1 e2 e3;refine ⟨_,_,by rw [CI,D4,OR A0],by rw [CI,D4];omega,fun i x hx=>?_⟩;rw [I3]at hx;split at hx
 · rw [Ly]at hx
   obtain ⟨q,c,I,g,off,cur,T,zz,rfl,G,m⟩:=z (a+i) x hx;rw [j4 A0];exact ⟨q,c,I,g,_,cur,T,zz,rfl,G,by rw [show off+a*1+i=off+(a+i) by omega];exact m⟩
 · cases hx
def wT(a b:List Bs):Prop:=∃x∈a,∃y∈b,x≠y/\sha x=sha y
theorem wT.mono{a b g m:List Bs}(h:wT a b)(z:∀x∈a,x∈g)(E:∀x∈b,x∈m):wT g m:=by
 obtain ⟨x,hx,y,hy,h⟩:=h;exact ⟨x,z x hx,y,E y hy,h⟩
noncomputable instance(a b:List Bs):Decidable (wT a b):=Classical.propDecidable _
theorem nO(l:List Bs):∀u∈l.map EF,u.oneCell'=true:=by
 intro u g;obtain ⟨x,_,rfl⟩:=HX.1 g;rfl
def Nq(r:AV)(j:Nat):AV:=⟨r.t,r.k,⟨if j=0 then r.v.a+1 else r.v.a,if j=1 then r.v.b+1 else r.v.b,if j=2 then r.v.c+1 else r.v.c⟩⟩
theorem UF{rs:List AV}{k:Nat}(m:k<rs.length)(g:AV):(Aa rs).take (k*5)++Aa [g]++(Aa rs).drop (k*5+(Aa [g]).length)=Aa (rs.set k g):=by
 rw [BG,show k*5+[g].length*5=(k+1)*5 by simp;omega,DV,DF,<-BR,<-BR,fb,B2 m,G0];rfl
theorem Wl{rs:List AV}{k j:Nat}{r g:AV}{v:A3}(h:rs[k]?=some r)(y:j<5)(hv:(Aa [r]).set j v=Aa [g]):(Aa rs).set (k*5+j) v=Aa (rs.set k g):=by
 have m:=(D3.1 h).1;have e:(Aa (rs.take k)).length=k*5:=by rw [BG,CI];omega
 rw [<-UF m,Uq h,fk (h:=by omega),e,ie,List.set_append_left (h:=by rw [BG];simp;omega),hv,L7 e,G0];congr 2;rw [<-G0,SJ (by rw [C7,e,BG,BG];rfl)]
theorem I1{sz:Nat}{e:An}{v:A3}{k:Nat}{xs:List A3}{s:List AR}(h:BS sz e v k xs s)(O:0<k):∃g cap cur z,v=I6 g k cap/\s=[(g,.cells cur e z)]/\k<=cap/\cur.size=cap*sz/\(∀(i:Nat) (u:A3),xs[i]?=some u->cur[i]?=some u)/\M6 z cur.size:=by
 obtain ⟨K,⟨_,h0,_⟩|⟨g,cap,cur,z,rfl,rfl,G,J,m,I,y⟩⟩:=h;· omega
 · refine ⟨g,cap,cur,z,rfl,rfl,G,m,fun i u M=>?_,y⟩
   have E:CY cur 0 xs:=by unfold CY;rw [RR,K];exact I
   have:=E.get i u M;rwa [Dd]at this
theorem Xx{M:List AR}{p:C1}{n cap:Nat}{ls:List Bs}(h:DU M (.slice p n cap) ls):Gc M p (ls.map EF):=by
 obtain ⟨K,y,e,J,E⟩:=h;injection e with e1 e2 e3
 subst e1;intro j u z;rw [HL]at z;obtain ⟨s,I,rfl⟩:=fj.1 z;obtain ⟨g,off,cur,T,zz,rfl,G,m⟩:=E j s I;exact ⟨g,off,cur,T,zz,V,G,m⟩
theorem FV.mono{M M':List AR}{g:List A3}{ps:List (List Bs)}(h:FV M g ps)(y:∀c∈M,c∈M'):FV M' g ps:=⟨h.1,fun i v l hv m=>(h.2 i v l hv m).mono y⟩
theorem FV.set{M:List AR}{z:List A3}{ps:List (List Bs)}(h:FV M z ps)(k:Nat){v:A3}{l:List Bs}(hv:DU M v l):FV M (z.set k v) (ps.set k l):=by
 refine ⟨by rw [Hb,Hb,h.1],fun i w m y g=>?_⟩;rw [eW]at y g;split at y
 · rename_i e
   rw [B2 e]at g;split at y
   · split at g
     · injection y with y
       injection g with g
       rw [<-y,<-g];exact hv
     · cases g
   · cases y
 · rename_i e
   rw [Ax e]at g;exact h.2 i w m y g
theorem FV.erase{M:List AR}{g:List A3}{ps:List (List Bs)}(h:FV M g ps)(k:Nat):FV M (g.take (k*1)++g.drop ((k+1)*1)) (ps.eraseIdx k):=by
 rw [MA,MA,<-List.eraseIdx_eq_take_drop_succ];refine ⟨by rw [List.length_eraseIdx,List.length_eraseIdx,h.1],fun i v l hv m=>?_⟩;rw [List.getElem?_eraseIdx]at hv m;split at hv
 · rename_i e
   rw [B2 e]at m;exact h.2 i v l hv m
 · rename_i e
   rw [Ax e]at m;exact h.2 _ v l hv m
theorem FV.one{M:List AR}{g:List A3}{ps:List (List Bs)}(h:FV M g ps):∀u∈g,u.oneCell'=true:=by
 intro u y;obtain ⟨i,hi⟩:=JT y;have m:=(D3.1 hi).1
 obtain ⟨p,cap,rfl,_⟩:=h.2 i u _ hi (Bk (by rw [<-h.1];exact m));rfl
theorem WY{c:As}{i:Nat}{v:A3}(h:i<c.size):(c.setIfInBounds i v)[i]?=some v:=by
 rw [Array.getElem?_setIfInBounds_self,B2 h]
structure wS(x:RP)(B:Int):Prop where
 lo:-B<=x.lo/\x.lo<=B
 hi:-B<=x.hi/\x.hi<=B
 ct:-B<=x.ct/\x.ct<=B
 fi:-B<=x.fi/\x.fi<=B
 row:∀r∈x.rows,(-B<=r.v.a/\r.v.a<=B)/\(-B<=r.v.b/\r.v.b<=B)/\(-B<=r.v.c/\r.v.c<=B)
def bF(r:AV)(j:Nat):Int:=if j=0 then r.v.a else if j=1 then r.v.b else r.v.c
theorem fV(r:AV){j:Nat}(g:j<3):(Aa [r]).set (2+j) (I4 (bF r j+1))=Aa [Nq r j]:=by
 match j,g with
 |0,_=>rfl
 |1,_=>rfl
 |2,_=>rfl
theorem jM(r:AV){j:Nat}(g:j<3):(Aa [r])[2+j]?=some (I4 (bF r j)):=by
 match j,g with
 |0,_=>rfl
 |1,_=>rfl
 |2,_=>rfl
section
variable{x:RP}{a b c:Int}
end
theorem om(c:Int)(n:Nat)(hn:0<n)(m:n<=1000000)(y:-9223372036854775808<=c)(h2:c<=9223372036854775807):BB prog 26 #[I4 c,I4 (n:Int)] [] (I4 (CU c n:Int)):=by
 refine Se func26 ntmps26 [0,1] ?_;intro u R;refine A2<|AF Y<|C0 Y<|Zv (Dq Y Y)<|A6<|Ad Y (fun g=>?_) (fun g=>?_);focus
  refine Zg<|Zm Y<|Yi Y Y ?_
  (refine BN (TA Y (IntWalk.i64_in _ ?_)) ?_;(focus (omega)))
  refine Za Y<|Z0 ?_
 rotate_left
 focus
  refine AB ?_
 all_goals
  refine BT<|Sk 2 V ?_
  (refine BN (Me Y Y ?_ rfl) ?_;(focus (omega)))
  refine AM Y<|AO rfl results26 Y (by exact ⟨by rw [<-Sn];simp [*],rfl⟩)
theorem Mc(c:Int)(n:Nat)(hn:0<n)(m:n<=1000000)(y:-9223372036854775808<=c)(h2:c<=9223372036854775807):BB prog 71 #[I4 c,I4 (n:Int)] [] (I4 (CU c n:Int)):=by
 refine Se func71 ntmps71 [0,1] ?_;intro u R;refine A2<|AF Y<|C0 Y<|Zv (Dq Y Y)<|A6<|Ad Y (fun g=>?_) (fun g=>?_);focus
  refine Zg<|Zm Y<|Yi Y Y ?_
  (refine BN (TA Y (IntWalk.i64_in _ ?_)) ?_;(focus (omega)))
  refine Za Y<|Z0 ?_
 rotate_left
 focus
  refine AB ?_
 all_goals
  refine BT<|Sk 2 V ?_
  (refine BN (Me Y Y ?_ rfl) ?_;(focus (omega)))
  refine AM Y<|AO rfl results71 Y (by exact ⟨by rw [<-Sn];simp [*],rfl⟩)
set_option maxHeartbeats 1000000 in
theorem oV(g z Z q3 I:Int)(J:-9223372036854775808<=g)(K:g<=9223372036854775807)(M:-9223372036854775808<=z)(O:z<=9223372036854775807)(af:-9223372036854775808<=Z)(ax:Z<=9223372036854775807)(bf:-9223372036854775808<=q3)(bn:q3<=9223372036854775807)(E:-9223372036854775808<=I)(G:I<=9223372036854775807):CJ prog 27 #[.agg #[I4 g,I4 z,I4 Z,I4 q3,I4 I]] [] (fun r H'=>∃q:QM,BH q/\r= .agg q.Ax4/\H'=[]):=by
 have y:=J3 7 AH J K;have cu:=Dp (g.tdiv 7) 3 AH
 have U:=J3 9 AH M O;have cO:=Dp (z.tdiv 9) 4 AH
 have W:=J3 3 AH E G;have d9:=Dp (I.tdiv 3) 3 AH
 have X:=J3 9 AH E G;have ek:=Dp (I.tdiv 9) 3 AH
 have gm:=Dp g 7 AH;have gq:=Dp z 9 AH
 have gy:=Dp Z 14 AH;have kv:=Dp q3 14 AH
 have kz:=Dp I 3 AH;refine Se func27 ntmps27 [0] ?_;intro u R;refine A2<|Ze (Bx #[_,_,_,_,_])<|AE fun bx=>Ze (Al V0 #[_,_,_,_,_,_,_])<|AE fun br=>A6<|Zb [1,2] ?_;refine C9 (e0:=[]) (H0:=[]) (fun e H=>∃(bq:Nat),(True)/\e=[(3,I5 bq)]/\H=[[(bq,.cells #[I4 ((1+CU g 7:Nat):Int),I4 (CU (g.tdiv 7) 3:Int),I4 0,I4 0,I4 0,I4 0,I4 0] 30 (0,0))]]) Wp ?hx_1 ?hy_1
 case hx_1=>
  refine Au (n:=11) (0::1::3::7::0::16::48::119::255::0::1023::[]) 1668 AG AG rfl<|A1 0 rfl (Ap (j:=0) Up A4 Y Y Fl)<|B6 1 rfl A5 Y ?_;refine A1 4 rfl (Ap (j:=0) Up A4 Y Y Fl)<|B6 5 rfl A5 Y ?_;refine A1 6 V (Ve (m:=g) (n:=7) Y Y AH (IntWalk.i64_in _ (by have:=J3 7 AH J K;omega)))<|Zz (l:=[2,9])<|C6 [true,false] [(5,(_,_))] V rfl (Zu [_,_] Y W8 Y V (Mc g 7 AH AH J K)) ?hk_2 (fun _ _ h=>h.elim) ?hl_2
  case' hk_2=>
   rintro _ _ ⟨rfl,rfl⟩;refine CA<|A1 3 V (Ce (m:=1) Y Y A0)<|Zz (l:=[7,9])<|C6 [false] [] V rfl (Zu [_,_] Y W8 Y V (Mc (g.tdiv 7) 3 AH AH y.1 y.2)) ?hk_3 (fun _ _ h=>h.elim) ?hl_3
   case' hk_3=>
    rintro _ _ ⟨rfl,rfl⟩;refine CA<|A1 8 V (BK (vs:=[(0,I4 ((1+CU g 7:Nat):Int)),(1,I4 (CU (g.tdiv 7) 3:Int))]) (cs:=#[I4 ((1+CU g 7:Nat):Int),I4 (CU (g.tdiv 7) 3:Int),I4 0,I4 0,I4 0,I4 0,I4 0]) Y (AY (pl:=#[(0,1),(1,1),(2,1),(3,1),(4,1),(5,1),(6,1)]) V0 CH (fun _=>by kernel_rfl) AG))<|Yw 9 1023 V (Al V0 #[_,_,_,_,_,_,_])<|AE fun bq=>Yw 10 2047 V (Xw CN #[I4 ((1+CU g 7:Nat):Int),I4 (CU (g.tdiv 7) 3:Int),I4 0,I4 0,I4 0,I4 0,I4 0])<|DA<|Am<|HC (by exact ⟨bq,trivial,V,V⟩)
   case' hl_3=>
    refine C6 [true] [(5,(_,_))] V rfl (Al V0 #[_,_,_,_,_,_,_]) ?hk_7 (fun _ _ h=>h.elim) ?hl_7
    case' hk_7=>
     rintro _ _ ⟨bq,rfl,rfl⟩;refine ⟨Zk (Ab),?_⟩
    case' hl_7=>
     exact Ar
  case' hl_2=>
   refine C6 [true,true] [(5,(_,_)),(1,(_,_))] V rfl (Al V0 #[_,_,_,_,_,_,_]) ?hk_11 (fun _ _ h=>h.elim) ?hl_11
   case' hk_11=>
    rintro _ _ ⟨bq,rfl,rfl⟩;refine CA<|Yz 2 3 631 [5,1] [true,false] [(5,(_,_))] V Y V rfl V rfl (Zu [_,_] Y W8 Y V (Mc g 7 AH AH J K))<|DA<|CA<|A1 3 V (Ce (m:=1) Y Y A0) ?_
   case' hl_11=>
    exact Ar
  all_goals
   refine Yw 7 767 V (Zu [_,_] Y W8 Y V (Mc (g.tdiv 7) 3 AH AH y.1 y.2))<|DA<|A1 8 V (BK (vs:=[(0,I4 ((1+CU g 7:Nat):Int)),(1,I4 (CU (g.tdiv 7) 3:Int))]) (cs:=#[I4 ((1+CU g 7:Nat):Int),I4 (CU (g.tdiv 7) 3:Int),I4 0,I4 0,I4 0,I4 0,I4 0]) Y (AY (pl:=#[(0,1),(1,1),(2,1),(3,1),(4,1),(5,1),(6,1)]) V0 CH (fun _=>by kernel_rfl) AG))<|Yw 10 2047 V (Xw CN #[I4 ((1+CU g 7:Nat):Int),I4 (CU (g.tdiv 7) 3:Int),I4 0,I4 0,I4 0,I4 0,I4 0])<|DA<|Am<|HC (by exact ⟨bq,trivial,V,V⟩)
 rintro _ _ ⟨bq,_,rfl,rfl⟩;refine Zq<|A2<|Zh 0 CH V rfl A4 Y<|Zl A5 Y ?_;refine Zv (Bg (n:=1) Y Y)<|A6<|Ad Y (fun k1=>?_) (fun k1=>?_);·
  refine A2<|BN (Ap (j:=1) Up A4 Y Y Fl)<|Zl A5 Y ?_;refine Xr [_,_] Y W8 Y V (Mc z 9 AH AH M O) ?_;refine Ya (m:=1) Y Y<|Zh 3 CH rfl rfl A4 Y<|Xe (Zs A4 Y Y rfl (hi:=by first|omega|decide|(simp;done))) ?_;refine A6<|A2<|Zh 3 CH V rfl A4 Y<|Zl A5 Y ?_;refine Zh 4 CH rfl rfl A4 Y<|Xe (Zs A4 Y Y rfl (hi:=by first|omega|decide|(simp;done))) ?_;refine Z0<|Zn [2,3] ?_;refine BT<|Zo Wh (A7 (cs:=#[_,_,_,_,_,_,_]) DE CN Y Wb (by exact AP V)) ?_;refine Xe (Ao CN Y Y Ft Wu (by exact Bj rfl) DO Wb (by exact Aw _)) ?_;refine A6<|AC<|Zt<|Df V results27 Y Wh (Ai DE CN Wn (AP V)) (by exact ⟨⟨((1+CU g 7:Nat):Int),(CU (g.tdiv 7) 3:Int),0,((1+CU z 9:Nat):Int),((1+CU z 9:Nat):Int),0,0⟩,NA A0,V,V⟩)
 refine AB<|BT<|BN (Ap (j:=1) Up A4 Y Y Fl)<|Zl A5 Y ?_;refine Zv (Ve (m:=z) (n:=9) Y Y AH (IntWalk.i64_in _ (by have:=J3 9 AH M O;omega)))<|Xr [_,_] Y W8 Y V (Mc (z.tdiv 9) 4 AH AH U.1 U.2) ?_;refine Zh 2 CH rfl rfl A4 Y<|Xe (Zs A4 Y Y rfl (hi:=by first|omega|decide|(simp;done))) ?_;refine A6<|A2<|BN (Ap (j:=2) Up A4 Y Y Fl)<|Zl A5 Y ?_;refine Xr [_,_] Y W8 Y V (Mc Z 14 AH AH af ax) ?_
 (refine BN (GI Y Y (IntWalk.i64_in _ ?_)) ?_;(focus (omega)))
 refine Zh 3 CH rfl rfl A4 Y<|Xe (Zs A4 Y Y rfl (hi:=by first|omega|decide|(simp;done))) ?_;refine Z0<|Zn [1,2,3] ?_;refine Zx<|Zq<|Au (n:=8) (0::1::0::4::12::31::63::127::[]) 144 AG AG V<|A1 0 V (AL (off:=3) CH V rfl A4 Y)<|B6 1 V A5 Y ?_;refine A1 2 rfl (Ap (j:=3) Up A4 Y Y Fl)<|B6 3 rfl A5 Y ?_;refine Yz 4 12 31 [3,1] [false,true] [(1,(_,_))] V Y V rfl V rfl (Zu [_,_] Y W8 Y V (Mc q3 14 AH AH bf bn)) ?_;rintro _ _ ⟨rfl,rfl⟩;refine ⟨Zk (Ab),?_⟩
 (refine Dr (D':=63) 5 (Fw Y Y (IntWalk.i64_in _ ?_)) ?_;(focus (omega)))
 refine A1 6 rfl (AL (off:=4) CH rfl rfl A4 Y)<|Zz (l:=[7])<|C6 [false] [] rfl rfl (Zs A4 Y Y rfl (hi:=by first|omega|decide|(simp;done))) ?_ (fun _ _ h=>h.elim) Ar;rintro _ _ ⟨rfl,rfl⟩;refine CA<|Am<|Zx<|Zb [1,2,3] ?_;refine C9 (e0:=[]) (H0:=[[(bq,.cells #[I4 ((1+CU g 7:Nat):Int),I4 (CU (g.tdiv 7) 3:Int),I4 (CU (z.tdiv 9) 4:Int),I4 ((CU Z 14:Int) -2),I4 ((CU Z 14:Int) -2+(CU q3 14:Int)),I4 0,I4 0] 30 (0,0))]]) (fun e H=>∃(lo hi:Int),(-100<=lo/\lo<=hi/\hi<=100)/\e=[]/\H=[[(bq,.cells #[I4 ((1+CU g 7:Nat):Int),I4 (CU (g.tdiv 7) 3:Int),I4 (CU (z.tdiv 9) 4:Int),I4 lo,I4 hi,I4 0,I4 0] 30 (0,0))]]) Wp ?hx_19 ?hy_19
 case hx_19=>
  refine A2<|Zh 2 CH V rfl A4 Y<|Zl A5 Y ?_;refine Zv (Bg (n:=3) Y Y)<|A6<|Ad Y (fun k2=>?_) (fun k2=>?_);·
   refine A2<|Zh 3 CH V rfl A4 Y<|Zl A5 Y ?_
   (refine BN (Yh Y Y (IntWalk.i64_in _ ?_)) ?_;(focus (omega)))
   (refine BN (GI Y Y (IntWalk.i64_in _ ?_)) ?_;(focus (omega)))
   refine Zh 3 CH rfl rfl A4 Y<|Xe (Zs A4 Y Y rfl (hi:=by first|omega|decide|(simp;done))) ?_;refine A6<|Zg<|Zh 4 CH V rfl A4 Y<|Zl A5 Y ?_
   (refine BN (Yh Y Y (IntWalk.i64_in _ ?_)) ?_;(focus (omega)))
   (refine BN (GI Y Y (IntWalk.i64_in _ ?_)) ?_;(focus (omega)))
   refine Zh 4 CH rfl rfl A4 Y<|Xe (Zs A4 Y Y rfl (hi:=by first|omega|decide|(simp;done))) ?_;refine Z0<|Zn [1,2,3] ?_;refine BD (e':=[]) (by(have h9:CU (z.tdiv 9) 4=3:=k2;exact ⟨((CU Z 14:Int) -2)*3 -20,((CU Z 14:Int) -2+(CU q3 14:Int))*3 -20,⟨by omega,by omega,by omega⟩,V,V⟩))
  refine AB<|HC (by exact ⟨(CU Z 14:Int) -2,(CU Z 14:Int) -2+(CU q3 14:Int),⟨by omega,by omega,by omega⟩,V,V⟩)
 rintro _ _ ⟨lo,hi,⟨mR,lv,l9⟩,rfl,rfl⟩;refine Zb [1,2,3] ?_;refine C9 (e0:=[]) (H0:=[[(bq,.cells #[I4 ((1+CU g 7:Nat):Int),I4 (CU (g.tdiv 7) 3:Int),I4 (CU (z.tdiv 9) 4:Int),I4 lo,I4 hi,I4 0,I4 0] 30 (0,0))]]) (fun e H=>∃(b9:Int),((3<=CU g 7/\1<=b9/\b9<=3)\/(CU g 7<3/\b9=0))/\e=[]/\H=[[(bq,.cells #[I4 ((1+CU g 7:Nat):Int),I4 (CU (g.tdiv 7) 3:Int),I4 (CU (z.tdiv 9) 4:Int),I4 lo,I4 hi,I4 b9,I4 0] 30 (0,0))]]) Wp ?hx_22 ?hy_22
 case hx_22=>
  refine A2<|Zh 0 CH V rfl A4 Y<|Zl A5 Y ?_;refine Zv (El (n:=4) Y Y)<|A6<|Ad Y (fun k3=>?_) (fun k3=>?_);·
   refine Zg<|BN (Ap (j:=4) Up A4 Y Y Fl)<|Zl A5 Y ?_;refine Xr [_,_] Y W8 Y V (Mc I 3 AH AH E G) ?_;refine Ya (m:=1) Y Y<|Zh 5 CH rfl rfl A4 Y<|Xe (Zs A4 Y Y rfl (hi:=by first|omega|decide|(simp;done))) ?_;refine Z0<|HC (by exact ⟨((1+CU I 3:Nat):Int),.inl ⟨by omega,by omega,by omega⟩,V,V⟩)
  refine AB<|HC (by exact ⟨0,.inr ⟨by omega,V⟩,V,V⟩)
 rintro _ _ ⟨b9,l8,rfl,rfl⟩;refine Zb [1,2,3] ?_;refine C9 (e0:=[(1,_)]) (H0:=[[(bq,.cells #[I4 ((1+CU g 7:Nat):Int),I4 (CU (g.tdiv 7) 3:Int),I4 (CU (z.tdiv 9) 4:Int),I4 lo,I4 hi,I4 b9,I4 0] 30 (0,0))]]) (fun e H=>∃(b8 o8:Int),(BH ⟨((1+CU g 7:Nat):Int),(CU (g.tdiv 7) 3:Int),(CU (z.tdiv 9) 4:Int),lo,hi,b8,o8⟩)/\e=[]/\H=[[(bq,.cells #[I4 ((1+CU g 7:Nat):Int),I4 (CU (g.tdiv 7) 3:Int),I4 (CU (z.tdiv 9) 4:Int),I4 lo,I4 hi,I4 b8,I4 o8] 30 (0,0))]]) Wp ?hx_25 ?hy_25
 case hx_25=>
  refine A2<|Zh 0 CH V rfl A4 Y<|Zl A5 Y ?_;refine Zv (Bg (n:=7) Y Y)<|A6<|Ad Y (fun k4=>?_) (fun k4=>?_);·
   refine A2<|BN (Ap (j:=4) Up A4 Y Y Fl)<|Zl A5 Y ?_;refine Zv (Ve (m:=I) (n:=3) Y Y AH (IntWalk.i64_in _ (by have:=J3 3 AH E G;omega)))<|Xr [_,_] Y W8 Y V (Mc (I.tdiv 3) 3 AH AH W.1 W.2) ?_;refine Zh 6 CH rfl rfl A4 Y<|Xe (Zs A4 Y Y rfl (hi:=by first|omega|decide|(simp;done))) ?_;refine A6<|A2<|BN (Ap (j:=4) Up A4 Y Y Fl)<|Zl A5 Y ?_;refine Zv (Ve (m:=I) (n:=9) Y Y AH (IntWalk.i64_in _ (by have:=J3 9 AH E G;omega)))<|Xr [_,_] Y W8 Y V (Mc (I.tdiv 9) 3 AH AH X.1 X.2) ?_;refine Zv (CW (n:=0) Y Y)<|Z0<|Zn [2,3,75] ?_;refine Zx<|Ad Y (fun k5=>?_) (fun k5=>?_);·
    refine Zg<|Zh 5 CH rfl rfl A4 Y<|Xe (Zs A4 Y Y rfl (hi:=by first|omega|decide|(simp;done))) ?_;refine Z0<|Zn [2,3] ?_;refine BD (e':=[]) (by(have h9:0<CU (I.tdiv 9) 3:=k5;exact ⟨2,(CU (I.tdiv 3) 3:Int),NA A0,V,V⟩))
   refine AB<|Zn [2,3] ?_;refine BD (e':=[]) (by(have h9:1+CU g 7=7:=k4;exact ⟨b9,(CU (I.tdiv 3) 3:Int),NA A0,V,V⟩))
  refine AB<|HC (by exact ⟨b9,0,NA A0,V,V⟩)
 rintro _ _ ⟨b8,o8,hv,rfl,rfl⟩;refine A2<|Zo Wh (A7 (cs:=#[_,_,_,_,_,_,_]) DE CN Y Wb (by exact AP V)) ?_;refine Xe (Ao CN Y Y Ft Wu (by exact Bj rfl) DO Wb (by exact Aw _)) ?_;refine A6<|AC<|Df V results27 Y Wh (Ai DE CN Wn (AP V)) (by exact ⟨⟨_,_,_,_,_,_,_⟩,hv,V,V⟩)
theorem od{M:List AR}{v:A3}{xs:List (List Int)}(G:Nr M v xs):CJ prog 25 #[v] [M] (fun r H'=>∃(l:List Bz) (s:List AR),Dy l/\(l.length<=20/\UA l)/\DD s r l/\H'=[s,M]):=by
 have J:=mL;obtain ⟨W,E,rfl,O,I⟩:=id G;have y:=nY G (min xs.length 20) (Nat.min_le_left _ _)
 have K:(xs.take (min xs.length 20)).length<=20:=by rw [CI];omega
 refine Se func25 ntmps25 [0] ?_;intro u R;refine A2<|AF Y<|A2<|Sk 2 rfl<|Zv (AJ eo Y)<|Zv (L8 (n:=20) Y Y)<|BN (Bb eo sizeOf184 Y Y (by first|omega|(simp;omega)))<|Zc [_] Y call70 Y rfl (y8 y A0) ?_;rintro _ _ ⟨_,⟨l,U,g,z,m,rfl⟩,rfl⟩;refine AM Y<|AO V results25 Y (by exact ⟨l,U,g,⟨by omega,z.2⟩,m,V⟩)
set_option maxHeartbeats 1000000 in
theorem YV{M:List AR}{v:A3}{xs:List (List Int)}(hX:Nr M v xs)(q0 q1 q2 q3 q4 g m:Int)(O:-9223372036854775808<=q0)(U:q0<=9223372036854775807)(W:-9223372036854775808<=q1)(X:q1<=9223372036854775807)(Z:-9223372036854775808<=q2)(af:q2<=9223372036854775807)(ax:-9223372036854775808<=q3)(bf:q3<=9223372036854775807)(bn:-9223372036854775808<=q4)(cO:q4<=9223372036854775807)(E:-9223372036854775808<=g)(G:g<=9223372036854775807)(I:-9223372036854775808<=m)(J:m<=9223372036854775807)(tw:A3):CJ prog 5 #[.agg #[v,I4 q0,I4 q1,I4 q2,I4 q3,I4 q4,I4 g,I4 m,tw]] [M] (fun r H'=>∃(l:List Bz) (p:C1) (cap:Nat) (s:List AR) (q:QM) (a b:Nat),Dy l/\(l.length<=20/\UA l)/\DD s (.slice p l.length cap) l/\BH q/\a<=b/\b<=l.length/\r= .tuple #[.slice p l.length cap,.agg q.Ax4,I4 (a:Int),I4 (b:Int)]/\H'=[s,M]):=by
 have kz:=mL;obtain ⟨py,y,rfl,l8,gq⟩:=id hX;refine Se func5 ntmps5 [0] ?_;intro u R;refine A2<|Ze (Bx #[.slice py xs.length y,I4 q0,I4 q1,I4 q2,I4 q3,I4 q4,I4 g,I4 m,tw])<|AE fun bc=>Za Y<|Ze (Al V0 #[_,_,_,_,_,_,_])<|AE fun bq=>Za Y<|AF Y<|A2<|Zh 0 dc V rfl sizeOf22 Y<|Zl isAgg22 Y ?_;refine Zc [_] Y call25 Y V (od hX) ?_;rintro _ _ ⟨_,⟨l,sl,K,gm,z,rfl⟩,rfl⟩;obtain ⟨pl,cl,rfl,gy,kv⟩:=id z;refine AF Y<|A2<|Zh 6 dc V rfl A4 Y<|Zl A5 Y ?_;refine Zm Y<|Zv (AJ G4 Y)<|Ya (n:=1) Y Y<|Xr [_,_] Y call26 Y V (om g (l.length+1) A0 A0 E G) ?_;obtain ⟨a,ha⟩:∃a,a=CU g (l.length+1):=⟨_,rfl⟩;rw [<-ha];have d9:=Dp g (l.length+1) A0
 rw [<-ha]at d9;refine AN Y<|Zn [1,3,6,7] ?_;refine Zx<|Zq<|Au (n:=19) (0::0::2::6::0::0::0::64::0::256::0::1792::3840::8142::16366::16335::49103::114655::262143::[]) 73736 AG AG V<|A1 0 V (AA Y)<|A1 1 V (AL (off:=1) dc V rfl sizeOf23 Y)<|Fo 2 V Wh (Pa #[_,_,_,_,_] isAgg23 sizeOf23 Y) ?_;refine A1 4 V (AA Y)<|A1 5 V (AA Y)<|A1 6 V (AL (off:=7) dc V rfl A4 Y)<|B6 7 V A5 Y ?_;refine A1 8 V (AA Y)<|A1 9 V (AJ G4 Y)<|A1 10 V (AA Y) ?_
 (refine Dr (D':=4087) 11 (C8 Y Y ?_ ?_) ?_;(focus (omega));(focus (omega)))
 refine A1 12 V (Ce (n:=1) Y Y A0)<|Zz (l:=[3])<|C6 [true,false] [(7,(_,_))] V rfl (Zw [_] Y call27 Y V (oV q0 q1 q2 q3 q4 O U W X Z af ax bf bn cO)) ?_ DC Ar;rintro _ _ ⟨_,⟨q,hq,rfl,rfl⟩,rfl⟩;refine CA<|Yw 13 16383 V (Zu [_,_] Y call26 Y V (om m (l.length -a+1) A0 A0 I J)) ?_;rintro _ _ ⟨rfl,rfl⟩;obtain ⟨d,hd⟩:∃d,d=CU m (l.length -a+1):=⟨_,rfl⟩;rw [<-hd];have ek:=Dp m (l.length -a+1) A0
 rw [<-hd]at ek;refine A1 14 rfl (Ce Y Y A0)<|A1 15 rfl (Aq Y)<|Zz (l:=[16])<|C6 [] [] rfl rfl (Ao CN Y Y Ft Wu (by exact Bj rfl) DO Wb (by exact Aw _)) ?_ (fun _ _ h=>h.elim) Ar;rintro _ _ ⟨rfl,rfl⟩;refine CA<|A1 17 V (Aq Y)<|A1 18 V (Aq Y)<|Am<|Zn [2,3,4,5] ?_;refine Zx<|AC<|dn V results5 Y Y Wh (Ai DE CN Wn (AP V)) Y Y (by exact ⟨l,pl,cl,sl,q,a,a+d,K,gm,z,hq,by omega,by omega,V,V⟩)
set_option maxHeartbeats 2000000 in
theorem mO{M:List AR}{p:C1}{cap:Nat}{l:List Bz}(G:DD M (.slice p l.length cap) l)(g:Dy l)(ax:l.length<=20)(a b:Nat)(U:a<=b)(hb:b<=l.length)(q:QM)(hq:BH q)(Z:An)(zg:Nat×Nat):CJ prog 23 #[.slice p l.length cap,I4 (a:Int),I4 (b:Int),.agg q.Ax4] [[(1,.cells (Dj.map CP).toArray Z zg)],M] (fun w H'=>∃(z:FI) (s mem:List AR) (t:Bool) (J:C1) (I:Nat),((t=true/\Ee l a b q=some z.a/\z.ok (s++mem++M))\/(t=false/\Ee l a b q=none/\z=AZ0))/\Et mem (.slice J (EQ (Bq (l.take a)) q).length I) (EQ (Bq (l.take a)) q)/\w= .tuple #[.agg #[I4 q.kd,I4 q.tb,I4 q.cl,I4 q.lo,I4 q.hi,I4 q.bq,I4 q.ot,I4 0,I4 (a:Int),.slice J (EQ (Bq (l.take a)) q).length I],.agg z.Ax5,.bool t]/\H'=[s,mem,[(1,.cells (Dj.map CP).toArray Z zg)],M]):=by
 have gm:=mL;obtain ⟨p9,bn,e9,⟨d9,ek⟩,_⟩:=id G;injection e9 with e91 e92 e93
 subst e91 e93;obtain ⟨hs,hn⟩:=g.rows a A0;have X:=g.rowsOk a A0
 have E:=Fs g ax (by omega:a<=l.length) q;have K:=GL hs hn X hq E
 have bf:=Jr (Bq (l.take a)) q;obtain ⟨L,hL⟩:∃L,L=EQ (Bq (l.take a)) q:=⟨_,rfl⟩;have af:Ee l a b q=Cy q (a:Int) L (FD l a b):=by unfold Ee;rw [<-hL]
 rw [<-hL]at K bf⊢;refine Se func23 ntmps23 [0,1,2,3] ?_;intro u R;refine A2<|Ze (Bx q.Ax4)<|AE fun bq=>Ze (Al SR #[_,_,_,_,_,_,_,_,_,_])<|AE fun be=>Ze (Al Hs #[_,_,_,_,_,_,_,_,_,_,_,_,_,_,_])<|AE fun ba=>AF Y<|A2<|Sk 2 V<|Zc [_,_] Y call6 Y V (xV G g A0 a A0) ?_;rintro _ _ ⟨_,⟨vs,ss,rfl,hS,rfl⟩,rfl⟩;refine Sk 4 V<|AF Y<|C0 Y<|Zv (Cb (n:=0) Y Y)<|Z0<|Zn [0,1,2,7,8,9,11,25] ?_;refine Zx<|Ad Y (fun W=>?_) (fun W=>?_);·
  exact absurd V W
 refine B3<|B7 Y<|Zo Wh (A7 (cs:=#[_,_,_,_,_,_,_]) DE CN Y Wb (by exact AP V)) ?_;refine Zc [_,_] Y call8 Y V (qK _ _ _ _ hS hs hn X q hq E Z zg) ?_;rintro _ _ ⟨_,⟨vo,mem,rfl,y,rfl⟩,rfl⟩;rw [<-hL]at y;obtain ⟨J,I,rfl,cu,cO⟩:=y.form;refine Sk 4 V<|AF Y<|A2<|Zo Wh (A7 (cs:=#[_,_,_,_,_,_,_]) DE CN Y Wb (by exact AP V)) ?_;refine Sk 2 V<|Zv (BK (vs:=[(0,.agg q.Ax4),(2,I4 (a:Int)),(3,.slice J L.length I)]) (cs:=#[I4 q.kd,I4 q.tb,I4 q.cl,I4 q.lo,I4 q.hi,I4 q.bq,I4 q.ot,I4 0,I4 (a:Int),.slice J L.length I]) Y (AY (pl:=#[(0,7),(7,1),(8,1),(9,1)]) SR L4 (fun _=>by kernel_rfl) AG))<|Ze (Al SR #[_,_,_,_,_,_,_,_,_,_])<|AE fun bx=>Xe (Xw cP #[I4 q.kd,I4 q.tb,I4 q.cl,I4 q.lo,I4 q.hi,I4 q.bq,I4 q.ot,I4 0,I4 (a:Int),.slice J L.length I]) ?_;refine Z0<|Zn [0,1,2,8,9,14,15] ?_;refine Zx<|Zb [0,1,2,8,9,14,15] ?_;refine C9 (e0:=[(0,_),(1,_),(2,_)]) (H0:=[mem,M]) (fun e H=>∃(z:FI) (s:List AR) (t:Bool) (O:Nat),((t=true/\Cy q (a:Int) L (FD l a b)=some z.a/\z.ok (s++mem++M))\/(t=false/\Cy q (a:Int) L (FD l a b)=none/\z=AZ0))/\e=[(16,I5 O),(17,.bool t)]/\H=[[(O,.cells z.Ax5 53 (0,0))],s,mem,M]) Wp ?hx_1 ?hy_1
 case hx_1=>
  refine Au (n:=12) (0::0::0::0::14::31::63::127::127::0::767::2047::[]) 1568 AG AG V<|Fo 0 V Wh (A7 (cs:=#[I4 q.kd,I4 q.tb,I4 q.cl,I4 q.lo,I4 q.hi,I4 q.bq,I4 q.ot,I4 0,I4 (a:Int),.slice J L.length I]) isAgg57 cP Y (by exact B4 _) (by exact AP V)) ?_;refine A1 1 V (AA Y)<|A1 2 V (AA Y)<|A1 3 V (AA Y) ?_
  (refine Dr (D':=31) 4 (Ir G4 Fk Y Y Y ?_ ?_) ?_;(focus (omega));(focus (omega)))
  refine Zz (l:=[5,9])<|C6 [false] [] V rfl (Zw [_,_] Y call11 Y V (Pf q 0 (a:Int) A0 (y.mono (fun c hc=>HE M hc)) A0 K (EA (J8 G U hb) (fun c hc=>G2 mem hc)) (H5 g a b))) ?hk_2 DC ?hl_2
  case' hk_2=>
   rintro _ _ ⟨_,⟨z,s,t,hz,rfl,rfl⟩,rfl⟩;refine CA<|A1 6 V (AA Y)<|A1 7 V (Bn Y V)<|A1 8 V (Bn Y V)<|Zz (l:=[9])<|C6 [] [] V rfl (Al Hs #[_,_,_,_,_,_,_,_,_,_,_,_,_,_,_]) ?hk_3 (fun _ _ h=>h.elim) ?hl_3
   case' hk_3=>
    rintro _ _ ⟨O,rfl,rfl⟩;refine CA<|Yz 10 767 2047 [] [] [] V Y V rfl V rfl (Xw F0 z.Ax5) ?_
   case' hl_3=>
    exact Ar
  case' hl_2=>
   refine C6 [true] [(0,(_,_))] V rfl (Al Hs #[_,_,_,_,_,_,_,_,_,_,_,_,_,_,_]) ?hk_6 (fun _ _ h=>h.elim) ?hl_6
   case' hk_6=>
    rintro _ _ ⟨O,rfl,rfl⟩;refine CA<|Zz (l:=[5])<|C6 [false] [] V rfl (Zw [_,_] Y call11 Y V (Pf q 0 (a:Int) A0 (y.mono (fun c hc=>HE M hc)) A0 K (EA (J8 G U hb) (fun c hc=>G2 mem hc)) (H5 g a b))) ?hk_7 DC ?hl_7
    case' hk_7=>
     rintro _ _ ⟨_,⟨z,s,t,hz,rfl,rfl⟩,rfl⟩;refine CA<|A1 6 V (AA Y)<|A1 7 V (Bn Y V)<|A1 8 V (Bn Y V)<|Zz (l:=[10])<|C6 [] [] V rfl (Xw F0 z.Ax5) ?hk_8 (fun _ _ h=>h.elim) ?hl_8
     case' hl_8=>
      exact Ar
    case' hl_7=>
     exact Ar
   case' hl_6=>
    exact Ar
  all_goals
   rintro _ _ ⟨rfl,rfl⟩;refine CA<|A1 11 V (Aq Y)<|Am<|HC (by exact ⟨z,s,t,O,hz,V,V⟩)
 rintro _ _ ⟨z,s,t,O,hz,rfl,rfl⟩;refine Zq<|Au (n:=10) (0::0::0::4::12::28::60::29::159::511::[]) 384 AG AG V<|Fo 0 V Wh (A7 (cs:=#[_,_,_,_,_,_,_,_,_,_]) isAgg57 cP Y Wb (by exact AP V)) ?_;refine Fo 1 V Wh (A7 (cs:=#[_,_,_,_,_,_,_,_,_,_,_,_,_,_,_]) HQ F0 Y Wb (by exact AP V)) ?_;refine A1 2 V (AA Y)<|A1 3 V (Bg (n:=0) Y Y)<|A1 4 V (AA Y)<|CS (t:=51) Y (fun m=>?_) (fun m=>?_);·
  first|rw [Cp m]|rw [m]|skip
  refine B1 5 rfl (AA Y)<|A1 6 rfl (Ay Y Y)<|Zz (l:=[7])<|C6 [true,false] [(1,(_,_))] rfl rfl (Ao cP Y Y Ft Wu (by exact Bj rfl) DO Wb (by exact Aw _)) ?_ (fun _ _ h=>h.elim) Ar;rintro _ _ ⟨rfl,rfl⟩;refine CA<|Yw 8 511 rfl (Ao F0 Y Y Ft Wu (by exact Bj rfl) DO Wb (by exact Aw _))<|DA<|A1 9 rfl (Aq Y)<|Am<|Zx<|AC<|kX rfl results23 Y Y Y Wh Wh (Ai isAgg57 cP Wn (AP rfl)) (Ai HQ F0 Wn (AP rfl)) (by exact ⟨z,s,mem,t,J,I,by rw [af];exact hz,y,rfl,rfl⟩)
 first|rw [CC m]|rw [m]|skip
 exact absurd V m
theorem jC{M:List AR}{p:C1}{cap:Nat}{l:List Bz}(I:DD M (.slice p l.length cap) l)(g:Dy l)(K:l.length<=20)(a b:Nat)(J:a<=b)(W:b<=l.length)(q:QM)(X:BH q)(G:An)(O:Nat×Nat):CJ prog 23 #[.slice p l.length cap,I4 (a:Int),I4 (b:Int),.agg q.Ax4] [[(1,.cells (Dj.map CP).toArray G O)],M] (fun w H'=>∃(z:FI) (E:List AR) (t:Bool) (y:C1) (m:Nat),((t=true/\Ee l a b q=some z.a/\z.ok (E++M))\/(t=false/\Ee l a b q=none/\z=AZ0))/\Et (E++M) (.slice y (EQ (Bq (l.take a)) q).length m) (EQ (Bq (l.take a)) q)/\w= .tuple #[.agg #[I4 q.kd,I4 q.tb,I4 q.cl,I4 q.lo,I4 q.hi,I4 q.bq,I4 q.ot,I4 0,I4 (a:Int),.slice y (EQ (Bq (l.take a)) q).length m],.agg z.Ax5,.bool t]/\H'=[E,[(1,.cells (Dj.map CP).toArray G O)],M]):=by
 refine E8 (mO I g K a b J W q X G O) V ?_;rintro w H' ⟨z,s,mem,t,y,m,U,h2,rfl,rfl⟩;exact ⟨_,⟨z,s++mem,t,y,m,U,h2.mono (fun c hc=>HE _ (G2 _ hc)),V,V⟩,by simp⟩
end Go.Proofs.YtljkoipiekbijaaGreatDoor
