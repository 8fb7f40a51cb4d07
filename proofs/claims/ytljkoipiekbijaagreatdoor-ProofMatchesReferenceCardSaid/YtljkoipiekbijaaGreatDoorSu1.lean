/- The reference 11: Build. -/
import Derived.Test.YtljkoipiekbijaaGreatDoorRx15
import Derived.Stop.Asserts
set_option linter.unusedVariables false
set_option linter.unusedSimpArgs false
namespace Go.Proofs.YtljkoipiekbijaaGreatDoor
open Go.Proofs.Tryz
open Go Go.RowKit Gw
set_option maxRecDepth 100000
attribute [local irreducible] Gw.At Gw.Nx Gw.Ops
def FK:FI:=⟨⟨⟨0,0,0,0,0,0,0⟩,⟨[],0,false⟩,0,0,0,[],[]⟩,none,0,none,0,none,0⟩
theorem Xh(s:List AR):FK.ok s:=⟨⟨none,0,rfl,⟨CD _,B4 _⟩,fun i x h=>by simp [FK]at h⟩,⟨[],⟨none,0,rfl,⟨CD _,B4 _⟩,fun i x h=>by simp at h⟩,rfl⟩,⟨none,0,rfl,⟨CD _,B4 _⟩,fun i x h=>by simp [FK]at h⟩⟩
variable{q:QM}{L:List RP}{l:List Bz}
theorem xR{base:Int}(h:Bu q L=none):Cy q base L l=none:=by unfold Cy;rw [h];rfl
theorem sW{base:Int}{r:CB}(m:Bu q L=some r)(g:l.length<=64):Cy q base L l=if(CG q r base l).2.2 then some ⟨q,(CG q r base l).1,(CG q r base l).2.1,base+(l.length:Int),base,L,l⟩else none:=by
 rw [Jt m g];unfold CG;cases II q base 0 (r,base) l<;>rfl
variable{M:List AR}
set_option maxHeartbeats 1000000 in
theorem NJ(q:QM)(te base:Int)(hb:-1000000000000<=base/\base<=1000000000000){J:C1}{I:Nat}(hL:Et M (.slice J L.length I) L){lv:A3}(hl:DD M lv l)(X:∀x∈l,x.cs.length<=1000):CJ prog 12 #[.agg #[I4 q.kd,I4 q.tb,I4 q.cl,I4 q.lo,I4 q.hi,I4 q.bq,I4 q.ot,I4 te,I4 base,.slice J L.length I],lv] [M] (fun w H'=>∃(z:FI) (s:List AR) (b:Bool),w= .tuple #[.agg z.Ax5,.bool b]/\b=(Cy q base L l).isSome/\z.a=(Cy q base L l).getD FK.a/\z.ok (s++M)/\H'=[s,M]):=by
 have cu:=mL;obtain ⟨pl,cl,rfl,⟨bn,bf⟩,_⟩:=id hl;refine Se func12 ntmps12 [0,1] ?_;intro u R;refine A2<|Ze (Bx #[I4 q.kd,I4 q.tb,I4 q.cl,I4 q.lo,I4 q.hi,I4 q.bq,I4 q.ot,I4 te,I4 base,.slice J L.length I])<|AE fun be=>Ze (Ff Hs (cs:=FK.Ax5) AG)<|AE fun bo=>AF Y<|A2<|Zh 0 L4 V rfl CN Y<|Zo Wh (A7 (cs:=#[_,_,_,_,_,_,_]) DE CN Y BW (by exact (by apply L5.1;rfl))) ?_;refine Zh 9 L4 V rfl E0 Y<|Zl FG Y ?_;refine Zc [_,_] Y call17 Y V (VH hL q) ?_;rintro _ _ ⟨_,⟨cO,s1,rfl,E,rfl⟩,rfl⟩;obtain ⟨p1,c1,rfl,_⟩:=id E;refine Sk 3 V<|Ze (Al GO #[_,_,_])<|AE fun br=>Xe (Xw BE #[.slice p1 ((Bu q L).getD CB.none).rows.length c1,I4 ((Bu q L).getD CB.none).val,.bool ((Bu q L).getD CB.none).fnd]) ?_;refine AN Y<|Zn [1,2,4,6,7] ?_;refine Zx<|C0 Y<|Zv (CR Y)<|Zm Y<|Ae (t:=20) Y V (fun U=>?_) (fun U=>?_);focus
  have hn:Cy q base L l=none:=xR (by have:=mw U;cases h9:Bu q L with|none=>rfl|some r=>rw [h9]at this;cases this);refine Sk 4 V<|A6<|BV Y ?_
 rotate_left
 focus
  obtain ⟨m,G⟩:∃r,Bu q L=some r:=cT.1 (mz U);obtain ⟨hq,ax,Z,af⟩:=Oi G;refine Zf Y Y<|Yg (AJ G4 Y)<|Yg (CW (n:=64) Y Y)<|H3 Y Y<|A6<|Ad Y (fun h2=>?_) (fun h2=>?_);focus
   have hn:Cy q base L l=none:=OW A0
  rotate_left
  have y:l.length<=64:=by omega
  have K:=sW (base:=base) G y;rw [show(Bu q L).getD CB.none=m by rw [G];rfl]at E⊢;refine AB<|BT<|Zh 0 L4 V rfl CN Y<|Zo Wh (A7 (cs:=#[_,_,_,_,_,_,_]) DE CN Y BW (by exact (by apply L5.1;rfl))) ?_;refine Zo Wh (A7 (cs:=#[_,_,_]) D0 BE Y (by exact B4 _) (by exact AP V)) ?_;refine Zh 8 L4 V rfl A4 Y<|Zl A5 Y ?_;refine Zm Y<|Zc [_,_,_,_] Y call46 Y V (dB q hq base A0 hl y X E A0 ⟨Z,af⟩) ?_;rintro _ _ ⟨_,⟨d9,MM,rfl,h3,h4,rfl⟩,rfl⟩;obtain ⟨p2,O,rfl,_⟩:=id h3;refine Sk 4 rfl<|Xe (Ao BE Y Y Ft Wu (by exact Bj rfl) DO (by exact B4 _) (by exact Aw _)) ?_;refine Za Y<|AN Y<|Zn [1,2,4,6,8,9] ?_;refine Zx<|C0 Y<|Zv (CR Y)<|A6<|Af Y (fun W=>?_) (fun W=>?_);·
   have hn:Cy q base L l=none:=by rw [K,mw W];rfl
   refine A2<|Zv (BK (vs:=[]) (cs:=#[_,_,_,_,_,_,_,_,_,_,_,_,_,_,_]) Y (AY (pl:=#[(0,7),(7,3),(10,1),(11,1),(12,1),(13,1),(14,1)]) Hs C3 (fun _=>by kernel_rfl) rfl))<|Xe (Ao F0 Y Y Ft Wu (by exact Bj rfl) DO AH (by exact Aw _)) ?_;refine AM Y<|Zt<|Bo rfl results12 Y Wh (Ai HQ F0 Wn (AP rfl)) Y (by exact ⟨FK,MM,false,rfl,by rw [hn];rfl,by rw [hn];rfl,Xh _,rfl⟩)
  have g:=K;rw [mz W,B2 rfl]at g;refine AB<|BT<|Zh 0 L4 V rfl CN Y<|Zo Wh (A7 (cs:=#[_,_,_,_,_,_,_]) DE CN Y BW (by exact (by apply L5.1;rfl))) ?_;refine Zo Wh (A7 (cs:=#[_,_,_]) D0 BE Y (by exact B4 _) (by exact AP V)) ?_;refine Zm Y<|Zh 8 L4 V rfl A4 Y<|Zl A5 Y ?_;refine Zm Y<|Zv (AJ G4 Y)<|Yi Y Y<|Zh 8 L4 V rfl A4 Y<|Zl A5 Y ?_;refine Zh 9 L4 V rfl E0 Y<|Zl FG Y ?_;refine Zm Y<|Zv (BK (vs:=[(0,.agg q.Ax4),(1,.agg #[.slice p2 (CG q m base l).1.rows.length O,I4 (CG q m base l).1.val,.bool (CG q m base l).1.fnd]),(2,I4 (CG q m base l).2.1),(3,I4 (base+(l.length:Int))),(4,I4 base),(5,.slice J L.length I),(6,.slice pl l.length cl)]) (cs:=#[I4 q.kd,I4 q.tb,I4 q.cl,I4 q.lo,I4 q.hi,I4 q.bq,I4 q.ot,.slice p2 (CG q m base l).1.rows.length O,I4 (CG q m base l).1.val,.bool (CG q m base l).1.fnd,I4 (CG q m base l).2.1,I4 (base+(l.length:Int)),I4 base,.slice J L.length I,.slice pl l.length cl]) Y (AY (pl:=#[(0,7),(7,3),(10,1),(11,1),(12,1),(13,1),(14,1)]) Hs C3 (fun _=>by kernel_rfl) AG))<|Xe (Ao F0 Y Y Ft Wu (by exact Bj rfl) DO AH (by exact Aw _)) ?_;refine AN Y<|Zn [4,5] ?_;refine Zx<|AC<|Bo rfl results12 Y Wh (Ai HQ F0 Wn (AP rfl)) Y (by exact ⟨(⟨⟨q,(CG q m base l).1,(CG q m base l).2.1,base+(l.length:Int),base,L,l⟩,p2,O,J,I,pl,cl⟩:FI),MM,true,rfl,by rw [g];rfl,by rw [g];rfl,⟨h3.mono fun c hc=>HE _ hc,hL.mono fun c hc=>G2 _ hc,EA hl fun c hc=>G2 _ hc⟩,rfl⟩)
 all_goals
  refine A2<|Zv (BK (vs:=[]) (cs:=#[_,_,_,_,_,_,_,_,_,_,_,_,_,_,_]) Y (AY (pl:=#[(0,7),(7,3),(10,1),(11,1),(12,1),(13,1),(14,1)]) Hs C3 (fun _=>by kernel_rfl) rfl))<|Xe (Ao F0 Y Y Ft Wu (by exact Bj rfl) DO AH (by exact Aw _)) ?_;refine AM Y<|Zt<|Bo rfl results12 Y Wh (Ai HQ F0 Wn (AP rfl)) Y (by exact ⟨FK,s1,false,rfl,by rw [hn];rfl,by rw [hn];rfl,Xh _,rfl⟩)
theorem oX{s:Bs}(h:¬s.length=32):Jd s=true:=by unfold Jd;simp [h]
theorem oY{s:Bs}(h:s.length=32):Jd s=false:=by unfold Jd;simp [h]
theorem jo{l:List Bs}{x:Bs}{m:Nat}(g:l.length=m+1)(h:l[m]?=some x):l.reverse=x::(l.take m).reverse:=by
 rw [<-SX h,<-g,HJ]
theorem pX{pf:List Bs}(h:pf.any Jd=false):∀y∈pf,y.length=32:=fun y hy=>by
 have:=mS.1 h y hy;unfold Jd at this;simpa using this
def tL(s:Bs)(n i:Nat)(ls:List Bs)(w:Bs)(b:Bool):Prop:=w.length<=32/\Nw s n i ls.reverse=if b=true then some w else none
variable{v:A3}{ls:List Bs}
theorem dA(hv:DU M v ls):BB prog 178 #[v] [M] (.bool (!(ls.any Jd))):=by
 have O:=mL;obtain ⟨p,cap,rfl,W,K⟩:=id hv;refine Se func178 ntmps178 [0] ?_;intro u R;refine A2<|CT Y<|A2<|AF Y<|AQ<|Zb [3,0] ?_;refine Av (e0:=[(3,_)]) (fun m e H=>∃(i:Nat),m=ls.length -i/\(i<=ls.length/\(ls.take i).any Jd=false)/\e=[(3,I4 (i:Int))]/\H=[]) (by exact ⟨0,V,⟨CD _,by simp⟩,V,V⟩) Wp ?_;rintro _ _ _ ⟨i,rfl,⟨hi,y⟩,rfl,rfl⟩;refine Zq<|A2<|Sk 2 V<|Zv (AJ DB Y)<|Zv (Ak Y Y)<|A6<|Ad Y (fun E=>?_) (fun E=>?_);·
  obtain ⟨x,hx⟩:∃x,ls[i]?=some x:=⟨_,Bk E⟩;obtain ⟨g,off,cur,T,zz,rfl,I,z⟩:=K i x hx;have U:=Be x
  refine B3<|Zq<|AQ<|A2<|Sk 2 V ?_;refine BN (BO DB F2 Y Y Fl)<|Cj (cs:=[(g,.cells cur T zz)]) (by simp [I]) (BZ HG Y (by exact z)) rfl rfl ?_;refine Zv (Da HM Y)<|Zv (Cb (n:=32) Y Y)<|A6<|Ad Y (fun G=>?_) (fun G=>?_);·
   refine A2<|AM Y<|AX<|Zt<|Zt<|AX<|Zt<|AO rfl results178 Y (by exact ⟨by rw [jH Jd ls i x hx (oX A0)];rfl,rfl⟩)
  have J:x.length=32:=by omega
  refine AB<|A8<|Zx<|Zg<|Zm Y<|Ya (n:=1) Y Y<|AN Y<|DH (e:=[(3,_)]) (h:=by exact ⟨i+1,rfl,⟨by omega,by rw [WF _ _ _ _ hx,y,oY J];rfl⟩,rfl,rfl⟩)
 rw [Hx A0]at y;refine Az<|Zt<|Zt<|AU<|BT<|AM Y<|AO rfl results178 Y (by exact ⟨by rw [y];rfl,rfl⟩)
theorem Nc(m:Nat)(s:Bs)(W:s.length<=140737488354000)(X:∀{M:List AR} {v:A3} {ls:List Bs} (n i:Nat),ls.length<m->DU M v ls->1<=n->n<=1000000->i<=1000000->ls.length<=1000000->(∀s∈ls,s.length=32)->CJ prog 179 #[I4 (n:Int),I4 (i:Int),.string (str s),v] [M] (fun r H'=>∃w b,r= .tuple #[.string (str w),.bool b]/\tL s n i ls w b/\H'=[M]))(n i:Nat)(bn:ls.length=m)(hv:DU M v ls)(d9:1<=n)(ek:n<=1000000)(af:i<=1000000)(cO:ls.length<=1000000)(y:∀s∈ls,s.length=32):CJ prog 179 #[I4 (n:Int),I4 (i:Int),.string (str s),v] [M] (fun r H'=>∃w b,r= .tuple #[.string (str w),.bool b]/\tL s n i ls w b/\H'=[M]):=by
 have cu:=mL;obtain ⟨p,cap,rfl,hl,hg⟩:=id hv;refine Se func179 ntmps179 [0,1,2,3] ?_;intro u R;refine A2<|Za Y<|AF Y<|B7 Y<|Zv (AJ DB Y) ?_
 (refine BN (GI Y Y (IntWalk.i64_in _ ?_)) ?_;(focus (omega)))
 refine AF Y<|C0 Y<|Zv (Bg (n:=1) Y Y)<|A6<|Ad Y (fun Z=>?_) (fun Z=>?_);·
  refine B7 Y<|Xr [_] Y call155 Y V (iE s W) ?_;refine Zm Y<|Zv (Dq Y Y)<|Za Y<|AN Y<|Zn [8,9] ?_;refine Zx<|AC<|Zt<|Cn V results179 Y Y (by
   exact ⟨M9 s,decide (((ls.length:Nat):Int) -1<0),rfl,⟨by rw [show M9 s=sha _ from rfl,JY];exact B4 _,by
    rw [Z,WS (B4 1)];by_cases h:ls=[];· subst h;rfl
    · have:0<ls.length:=List.length_pos_iff.2 h
      rw [Ax (by simpa using h),CC A0];rfl⟩,rfl⟩)
 refine B3<|C0 Y<|Zv (Dq Y Y)<|A6<|Ad Y (fun h0=>?_) (fun h0=>?_);·
  refine A2<|Za Y<|AM Y<|Zt<|Cn rfl results179 Y Y (by exact ⟨[],false,rfl,⟨by simp,by rw [N3 (show ls.length=0 by omega)];exact gL A0⟩,rfl⟩)
 have O:2<=n:=by omega
 have ax:=He O;have bf:=GZ n
 obtain ⟨x,hx⟩:∃x,ls[ls.length -1]?=some x:=⟨_,Bk A0⟩;have gm:=y x (Fm hx)
 have J:=jo (show ls.length=ls.length -1+1 by omega) hx;obtain ⟨g,off,cur,T,zz,rfl,I,E⟩:=hg _ x hx;have K:=hv.take (ls.length -1) A0
 have U:((ls.length:Nat):Int) -1=((ls.length -1:Nat):Int):=by omega
 refine B3<|B7 Y<|Xr [_] Y call149 Y V (X0 n O A0) ?_;refine AN Y<|Zn [0,1,2,3,10,11] ?_;refine Zx<|Zq<|Zq ?_;rw [U];refine Zg<|Sk 2 V<|Zv (Ak Y Y)<|A6<|Ad Y (fun G=>?_) (fun G=>?_);·
  refine A2<|Sk 5 V ?_;refine BN (Bb DB F2 Y Y A0)<|Zc [_,_,_,_] Y call179 Y rfl (X (ls:=ls.take (ls.length -1)) (Bw n) (i) (by rw [CI];omega) (by exact K) A0 A0 A0 (by rw [CI];omega) (fun s h=>y s (Ks h))) ?_;rintro _ _ ⟨_,⟨w,b,rfl,⟨hw,z⟩,rfl⟩,rfl⟩;refine Sk 4 V<|AN Y<|Zn [3,10,12,13] ?_;refine BT<|Sk 3 V ?_;refine BN (BO DB F2 Y Y A0)<|Cj (cs:=[(g,.cells cur T zz)]) (by simp [I]) (BZ HG Y (by exact E)) V rfl ?_;refine Xr [_,_] Y call156 Y V (Wz w x A0 A0) ?_;refine Sk 2 rfl<|AM Y<|Zt<|Cn rfl results179 Y Y (by exact ⟨_,b,rfl,⟨by rw [show Gt _ _=sha _ from rfl,JY];exact B4 _,by rw [J,Pq O G,z];cases b<;>rfl⟩,rfl⟩)
 refine AB<|BT<|Sk 2 V<|Yb Y Y<|Sk 2 V<|Yb Y Y<|Sk 3 V ?_;refine BN (Bb DB F2 Y Y A0)<|Zc [_,_,_,_] Y call179 Y rfl (X (ls:=ls.take (ls.length -1)) (n -Bw n) (i -Bw n) (by rw [CI];omega) (by exact K) A0 A0 A0 (by rw [CI];omega) (fun s h=>y s (Ks h))) ?_;rintro _ _ ⟨_,⟨w,b,rfl,⟨hw,z⟩,rfl⟩,rfl⟩;refine Sk 4 V<|AN Y<|Zn [3,10,14,15] ?_;refine BT<|Sk 2 V ?_;refine BN (BO DB F2 Y Y A0)<|Cj (cs:=[(g,.cells cur T zz)]) (by simp [I]) (BZ HG Y (by exact E)) V rfl ?_;refine Zm Y<|Xr [_,_] Y call156 Y V (Wz x w A0 A0) ?_;refine Sk 2 rfl<|AM Y<|Cn rfl results179 Y Y (by exact ⟨_,b,rfl,⟨by rw [show Gt _ _=sha _ from rfl,JY];exact B4 _,by rw [J,Nv O G,z];cases b<;>rfl⟩,rfl⟩)
theorem YQ(s:Bs)(g:s.length<=140737488354000):∀(m:Nat) {M:List AR} {v:A3} {ls:List Bs} (n i:Nat),ls.length<=m->DU M v ls->1<=n->n<=1000000->i<=1000000->ls.length<=1000000->(∀s∈ls,s.length=32)->CJ prog 179 #[I4 (n:Int),I4 (i:Int),.string (str s),v] [M] (fun r H'=>∃w b,r= .tuple #[.string (str w),.bool b]/\tL s n i ls w b/\H'=[M])
 |0,_,_,ls,n,i,h,hv,h1,h2,h3,h4,h5=>Nc ls.length s g (fun _ _ z=>absurd z A0) n i rfl hv h1 h2 h3 h4 h5
 |m+1,_,_,ls,n,i,h,hv,h1,h2,h3,h4,h5=>Nc ls.length s g (fun G E z y a b c d e=>YQ s g m G E A0 y a b c d e) n i rfl hv h1 h2 h3 h4 h5
theorem kC(hv:DU M v ls)(root s:Bs)(G:s.length<=140737488354000)(n i:Nat)(I:i<n)(E:n<=1000000)(z:ls.length<=1000000):BB prog 130 #[.string (str root),I4 (n:Int),I4 (i:Int),.string (str s),v] [M] (.bool (NT root n i s ls)):=by
 have J:=mL;obtain ⟨p,cap,rfl,W,U⟩:=id hv;refine Se func130 ntmps130 [0,1,2,3,4] ?_;intro u R;refine A2<|AF Y<|B7 Y<|Xr [_] Y call178 Y V (dA hv) ?_;refine AF Y<|C0 Y<|Zv (Ak (n:=0) Y Y)<|Zm Y<|AZ (t:=18) Y V (fun K=>by omega)<|fun K=>Sk 2 V<|Yg (El Y Y)<|Sk 2 V ?_;refine AZ (t:=23) Y V (fun O=>by omega)<|fun O=>Zf Y Y<|Yg (CR Y)<|H3 Y Y<|Z0<|Zn [0,1,2,3,4,26] ?_;refine Zx<|Af Y (fun g=>?_) (fun g=>?_);·
  refine A2<|AM Y<|Zt<|AO rfl results130 Y (by exact ⟨by unfold NT;simp at g;rw [show ls.any Jd=true by simpa using g];rfl,rfl⟩)
 refine AB<|BT<|Sk 4 V<|Zc [_,_,_,_] Y call179 Y V (YQ s G _ n i (B4 _) hv A0 E A0 z (pX (by simpa using g))) ?_;rintro _ _ ⟨_,⟨w,b,rfl,⟨X,m⟩,rfl⟩,rfl⟩;refine Sk 4 V<|AF Y<|A2<|Sk 2 V ?_;refine Ae (t:=36) Y V (fun y=>?_) (fun y=>?_);·
  refine Sk 2 V<|Yg (L9 Y Y)<|HR Y Y<|AN Y<|Zn [10] ?_;refine Zx<|AC<|AO rfl results130 Y (by exact ⟨by unfold NT;rw [show ls.any Jd=false by simpa using g,m,y];exact congrArg Value.bool (decide_eq_decide.2 ⟨fun h=>by rw [JX h];rfl,fun h=>by injection h with h;rw [h]⟩),rfl⟩)
 refine Sk 4 V<|AN Y<|Zn [10] ?_;refine Zx<|AC<|AO rfl results130 Y (by exact ⟨by unfold NT;rw [show ls.any Jd=false by simpa using g,m,y];rfl,rfl⟩)
theorem cZ(hv:DU M v ls)(root s:Bs)(m:s.length<=140737488354000)(n i:Int)(k:Nat)(hi:0<=i)(y:i+(k:Int)<n)(z:n<=1000000)(g:ls.length<=1000000):BB prog 130 #[.string (str root),I4 n,I4 (i+(k:Int)),.string (str s),v] [M] (.bool (NT root n.toNat (i.toNat+k) s ls)):=by
 obtain ⟨n,rfl⟩:=Mj (show 0<=n by omega);obtain ⟨i,rfl⟩:=Mj hi;exact kC hv root s m n (i+k) A0 A0 g
set_option maxHeartbeats 1000000 in
theorem dC{x:RP}(hv:LQ M v x)(I:∀s∈x.roots,s.length<=140737488354000)(qz:x.roots.length<=1000000)(U:∀l∈x.paths,l.length<=1000000)(root:Bs):BB prog 64 #[.string (str root),v] [M] (.bool (decide (KF root x))):=by
 have zl:=mL;obtain ⟨vr,vp,vt,rfl,hR,hP,hT⟩:=id hv;obtain ⟨p,cap,e9,hl,hg⟩:=id hR;subst e9;obtain ⟨p3,vw,pz,zh,qo⟩:=id hP;subst pz;obtain ⟨p4,vz,q9,zk,qw⟩:=id hT;subst q9;refine Se func64 ntmps64 [0,1] ?_;intro u R;refine A2<|Ze (Bx #[_,_,_,_,_,_,_,_,_])<|AE fun pb=>AF Y<|A2<|Zo Wh (Pa #[_,_,_,_,_,_,_,_,_] It DM Y) ?_;refine Xr [_] Y call127 Y V (PD hv) ?_;refine AF Y<|C0 Y<|Zv (Bp Y)<|Zm Y<|AZ (t:=18) Y V (fun Z=>?_) (fun Z=>?_);focus
  refine Sk 6 V ?_
 rotate_left
 focus
  refine Yf 8 Bm V rfl Hj Y<|Yl Iv Y ?_;refine Yg (AJ DB Y)<|Yg (Cb (n:=16) Y Y)<|Sk 2 V ?_;refine AZ (t:=24) Y V (fun lv=>?_) (fun lv=>?_);rotate_left;refine Yf 8 Bm V rfl Hj Y<|Yl Iv Y ?_;refine Xr [_] Y cS Y V (Lc _ (B4 _) hT qz I) ?_;refine Zf Y Y<|Yg (Jq Y Y)<|Sk 2 V ?_;refine AZ (t:=31) Y V (fun ek=>?_) (fun ek=>?_);·
   refine Sk 8 V<|Z0<|Zn [3,39] ?_;refine Zx<|BV Y<|A2<|AM Y<|Zt<|AO rfl cM Y (by exact ⟨FN (fun z=>by have kz:=z.comp;have l8:=z.n16;have l9:=z.np;have bf:=z.root;exact ek (by rw [bf])),rfl⟩)
  refine Yf 7 Bm V rfl Mn Y<|Yl Q1 Y ?_;refine Yg (AJ LR Y)<|Yf 6 Bm V rfl Cl Y<|Yl DQ Y ?_;refine Yg (AJ B0 Y)<|Yg (Cb Y Y)<|H3 Y Y<|Z0<|Zn [3,39] ?_;refine Zx<|Ad Y (fun mR=>?_) (fun mR=>?_);·
   refine A2<|AM Y<|Zt<|AO V cM Y (by exact ⟨FN (fun z=>by have kz:=z.comp;have l8:=z.n16;have l9:=z.np;have bf:=z.root;contradiction),V⟩)
  have O:=Fi.1 Z;obtain ⟨⟨⟨sw,E5⟩,qa,y5⟩,_,⟨zm,zo⟩,⟨za,zb⟩,zw,_⟩:=id O;obtain ⟨tn,FT⟩:=Mj sw;obtain ⟨cn,y9⟩:=Mj qa;obtain ⟨s9,G⟩:∃s,x.roots[4*tn+cn]?=some s:=⟨_,Bk A0⟩;have ax:DW x.roots=root:=JX (Fi.1 ek)
  obtain ⟨g4,wz,gy,T4,ve,rfl,qy,o9⟩:=qw _ s9 G;have yt:=H9 x.ct A0 A0
  have sj:=Be s9;have pq:=Be (MG x.ct)
  have zx:=I s9 (Fm G);have E:4*x.tb.toNat+x.cl.toNat=4*tn+cn:=by omega
  have oq:4*x.tb+x.cl=((4*tn+cn:Nat):Int):=by omega
  refine AB<|BT<|Zh 4 Bm V rfl A4 Y<|Zl A5 Y ?_;refine Xr [_] Y call128 Y V (SK x.ct A0 A0) ?_;refine Sk 4 V<|AF Y<|A2<|Zh 8 Bm V rfl Hj Y<|Zl Iv Y ?_;refine Zh 0 Bm V rfl A4 Y<|Zl A5 Y ?_
  (refine BN (Yh Y Y (IntWalk.i64_in _ ?_)) ?_;(focus (first|omega|(simp;omega))))
  refine Zh 1 Bm V rfl A4 Y<|Zl A5 Y ?_
  (refine BN (Fw Y Y (IntWalk.i64_in _ ?_)) ?_;(focus (first|omega|(simp;omega))))
  refine Zv (BO (j:=4*tn+cn) DB F2 Y (fun _=>by first|exact congrArg (Value.int .i64) oq|rfl) A0)<|Cj (cs:=[(g4,.cells gy T4 ve)]) (by simp [qy]) (BZ HG Y (by exact o9)) rfl rfl ?_;refine AN Y<|Zn [3,6,8] ?_;refine Zx<|C0 Y<|Zv (Da HM Y)<|Zm Y<|Zv (Da HM Y)<|BN (Ce (n:=32) Y Y (by first|omega|(simp;omega)))<|Zv (Cb Y Y)<|Zm Y<|AZ (t:=62) Y rfl (fun gm=>?_) (fun gm=>?_);·
   refine Sk 7 V<|Z0<|Zn [3,6,8,69] ?_;refine Zx<|BV Y<|A2<|AM Y<|Zt<|AO rfl cM Y (by exact ⟨FN (fun z=>by obtain ⟨d,hd,y,_⟩:=z.sum;rw [E,G]at y;injection y with y;subst y;exact gm (by rw [sj,pq,C7,hd])),rfl⟩)
  refine Sk 2 V<|Yg (Da HM Y) ?_
  (refine ER Y (Md HM Y Y ?_) rfl rfl ?_;(focus (first|omega|(simp;omega))))
  refine Zf Y Y<|Yg (Jq Y Y)<|H3 Y Y<|Z0<|Zn [3,6,8,69] ?_;refine Zx<|Ad Y (fun cO=>?_) (fun cO=>?_);·
   refine A2<|AM Y<|Zt<|AO rfl cM Y (by exact ⟨FN (fun z=>by obtain ⟨d,hd,y,_⟩:=z.sum;rw [E,G]at y;injection y with y;subst y;exact cO (gW _ _)),rfl⟩)
  obtain ⟨d9,rfl⟩:=og (Fi.1 cO);have af:d9.length=32:=by rw [pq,Be,C7]at gm;omega
  refine AB<|BT<|Sk 2 rfl<|Zv (Da HM Y)<|BN (Kz HM Y Y (by rw [Be,Be,C7];omega))<|CT Y<|Zq ?_;rw [Xy];refine Zg<|Zh 4 Bm V rfl A4 Y<|Zl A5 Y ?_;refine Zv (Bd Y Y)<|A6<|Ad Y (fun hz=>?_) (fun hz=>?_);·
   refine B7 Y<|Xr [_] Y cS Y V (Lc _ (B4 _) (Rp M) C4 C4) ?_;refine Zv (L9 Y Y)<|AM Y<|Zt<|AO rfl cM Y (by exact ⟨F4 ⟨fun z=>⟨O,by omega,by omega,ax,d9,af,by rw [E,G],fun _=>JX z,fun h0=>by omega⟩,fun z=>by obtain ⟨d,hd,y,bn,_⟩:=z.sum;rw [E,G]at y;injection y with y;rw [ia y,bn A0]⟩,rfl⟩)
  refine B3<|Zq<|A2<|AF Y<|AQ<|Zb [10,3,9] ?_;refine Av (e0:=[(10,_)]) (fun m e H=>∃(k:Nat),m=x.rows.length -k/\(k<=x.rows.length/\∀(j:Nat) (r:AV) (pf:List Bs),j<k->x.rows[j]?=some r->x.paths[j]?=some pf->NT d9 x.ct.toNat (x.fi.toNat+j) (Im r) pf=true)/\e=[(10,I4 (k:Int))]/\H=[]) (by exact ⟨0,V,⟨CD _,by intro j r pf hj;omega⟩,V,V⟩) Wp ?_;rintro _ _ _ ⟨k,rfl,⟨hk,X⟩,rfl,rfl⟩;refine C0 Y<|Zh 6 Bm V rfl Cl Y<|Zl DQ Y ?_;refine Zv (AJ B0 Y)<|Zv (Ak Y Y)<|A6<|Ad Y (fun p8=>?_) (fun p8=>?_);·
   obtain ⟨r,hr⟩:∃r,x.rows[k]?=some r:=⟨_,Bk p8⟩;obtain ⟨g,off,cur,T,zz,rfl,p9,wo,cu⟩:=hg k r hr;obtain ⟨pf,W⟩:∃pf,x.paths[k]?=some pf:=⟨_,Bk A0⟩;obtain ⟨q6,c6,sO,g6,x9,kv,T6,vo,rfl,qx,o8⟩:=qo k pf W;have pg:=(O.all k r hr).1.1
   refine B3<|Zq<|AQ<|A2<|Zh 6 Bm V rfl Cl Y<|Zl DQ Y ?_;refine Zm Y<|BN (A9 B0 AW Y Y Fl)<|Cj (cs:=[(g,.cells cur T zz)]) (by simp [p9]) (A7 (cs:=r.Ax3) C5 AW Y A0 cu) rfl rfl ?_;refine Xr [_] Y call129 Y V (VG r pg) ?_;refine Sk 4 V<|AN Y<|Zn [3,9,10,11] ?_;refine Zx<|Zq<|Au (n:=15) (0::0::2::0::8::0::56::0::0::256::0::1792::3840::8191::16383::[]) 8192 AG AG V<|A1 0 V (AA Y)<|A1 1 V (AL (off:=4) Bm V rfl A4 Y)<|B6 2 V A5 Y ?_;refine A1 3 V (AL (off:=5) Bm V rfl A4 Y)<|B6 4 V A5 Y ?_;refine A1 5 V (AA Y) ?_
   (refine Dr (D':=127) 6 (Fw Y Y (IntWalk.i64_in _ ?_)) ?_;(focus (first|omega|(simp;omega))))
   refine A1 7 V (AA Y)<|A1 8 V (AL (off:=7) Bm V rfl Mn Y)<|B6 9 V Q1 Y ?_;refine A1 10 rfl (AA Y)<|A1 11 rfl (BO LR Hj Y Y Fl)<|CX (b:=g6) (x:= .cells kv T6 vo) (D':=8191) 12 rfl rfl rfl (by simp [qx]) (BZ Iv Y (by exact o8)) ?_;refine Yw 13 16383 V (Zu [_,_,_,_,_] Y call130 Y V (cZ sO d9 (Im r) (by have:=OO pg;omega) x.ct x.fi k A0 A0 A0 (U pf (Fm W))))<|DA<|A1 14 V (Aq Y)<|Am<|Zn [3,9,10,13] ?_;refine Zx<|B7 Y<|Zv (CR Y)<|A6<|Af Y (fun gq=>?_) (fun gq=>?_);·
    refine A2<|AM Y<|AX<|Zt<|Zt<|AX<|Zt<|AO rfl cM Y (by exact ⟨FN (fun z=>by obtain ⟨d,hd,y,_,qb⟩:=z.sum;rw [E,G]at y;injection y with y;have bn:=ia y;have h5:=qb A0 k r pf hr W;rw [<-bn]at h5;simp [h5]at gq),rfl⟩)
   refine AB<|A8<|Zx<|Zg<|Zm Y<|Ya (n:=1) Y Y<|AN Y<|Zn [10,3,9] ?_;refine Ac (e':=[(10,_)]) (by
    exact ⟨k+1,V,⟨by omega,fun j r9 tT hj K J=>by
     rcases FA j k with z|z
     · exact X j r9 tT z K J
     · obtain rfl:j=k:=A0
       rw [hr]at K;injection K with K;subst K
       rw [W]at J;injection J with J;subst J
       simpa using gq⟩,rfl,rfl⟩)
  refine Az<|Zt<|Zt<|AU<|BT<|AM Y<|AO rfl cM Y (by exact ⟨congrArg Value.bool (Cp (show KF root x from⟨O,by omega,by omega,ax,d9,af,by rw [E,G],fun h0=>by omega,fun h0 j r pf hj hp=>X j r pf (by have:=(D3.1 hj).1;omega) hj hp⟩)).symm,rfl⟩)
 all_goals
  refine Sk 15 V<|Z0<|Zn [3,39] ?_;refine Zx<|BV Y<|A2<|AM Y<|Zt<|AO V cM Y (by exact ⟨FN (fun z=>by have kz:=z.comp;have l8:=z.n16;have l9:=z.np;have bf:=z.root;contradiction),V⟩)
theorem wN{o:Option Jj}{b:Bool}{a d:Jj}(h:b=o.isSome)(g:a=o.getD d)(h2:b=true):o=some a:=by
 cases o with
 |none=>rw [h2]at h;cases h
 |some x=>rw [g];rfl
theorem wO{o:Option Jj}{b:Bool}(h:b=o.isSome)(h2:b=false):o=none:=by
 cases o with
 |none=>rfl
 |some x=>rw [h2]at h;cases h
theorem kD{A:List AR}{x y:FI}(hx:x.ok M)(hy:y.ok (A++M))(g:x.a.ranges.length<=1000000):BB prog 13 #[.agg x.Ax5,.agg y.Ax5] [A,M] (.bool (decide (x.a.eqv y.a))):=by
 refine E8 (NI (hx.mono (fun c hc=>G2 A hc)) hy g) C4 ?_;rintro r H' ⟨rfl,rfl⟩;exact ⟨_,⟨V,V⟩,by simp⟩
theorem uG{s:List UInt8}{l:List RP}{k:Nat}{x:RP}(h:∀y∈l.take k,KF s y)(hx:l[k]?=some x)(hv:KF s x):∀y∈l.take (k+1),KF s y:=fun y hy=>by
 rw [Bt hx]at hy;rcases GS.1 hy with h9|h9
 · exact h y h9
 · rw [HA.1 h9];exact hv
set_option maxHeartbeats 1000000 in
theorem kE(base until_:D5){z:FI}(hz:z.ok M)(hs:∀x∈z.a.ranges,x.small)(gm:∀x∈z.a.ranges,x.roots.length<=1000000)(d9:z.a.ranges.length<=1000000)(hb:-1000000000000<=z.a.base/\z.a.base<=1000000000000)(ax:∀x∈z.a.recs,x.cs.length<=1000):BB prog 20 #[.agg #[I4 base.p,.string (str base.ch),.string (str base.st)],.agg #[I4 until_.p,.string (str until_.ch),.string (str until_.st)],.agg #[I4 z.a.q.kd,I4 z.a.q.tb,I4 z.a.q.cl,I4 z.a.q.lo,I4 z.a.q.hi,I4 z.a.q.bq,I4 z.a.q.ot,.slice z.rp z.a.res.rows.length z.rc,I4 z.a.res.val,.bool z.a.res.fnd,I4 z.a.since,I4 z.a.until_,I4 z.a.base,.slice z.gp z.a.ranges.length z.gc,.slice z.cp z.a.recs.length z.cc]] [M] (.bool (decide (Eg base until_ z.a))):=by
 have lv:=mL;refine Se func20 ntmps20 [0,1,2] ?_;intro u R;refine A2<|Ze (Bx #[_,_,_])<|AE fun b1=>Ze (Bx #[_,_,_])<|AE fun b2=>Ze (Bx #[I4 z.a.q.kd,I4 z.a.q.tb,I4 z.a.q.cl,I4 z.a.q.lo,I4 z.a.q.hi,I4 z.a.q.bq,I4 z.a.q.ot,.slice z.rp z.a.res.rows.length z.rc,I4 z.a.res.val,.bool z.a.res.fnd,I4 z.a.since,I4 z.a.until_,I4 z.a.base,.slice z.gp z.a.ranges.length z.gc,.slice z.cp z.a.recs.length z.cc])<|AE fun b3=>AF Y<|A2<|Zo Wh (A7 (cs:=#[_,_,_]) HK Ek Y (by exact B4 _) (by exact AP V)) ?_;refine Zh 14 C3 V rfl Kd Y<|Zl LS Y ?_;refine Zo Wh (A7 (cs:=#[_,_,_]) HK Ek Y (by exact B4 _) (by exact AP V)) ?_;refine Xr [_,_,_] Y call63 Y V (bu base until_ hz.2.2) ?_;refine CT Y<|A2<|Zh 0 Hc V rfl A4 Y<|Zl A5 Y ?_;refine Zh 12 C3 V rfl A4 Y<|Zl A5 Y ?_;refine Zv (ED Y Y)<|Zm Y<|AZ (t:=22) Y V (fun W=>?_) (fun W=>?_);focus
  have G:¬Eg base until_ z.a:=fun E=>W E.1;refine Sk 10 V<|Z0<|Zn [3,5,32] ?_;refine Zx<|BV Y ?_
 rotate_left
 focus
  refine Yf 0 Hc V rfl A4 Y<|Yl A5 Y ?_;refine Yf 11 C3 V rfl A4 Y<|Yl A5 Y ?_;refine Yg (ED Y Y)<|Sk 2 V ?_;refine AZ (t:=29) Y V (fun h2=>?_) (fun h2=>?_);focus
   have G:¬Eg base until_ z.a:=fun E=>h2 E.2.1;refine Sk 3 V<|Z0<|Zn [3,5,32] ?_;refine Zx<|BV Y ?_
  rotate_left
  focus
   refine Zf Y Y<|Yg (Bp Y)<|H3 Y Y<|Z0<|Zn [3,5,32] ?_;refine Zx<|Af Y (fun X=>?_) (fun X=>?_);focus
    have G:¬Eg base until_ z.a:=fun E=>(show¬FW base z.a.recs until_ by simpa using X) E.2.2.1
   rotate_left
   have Z:FW base z.a.recs until_:=by simpa using X
   refine B3<|Zq<|A2<|AF Y<|AQ<|Zb [8,3,5] ?_;refine Av (e0:=[(8,_)]) (fun m e H=>∃(k:Nat),m=z.a.ranges.length -k/\(k<=z.a.ranges.length/\∀x∈z.a.ranges.take k,KF base.st x)/\e=[(8,I4 (k:Int))]/\H=[]) (by exact ⟨0,rfl,⟨CD _,fun x hx=>by rw [Hh]at hx;cases hx⟩,rfl,rfl⟩) Wp ?_;rintro _ _ _ ⟨k,rfl,⟨hk,hV⟩,rfl,rfl⟩;refine C0 Y<|Zh 13 C3 V rfl E0 Y<|Zl FG Y ?_;refine Zv (AJ Ds Y)<|Zv (Ak Y Y)<|A6<|Ad Y (fun bf=>?_) (fun bf=>?_);·
    obtain ⟨x,hx⟩:∃x,z.a.ranges[k]?=some x:=⟨_,Bk A0⟩;obtain ⟨z1,J,cu,g1,l9,l8,T1,o8,cO,bn,mR,gy⟩:=O3 hz.2.1 hx;have K:=Fm hx
    have U:=hs x K;rw [cO];refine B3<|Zq<|AQ<|Zq<|Au (n:=9) (0::1::0::4::0::28::60::127::255::[]) 128 AG AG V<|A1 0 V (AL (off:=2) Hc V rfl F2 Y)<|B6 1 V HG Y ?_;refine A1 2 V (AL (off:=13) C3 V rfl E0 Y)<|B6 3 V FG Y ?_;refine A1 4 V (AA Y)<|A1 5 V (A9 Ds DM Y Y A0)<|CX (D':=127) 6 V rfl V (GK Wo (bn)) (A7 (cs:=#[_,_,_,_,_,_,_,_,_]) It DM Y A0 (by exact gy)) ?_;refine Yw 7 255 rfl (Zu [_,_] Y call64 Y rfl (dC cu.rp (by rw [J];exact U.1) (by rw [J];exact gm x K) (by rw [J];exact U.2) base.st)) ?_;rintro _ _ ⟨rfl,rfl⟩;rw [J];refine A1 8 V (Aq Y)<|Am<|Zn [3,5,8,9] ?_;refine Zx<|B7 Y<|Zv (Bp Y)<|A6<|Af Y (fun h5=>?_) (fun h5=>?_);·
     have G:¬Eg base until_ z.a:=fun E=>(show¬KF base.st x by simpa using h5) (E.2.2.2.1 x K);refine A2<|AM Y<|AX<|Zt<|Zt<|AX<|Zt<|AO V results20 Y (by exact ⟨congrArg Value.bool (CC G).symm,V⟩)
    have gq:KF base.st x:=by simpa using h5
    refine AB<|A8<|Zx<|Zg<|Zm Y<|Ya (n:=1) Y Y<|AN Y<|HN (by exact ⟨k+1,V,⟨by omega,uG hV hx gq⟩,V,V⟩)
   have ek:k=z.a.ranges.length:=by omega
   subst ek;rw [HJ]at hV;refine Az<|Zt<|Zt<|AU<|BT<|Zh 0 C3 V rfl CN Y<|Zo Wh (A7 (cs:=#[_,_,_,_,_,_,_]) DE CN Y BW (by exact (by apply L5.1;rfl))) ?_;refine Zh 12 C3 V rfl A4 Y<|Zl A5 Y ?_;refine Zh 13 C3 V rfl E0 Y<|Zl FG Y ?_;refine Zv (BK (vs:=[(0,.agg #[I4 z.a.q.kd,I4 z.a.q.tb,I4 z.a.q.cl,I4 z.a.q.lo,I4 z.a.q.hi,I4 z.a.q.bq,I4 z.a.q.ot]),(2,I4 z.a.base),(3,.slice z.gp z.a.ranges.length z.gc)]) (cs:=#[I4 z.a.q.kd,I4 z.a.q.tb,I4 z.a.q.cl,I4 z.a.q.lo,I4 z.a.q.hi,I4 z.a.q.bq,I4 z.a.q.ot,I4 0,I4 z.a.base,.slice z.gp z.a.ranges.length z.gc]) Y (AY (pl:=#[(0,7),(7,1),(8,1),(9,1)]) SR L4 (fun _=>by kernel_rfl) AG))<|Zh 14 C3 V rfl Kd Y<|Zl LS Y ?_;refine Zc [_,_] Y call12 Y V (NJ z.a.q 0 z.a.base hb hz.2.1 hz.2.2 ax) ?_;rintro _ _ ⟨_,⟨y,s9,b9,rfl,O,kv,kz,rfl⟩,rfl⟩;refine Sk 3 V<|Ze (Al Hs #[_,_,_,_,_,_,_,_,_,_,_,_,_,_,_])<|AE fun b4=>Xe (Xw F0 #[I4 y.a.q.kd,I4 y.a.q.tb,I4 y.a.q.cl,I4 y.a.q.lo,I4 y.a.q.hi,I4 y.a.q.bq,I4 y.a.q.ot,.slice y.rp y.a.res.rows.length y.rc,I4 y.a.res.val,.bool y.a.res.fnd,I4 y.a.since,I4 y.a.until_,I4 y.a.base,.slice y.gp y.a.ranges.length y.gc,.slice y.cp y.a.recs.length y.cc]) ?_;refine AN Y<|Zn [5,10,11] ?_;refine BT<|Sk 2 V ?_;refine Ae (t:=64) Y V (fun h6=>?_) (fun h6=>?_);·
    have I:=wN O kv h6;refine DK Y Wh (A7 (cs:=#[_,_,_,_,_,_,_,_,_,_,_,_,_,_,_]) HQ F0 Y (by exact B4 _) (by exact AP V)) V rfl ?_;refine DK Y Wh (A7 (cs:=#[_,_,_,_,_,_,_,_,_,_,_,_,_,_,_]) HQ F0 Y (by exact B4 _) (by exact AP V)) V rfl ?_;refine Xr [_,_] Y call13 Y V (kD hz kz d9) ?_;refine HR Y Y<|AM Y<|AO rfl results20 Y (by exact ⟨by exact F4 ⟨fun E=>⟨Fi.1 W,Fi.1 h2,Z,hV,y.a,I,E⟩,fun E=>by obtain ⟨b,g,af⟩:=E.2.2.2.2;rw [I]at g;injection g with g;rw [g];exact af⟩,rfl⟩)
   have I:=wO O h6;refine Sk 4 rfl<|AM Y<|AO rfl results20 Y (by exact ⟨by exact congrArg Value.bool (CC (fun E:Eg base until_ z.a=>by obtain ⟨b,g,_⟩:=E.2.2.2.2;rw [I]at g;cases g)).symm,rfl⟩)
 all_goals
  refine A2<|AM Y<|Zt<|AO V results20 Y (by exact ⟨congrArg Value.bool (CC G).symm,V⟩)
theorem qD{rs:List AV}{Z:List RPZ}{k:Nat}(h:Z.map RPZ.x=EC rs q.tb.toNat q.cl.toNat q.lo q.hi::((Cm rs q).take k).map fun r=>EC rs q.ot.toNat 0 (Bh r q.bq) (Bh r q.bq))(m:q.kd≠7->k=0)(z:(Cm rs q).length<=k\/q.kd≠7):Z.map RPZ.x=EQ rs q:=by
 rw [h];unfold EQ;by_cases g:q.kd=7;· rw [B2 g,Hx (z.resolve_right fun y=>y g)]
 · rw [Ax g,m g];rfl
theorem Si(rp:Nat)(p:Int)(w:A3)(rs:List AV)(m:List AR)(g:BS 5 91 w rs.length (Aa rs) m)(hn:rs.length<=2000)(J:BP rs)(E:∀r∈rs,r.ok)(t c lo hi:Int)(K:0<=t/\t<=3)(hc:0<=c/\c<=3)(y:lo<=hi):
 CJ prog 39 #[I5 rp,I4 t,I4 c,I4 lo,I4 hi] [[(rp,.cells #[w,I4 p] 138 (0,0))],m] (fun r H'=>∃(z:RPZ) (mem:List AR),z.x=EC rs t.toNat c.toNat lo hi/\z.ok mem/\r= .tuple #[.agg #[I4 z.x.tb,I4 z.x.cl,I4 z.x.lo,I4 z.x.hi,I4 z.x.ct,I4 z.x.fi,.slice z.qr z.x.rows.length z.cr,.slice z.qp z.x.paths.length z.cp,.slice z.qt z.x.roots.length z.ct],I4 0]/\H'=[mem,[(rp,.cells #[w,I4 p] 138 (0,0))],m]):=by
 have h:=kG rp p w rs m g hn J E t.toNat c.toNat A0 A0 lo hi y;rw [show((t.toNat:Nat):Int)=t by omega,show((c.toNat:Nat):Int)=c by omega]at h;refine h.mono ?_;rintro r H' ⟨O,mem,rfl,I,rfl⟩;obtain ⟨z,G,h2,rfl⟩:=ny I;exact ⟨z,mem,G,h2,V,V⟩
theorem jy(sp:Nat)(p:Int)(v:A3)(rs:List AV)(m:List AR)(t c lo hi:Int)(g:BS 5 91 v rs.length (Aa rs) m)(hn:rs.length<=2000)(hc:0<=c/\c<=3):
 CJ prog 38 #[I5 sp,I4 t,I4 c,I4 lo,I4 hi] [[(sp,.cells #[v,I4 p] 138 (0,0))],m] (fun r H'=>∃y,BS 5 91 r (D8 rs t c.toNat lo hi).length (Aa (D8 rs t c.toNat lo hi)) y/\H'=[y,[(sp,.cells #[v,I4 p] 138 (0,0))],m]):=by
 have h:=YN sp p v rs m t c.toNat lo hi g hn A0;rw [show((c.toNat:Nat):Int)=c by omega]at h;exact h
set_option maxHeartbeats 1000000 in
theorem oQ(rp:Nat)(p:Int)(w:A3)(rs:List AV)(sv:List AR)(I:BS 5 91 w rs.length (Aa rs) sv)(hn:rs.length<=2000)(hs:BP rs)(cO:∀r∈rs,r.ok)(q:QM)(W:BH q)(hl:(Cm rs q).length<=100):CJ prog 9 #[I5 rp,.agg q.Ax4] [[(rp,.cells #[w,I4 p] 138 (0,0))],sv] (fun r H'=>∃vo mem,r= .tuple #[vo,I4 0]/\Et mem vo (EQ rs q)/\H'=[mem,[(rp,.cells #[w,I4 p] 138 (0,0))],sv]):=by
 have qa:=mL;have bf:=W.2.1
 have o9:0<=q.bq/\q.bq<=3:=jE W;have oq:0<=q.ot/\q.ot<=3:=by have:=W.2.2.2;omega
 refine Se func9 ntmps9 [0,1] ?_;intro u R;refine A2<|Ze (Bx q.Ax4)<|AE fun bq=>Za Y<|AF Y<|A2<|Zo Wh (A7 (cs:=#[_,_,_,_,_,_,_]) DE CN Y (by exact B4 _) (by exact AP V)) ?_;refine Xr [_] Y call37 Y V (P8 q) ?_;refine AF Y<|C0 Y<|Zv (Bp Y)<|A6<|Af Y (fun ax=>?_) (fun ax=>?_);·
  exfalso;simp [W]at ax
 refine B3<|B7 Y<|Zh 1 CH V rfl A4 Y<|Zl A5 Y ?_;refine Zh 2 CH V rfl A4 Y<|Zl A5 Y ?_;refine Zh 3 CH V rfl A4 Y<|Zl A5 Y ?_;refine Zh 4 CH V rfl A4 Y<|Zl A5 Y ?_;refine Zc [_,_,_,_,_] Y call38 Y V (jy rp p w rs sv q.tb q.cl q.lo q.hi I hn bf) ?_;rintro _ _ ⟨_,⟨s1,h1,rfl⟩,rfl⟩;rw [show D8 rs q.tb q.cl.toNat q.lo q.hi=Cm rs q from rfl]at h1;obtain ⟨p1,c1,rfl⟩:=h1.form;have kz:=Ca h1 A0
 refine AN Y<|Zn [0,3,7] ?_;refine Zx<|C0 Y<|Zv (AJ B0 Y)<|Zv (CW (n:=100) Y Y)<|A6<|Ad Y (fun l9=>by omega)<|fun l9=>B3<|B7 Y<|Zh 1 CH V rfl A4 Y<|Zl A5 Y ?_;refine Zh 2 CH V rfl A4 Y<|Zl A5 Y ?_;refine Zh 3 CH V rfl A4 Y<|Zl A5 Y ?_;refine Zh 4 CH V rfl A4 Y<|Zl A5 Y ?_;refine Zc [_,_,_,_,_] Y call39 Y V (Si rp p w rs sv I hn hs cO q.tb q.cl q.lo q.hi W.1 bf W.2.2.1.2.1) ?_;rintro _ _ ⟨_,⟨y,pg,p8,gm,rfl,rfl⟩,rfl⟩;refine Sk 3 V<|Ze (Al N0 #[_,_,_,_,_,_,_,_,_])<|AE fun bp=>Xe (Xw DM #[I4 y.x.tb,I4 y.x.cl,I4 y.x.lo,I4 y.x.hi,I4 y.x.ct,I4 y.x.fi,.slice y.qr y.x.rows.length y.cr,.slice y.qp y.x.paths.length y.cp,.slice y.qt y.x.roots.length y.ct]) ?_;refine AN Y<|Zn [0,3,7,8] ?_;refine BT<|Zo Wh (A7 (cs:=#[_,_,_,_,_,_,_,_,_]) It DM Y (by exact B4 _) (by exact AP V)) ?_;refine Ze (Ah (vs:=[_]) (cs:=[_,_,_,_,_,_,_,_,_]) Ds DM N0 Y V rfl V rfl V)<|AE fun go=>CT Y<|A2<|AF Y<|AQ<|Zb [10,11,0,3,7,8] ?_;refine Av (e0:=[(10,_),(11,_)]) (fun m e H=>∃(k:Nat) (Z:List RPZ) (G:RPZ) (g:C1) (c:Nat) (so U:List AR),m=(Cm rs q).length -k/\(k<=(Cm rs q).length/\(q.kd≠7->k=0)/\Z.map RPZ.x=EC rs q.tb.toNat q.cl.toNat q.lo q.hi::((Cm rs q).take k).map (fun r=>EC rs q.ot.toNat 0 (Bh r q.bq) (Bh r q.bq))/\(∀z∈Z,z.ok U)/\Z.length=k+1/\BS 9 49 (.slice g Z.length c) Z.length (Z.flatMap ET) so)/\e=[(10,.slice g Z.length c),(11,I4 (k:Int))]/\H=[[(bp,.cells #[I4 G.x.tb,I4 G.x.cl,I4 G.x.lo,I4 G.x.hi,I4 G.x.ct,I4 G.x.fi,.slice G.qr G.x.rows.length G.cr,.slice G.qp G.x.paths.length G.cp,.slice G.qt G.x.roots.length G.ct] 49 (0,0))],so,U]) (by exact ⟨0,[y],y,some ⟨go,0,none⟩,1,_,pg,rfl,⟨CD _,fun _=>rfl,by rw [Hh,NO,RK,p8],fun z hz=>by rw [HA.1 hz];exact gm,rfl,En 9 49 go 1 [I4 y.x.tb,I4 y.x.cl,I4 y.x.lo,I4 y.x.hi,I4 y.x.ct,I4 y.x.fi,.slice y.qr y.x.rows.length y.cr,.slice y.qp y.x.paths.length y.cp,.slice y.qt y.x.roots.length y.ct] rfl AH⟩,rfl,rfl⟩) Wp ?_
 rintro _ _ _ ⟨k,Z,G,g,c,so,U,rfl,⟨hk,bn,O,af,l8,ek⟩,rfl,rfl⟩;refine Zq<|A2<|Sk 2 V<|Zv (AJ B0 Y)<|Zv (Ak Y Y)<|Zm Y<|AZ (t:=49) Y V (fun cu=>?_) (fun cu=>?_);focus
  obtain ⟨X,d9⟩:∃X,(Cm rs q)[k]?=some X:=⟨_,Bk cu⟩;obtain ⟨g3,q9,pz,T3,qo,o8,mR,qb,lv⟩:=KP kz d9;refine Yf 0 CH V rfl A4 Y<|Yl A5 Y ?_;refine Yg (Bd Y Y)<|HR Y Y<|A6<|Ad Y (fun h7=>?_) (fun h7=>?_);·
   rw [o8];refine B3<|Zq<|AQ<|Zq<|Au (n:=8) (0::0::3::7::0::16::63::127::[]) 64 AG AG V<|A1 0 V (AA Y)<|A1 1 V (AA Y)<|A1 2 V (A9 B0 AW Y Y A0)<|CX (D':=15) 3 V rfl V (GK Wo (mR)) (A7 (cs:=X.Ax3) C5 AW Y A0 (by exact lv)) ?_;refine A1 4 V (AL (off:=5) CH V rfl A4 Y)<|B6 5 V A5 Y ?_;refine Yw 6 127 V (Zu [_,_] Y Q2 Y V (Lb X o9))<|DA<|A1 7 V (Aq Y)<|Am<|Zn [0,3,7,8,10,11,12] ?_;refine Zx<|B7 Y<|Zh 6 CH V rfl A4 Y<|Zl A5 Y ?_;refine Sk 2 V<|Zc [_,_,_,_,_] Y call39 Y V (Si rp p w rs sv I hn hs cO q.ot 0 (Bh X q.bq) (Bh X q.bq) oq A0 (db _)) ?_;rintro _ _ ⟨_,⟨E,K,p9,gq,rfl,rfl⟩,rfl⟩;refine Sk 3 V<|Xe (Xw DM #[I4 E.x.tb,I4 E.x.cl,I4 E.x.lo,I4 E.x.hi,I4 E.x.ct,I4 E.x.fi,.slice E.qr E.x.rows.length E.cr,.slice E.qp E.x.paths.length E.cp,.slice E.qt E.x.roots.length E.ct]) ?_;refine A6<|ES (s1:=K) (s2:=U) Wo Wo ?_;refine Zg<|Zm Y<|Zo Wh (A7 (cs:=#[_,_,_,_,_,_,_,_,_]) It DM Y (by exact B4 _) (by exact AP V)) ?_;refine Ze (Ah (vs:=[_]) (cs:=[_,_,_,_,_,_,_,_,_]) Ds DM N0 Y V rfl V rfl V)<|AE fun gb=>Ze (BL (by_:=120) (sz:=9) Ds (V:Tryz.prog.info? 49=some Tryz.t49) V rfl V rfl Y (ek) Y (D7 9 gb 1 1 49 (0,0) (ET E) V) Wo Wo (by have:=gH [E];simpa using this) A0 A0) ?_;rintro _ _ ⟨pq,J,rfl⟩;obtain ⟨kv,gy,rfl⟩:=J.form;refine AN Y<|Zn [0,3,7,8,10,11] ?_;refine A8<|Zx<|Zg<|Zm Y<|Ya (n:=1) Y Y<|AN Y<|DH (e:=[(10,_),(11,_)]) (h:=by exact ⟨k+1,Z++[E],E,kv,gy,pq,K++U,rfl,⟨by omega,fun h=>absurd h7 h,by rw [HD,O,Bt d9,HD,RK,p9];rfl,fun z hz=>by rcases GS.1 hz with h9|h9;exact (af z h9).mono (fun c hc=>G2 _ hc);rw [HA.1 h9];exact gq.mono (fun c hc=>HE _ hc),by rw [C7,l8];rfl,by rw [C7];exact BJ J rfl (by rw [O2];simp)⟩,by rw [C7];rfl,rfl⟩)
  focus
   have he:=qD O bn (.inr h7)
 rotate_left
 focus
  have he:=qD O bn (.inl A0);refine Sk 4 V<|A6<|DY Y ?_
 all_goals
  refine Az<|Zt<|Zt<|AU<|Zx<|Zq<|ES (s1:=so) (s2:=U) Wo Wo ?_;refine Zg<|Sk 2 rfl<|AM Y<|Cn rfl results9 Y Y (by exact ⟨.slice g Z.length c,so++U,rfl,by rw [<-he];exact SL ek A0 af,rfl⟩)
end Go.Proofs.YtljkoipiekbijaaGreatDoor
namespace Go.Proofs.YtljkoipiekbijaaGreatDoor
open Go.Proofs.Tryz
open Go Go.RowKit Gw
set_option maxRecDepth 100000
attribute [local irreducible] Gw.At Gw.Nx Gw.Ops
open Go.Extern.Stop Go.Stop Go.Extern
def nf(t:An):Sem A3:=do Extern.Rtype.noPackHeld "Comparable" t;pure (.bool (←typeInfo t).comparable)
theorem qZ(v:A3)(w:AD):(Extern.ReflectliteType.typeOf #[.iface 343 v]).run prog w= .ok (.iface 254 (.agg #[.pointer (some ⟨3,343,none⟩)])) w:=by kernel_rfl
theorem XH(w:AD):((Extern.ReflectliteType.method nf) #[.agg #[.pointer (some ⟨3,343,none⟩)]]).run prog w= .ok (.bool true) w:=by kernel_rfl
theorem OG(v:A3)(w:AD):(Go.method 477 254 v "Comparable").run prog w= .ok (307,v) w:=by kernel_rfl
theorem yU:(Tryz.prog.info? 343).map (·.comparable)=some true:=by kernel_rfl
theorem yR:(Tryz.prog.info? 366).map (·.size)=some 1:=by kernel_rfl
set_option maxHeartbeats 1000000 in
theorem vY(a:Addr)(w:AD):
 Calls prog 106 #[.iface 343 (.pointer (some a)),.iface 343 (.pointer (some a))] w fun e G=>e= .returned (.bool true)/\G=w:=by
 obtain ⟨i,hi,g⟩:=fj.1 yU;obtain ⟨j,z,E⟩:=fj.1 yR;have J:=@run_callFunc_extern prog 158 _ Extern.ReflectliteType.typeOf func158 AG AG AG AG
 have m:=@run_callFunc_extern prog 307 _ (Extern.ReflectliteType.method nf) func307 AG AG AG AG;have O:=qZ
 have I:=XH;have K:=OG
 have y:=run_eql_iface_ptr_same (P:=prog) w a kn underlying343 hi g z
 go_enter func106,ntmps106
 go_wp2
 refine wp_loop_rounds 1 ?_;rw [rounds_succ]
 go_wp2
 go_ret
 exact ⟨V,V⟩
theorem vX(a:Addr):BB prog 106 #[.iface 343 (.pointer (some a)),.iface 343 (.pointer (some a))] [] (.bool true):=
 Nz (Rl:=fun v=>v= .bool true) (fun w _=>(vY a w).mono (by rintro e g ⟨rfl,rfl⟩;exact ⟨_,rfl,rfl,Below.refl _ _⟩)) (fun v hv=>⟨hv,rfl⟩)
end Go.Proofs.YtljkoipiekbijaaGreatDoor
namespace Go.Proofs.YtljkoipiekbijaaGreatDoor
open Go.Proofs.Tryz
open Go Go.RowKit Gw
set_option maxRecDepth 100000
attribute [local irreducible] Gw.At Gw.Nx Gw.Ops
theorem yT(v:A3)(w:AD):(Instr.typeAssert (.iface 343 v) 20 167 true).run prog w= .ok (.tuple #[.iface 343 v,.bool true]) w:=Go.run_typeAssert_hasB kn AG v 20 w
theorem YE{s:Int×Int×Int×Int}{x:RP}{l:List RP}(h:¬(x.scan=s/\Eb x)):Gz s (x::l)=none:=Ax h
variable{q:QM}{L:List RP}
theorem jq{rows:List AV}{k:Nat}{r:AV}{z:List RP}{o:List AV}(y:rows[k]?=some r)(h:DR q (rows.take k) L=some (o,z))(hn:Gz (IL q r) z=none):DR q rows L=none:=by
 cases hb:DR q rows L with
 |none=>rfl
 |some b=>
  obtain ⟨G,E,g,I,h2,_⟩:=La rows k L b (by have:=(D3.1 y).1;omega) hb;rw [h]at g;injection g with g
  injection g with h3 h4
  subst h3 h4;rw [Tu y]at h2;obtain ⟨a,c,m,_,_⟩:=KS h2;rw [hn]at m;cases m
theorem bN(h:¬BH q):Bu q L=none:=Ax h
theorem bM(g:BH q)(h:Gz (JS q) L=none):Bu q L=none:=by unfold Bu;rw [B2 g,h];rfl
variable{a:List AV×List RP}
theorem bL(m:BH q)(h:Gz (JS q) L=some a)(g:¬a.1.length<=100):Bu q L=none:=by unfold Bu;rw [B2 m,h,I0,Ax g]
theorem Ny(m:BH q)(h:Gz (JS q) L=some a)(g:a.1.length<=100):Bu q L=(if q.kd=7 then DR q a.1 a.2 else some ([],a.2)).bind fun b=>if b.2=[]then some (Cc q a.1 b.1)else none:=by unfold Bu;rw [B2 m,h,I0,B2 g]
theorem bK(y:BH q)(h:Gz (JS q) L=some a)(m:a.1.length<=100)(g:q.kd=7)(hn:DR q a.1 a.2=none):Bu q L=none:=by rw [Ny y h m,B2 g,hn];rfl
theorem NR(b:Bool)(g:Addr)(m:An)(z:Nat×Nat):KG prog 53 #[.bool b] [[(0,.cells #[.iface 343 (.pointer (some g))] m z)]] (fun r H'=>b=true/\r=undef/\H'=[[(0,.cells #[.iface 343 (.pointer (some g))] m z)]]) (fun ch H'=>b=false/\ch=[{v:= .iface 343 (.pointer (some g)),recovered:=false}]/\H'=[[(0,.cells #[.iface 343 (.pointer (some g))] m z)]]):=by
 refine Se func53 ntmps53 [0] ?_;intro u R;refine B7 Y<|Zv (CR Y)<|A6<|Af Y (fun y=>?_) (fun y=>?_);·
  refine Zg<|Zl isAgg167 Y ?_;refine HY Y (Gr V) V (uD Y) ?_ ?hpan_1
  case hpan_1=>
   rintro _ _ ⟨rfl,rfl⟩ env;refine PM (by exact ⟨by simpa using y,V,V⟩)
  exact fun _ _ h=>h.elim
 refine AB<|Gn V results53 (by exact ⟨by simpa using y,V,V⟩)
set_option maxHeartbeats 1000000 in
theorem oI{M:List AR}{v:A3}(hL:Et M v L)(t c lo hi:Int)(Z:Nat)(I:Addr)(J:An)(O:Nat×Nat):KG prog 54 #[I5 Z,.agg #[I4 t,I4 c,I4 lo,I4 hi]] [[(Z,.cells #[v] 114 (0,0))],M,[(0,.cells #[.iface 343 (.pointer (some I))] J O)]] (fun r H'=>∃a sr v',Gz (t,c,lo,hi) L=some a/\BS 5 91 r a.1.length (Aa a.1) sr/\Et M v' a.2/\H'=[sr,[(Z,.cells #[v'] 114 (0,0))],M,[(0,.cells #[.iface 343 (.pointer (some I))] J O)]]) (fun ch H'=>Gz (t,c,lo,hi) L=none/\ch=[{v:= .iface 343 (.pointer (some I)),recovered:=false}]/\∃v',H'=[[(Z,.cells #[v'] 114 (0,0))],M,[(0,.cells #[.iface 343 (.pointer (some I))] J O)]]):=by
 have d9:=mL;obtain ⟨p9,y,rfl,af,W⟩:=id hL.form;obtain ⟨n,hn⟩:∃n,n=L.length:=⟨_,rfl⟩;rw [<-hn]at hL af W⊢;refine Se func54 ntmps54 [0,1] ?_;intro u R;refine A2<|Ze (Bx #[_,_,_,_])<|AE fun bx=>AF Y<|B7 Y<|Zp Y V<|Zh 0 SO V rfl E0 Y<|Zl FG Y ?_;refine Zv (AJ Ds Y)<|Zv (CW (n:=0) Y Y)<|HY Y (Gr V) V (Jw (vs:=[_]) Y Sh Y V (NR _ I J O) Wp) ?_ ?hpan_1
 case hpan_1=>
  rintro _ _ ⟨_,⟨m,rfl,rfl⟩,rfl⟩ env;refine Zt<|PM (by
   have h0:¬0<n:=NX m;exact ⟨by have:L=[]:=List.length_eq_zero_iff.1 A0;rw [this];rfl,rfl,.slice p9 n y,rfl⟩)
 rintro _ _ ⟨_,⟨m,rfl,rfl⟩,rfl⟩;have h0:0<n:=I2 m
 obtain ⟨x,L2,rfl⟩:∃x L2,L=x::L2:=by
  cases L with
  |nil=>exfalso;rw [My]at hn;omega
  |cons x l=>exact ⟨x,l,rfl⟩
 rw [GB]at hn;obtain ⟨z,cu,bn,g,off,cur,T,zz,rfl,ax,cO,U⟩:=hL.at (i:=0) rfl;subst cu;have hT:=hL.tail
 refine A6<|B7 Y<|Zp Y V<|Zh 0 SO V rfl E0 Y<|Zl FG Y ?_;refine BN (A9 (j:=0) Ds DM Y Y A0)<|Cj (cs:=[(g,.cells cur T zz)]) (by simp [ax]) (A7 (cs:=#[_,_,_,_,_,_,_,_,_]) It DM Y A0 U) V rfl ?_;refine Ze (Al N0 #[_,_,_,_,_,_,_,_,_])<|AE fun bp=>Xe (Xw DM #[I4 z.x.tb,I4 z.x.cl,I4 z.x.lo,I4 z.x.hi,I4 z.x.ct,I4 z.x.fi,.slice z.qr z.x.rows.length z.cr,.slice z.qp z.x.paths.length z.cp,.slice z.qt z.x.roots.length z.ct]) ?_;refine Z0<|Zn [0,3,5] ?_;refine BT<|Sk 2 V<|Zp Y V<|Zh 0 SO V rfl E0 Y<|Zl FG Y ?_;refine BN (Bv (l:=1) Ds DM Y Y A0)<|Zp Y V<|Zh 0 SO V rfl E0 Y<|Xe (Zs E0 Y Y V (hi:=by(simp;done))) ?_;refine A6<|A2<|Zh 0 Bm V rfl A4 Y<|Zl A5 Y (hv:=by exact (V:_=some (Value.int .i64 z.x.tb))) ?_;refine Zh 1 Bm V rfl A4 Y<|Zl A5 Y (hv:=by exact (V:_=some (Value.int .i64 z.x.cl))) ?_;refine Zh 2 Bm V rfl A4 Y<|Zl A5 Y (hv:=by exact (V:_=some (Value.int .i64 z.x.lo))) ?_;refine Zh 3 Bm V rfl A4 Y<|Zl A5 Y (hv:=by exact (V:_=some (Value.int .i64 z.x.hi))) ?_;refine Zv (BK (vs:=[(0,I4 z.x.tb),(1,I4 z.x.cl),(2,I4 z.x.lo),(3,I4 z.x.hi)]) (cs:=#[I4 z.x.tb,I4 z.x.cl,I4 z.x.lo,I4 z.x.hi]) Y (AY (pl:=#[(0,1),(1,1),(2,1),(3,1)]) er OS (fun _=>by kernel_rfl) AG))<|Zo Wh (A7 (cs:=#[_,_,_,_]) isAgg83 ao Y BW B5) ?_;refine Zv (Qy AG OS AG AH AH AH AH Ge A5 Y Y)<|HY Y (Gr V) V (Jw (vs:=[_]) Y Sh Y V (NR _ I J O) Wp) ?_ ?hpan_3
 case hpan_3=>
  rintro _ _ ⟨_,⟨m,rfl,rfl⟩,rfl⟩ env;refine Zt<|PM (by
   have E:=NX m;exact ⟨YE (fun h9=>E (by have K:=h9.1;unfold RP.scan at K;injection K with e1 K;injection K with e2 K;injection K with e3 e4;exact ⟨e1,e2,e3,e4⟩)),V,.slice (EJ (some ⟨g,off,none⟩) 1 y 9) (n -1) (y -1),V⟩)
 rintro _ _ ⟨_,⟨m,rfl,rfl⟩,rfl⟩;have E:=I2 m
 have bf:z.x.scan=(t,c,lo,hi):=by unfold RP.scan;rw [E.1,E.2.1,E.2.2.1,E.2.2.2]
 refine Z0<|Zn [5] ?_;refine BT<|Zo Wh (A7 (cs:=#[_,_,_,_,_,_,_,_,_]) It DM Y BW B5) ?_;refine Zc [_] Y call107 Y V (Ux bn.rp) ?_;rintro _ _ ⟨_,⟨vr,sr,rfl,X,rfl⟩,rfl⟩;obtain ⟨gr,c9,rfl⟩:=X.form;refine Sk 4 V<|AF Y<|B7 Y<|HY Y (Gr V) V (Jw (vs:=[_]) Y Sh Y V (NR _ I J O) Wp) ?_ ?hpan_5
 case hpan_5=>
  rintro _ _ ⟨_,⟨m,rfl,rfl⟩,rfl⟩ env;refine Zt<|PM (by
   have E:=NX m;exact ⟨YE (fun h9=>E h9.2),V,.slice (EJ (some ⟨g,off,none⟩) 1 y 9) (n -1) (y -1),V⟩)
 rintro _ _ ⟨_,⟨m,rfl,rfl⟩,rfl⟩;have G:Eb z.x:=I2 m
 refine A6<|B7 Y<|AM Y<|AO V results54 Y (by exact ⟨_,sr,_,Gh bf G,X,hT,V⟩)
theorem Pe(y:Nat)(g:Addr)(z:An)(G:Nat×Nat):LV prog 52 #[I5 y] (.panicking [{v:= .iface 343 (.pointer (some g)),recovered:=false}]) (.panicking [{v:= .iface 343 (.pointer (some g)),recovered:=true}]) [[(y,.cells #[.bool true] 4 (0,0))],[(0,.cells #[.iface 343 (.pointer (some g))] z G)]] (fun H'=>H'=[[(y,.cells #[.bool false] 4 (0,0))],[(0,.cells #[.iface 343 (.pointer (some g))] z G)]]):=by
 refine Qi (env1:=[(3,.bool true),(2,.iface 343 (.pointer (some g))),(8,.bool true),(7,.iface 343 (.pointer (some g))),(4,.tuple #[.iface 343 (.pointer (some g)),.bool true]),(6,.tuple #[.iface 343 (.pointer (some g)),.bool true]),(5,.iface 343 (.pointer (some g))),(0,I5 y)]) func52 V ntmps52 V results52 ?hrec_1 ?hwalk_1
 case hrec_1=>
  intro u R c cs Q J I;show Xd _ _ [0,1,2,3,4,5,6] _ _ _ _ _
  refine pR (v:= .iface 343 (.pointer (some g))) (cs':={c with mode:= .panicking [{v:= .iface 343 (.pointer (some g)),recovered:=true}]}::cs) V (by simp [recoverD,J]) V ?_;refine JP V (Nh Y (yT _)) V ?_;refine JP V (AA Y) V ?_;refine JP V (Bn Y V) V ?_;refine JP V (Bn Y V) V ?_;refine JP V (Aq Y) V ?_;refine JP V (Aq Y) V ?_;intro a w K;exact I a w K
 intro u R;refine Zb [0,2,3] ?_;refine B7 Y<|Zm Y<|Ae (t:=10) Y V (fun E=>?_) (fun E=>?_);·
  refine Zf Y Y<|Yl isAgg167 Y ?_;refine Xr [_,_] Y call106 Y V (vX g) ?_;refine HR Y Y<|A6<|Af Y (fun m=>?_) (fun m=>?_);·
   refine Zg<|Zm Y<|Zp Y V<|Xe (Zs DP Y Y V) ?_;refine Z0<|Gn V results52 B5
  cases m
 cases E
theorem Oj(g m:Nat):LV prog 51 #[I5 g,I5 m] .returning .returning [[(g,.cells #[.bool false] 4 (0,0))],[(m,.cells #[.slice none 0 0,I4 0,.bool false] 51 (0,0))]] (fun H'=>H'=[[(g,.cells #[.bool false] 4 (0,0))],[(m,.cells #[.slice none 0 0,I4 0,.bool false] 51 (0,0))]]):=by
 refine R4 func51 V ntmps51 V ?_;intro u R;refine Zb [0,1] ?_;refine A2<|Zl Fc Y ?_;refine Zv (CR Y)<|A6<|Af Y (fun y=>?_) (fun y=>?_);·
  refine Zg<|Zv (BK (vs:=[]) (cs:=#[.slice none 0 0,I4 0,.bool false]) Y (AY (pl:=#[(0,1),(1,1),(2,1)]) GO Cd (fun _=>by kernel_rfl) AG))<|Xe (Ao BE Y Y Ft Wu (by exact Bj rfl) DO Wn (by exact Aw _)) ?_;refine Z0<|Gn V results51 B5
 cases y
set_option maxHeartbeats 1000000 in
theorem gZ{M:List AR}{v:A3}(hL:Et M v L)(q:QM)(E:Addr)(G:An)(J:Nat×Nat):CJ prog 16 #[.agg q.Ax4,v] [M,[(0,.cells #[.iface 343 (.pointer (some E))] G J)]] (fun w H'=>∃rv sr,w= .tuple #[.agg #[rv,I4 ((Bu q L).getD CB.none).val,.bool ((Bu q L).getD CB.none).fnd],.bool (Bu q L).isSome]/\BS 5 91 rv ((Bu q L).getD CB.none).rows.length (Aa ((Bu q L).getD CB.none).rows) sr/\H'=[sr,M,[(0,.cells #[.iface 343 (.pointer (some E))] G J)]]):=by
 have vz:=mL;obtain ⟨pv,cv,rfl,_,_⟩:=id hL.form;refine GM func16 V ntmps16 V ?_;intro u R;refine Zb [0,1] ?_;refine A2<|Ze (Bx q.Ax4)<|AE fun bq=>Ze (Al GO #[_,_,_])<|AE fun bo=>Ze (Al de #[_])<|AE fun K=>A6<|A2<|Zv (CV (vs:=[]) (us:=[_,_]) Y Y)<|Vh V Y ?_;refine A6<|A2<|Xe (Zs DP Y Y V (hi:=by decide)) ?_;refine A6<|A2<|TH V Y ?_;refine A6<|A2<|Zo Wh (A7 (cs:=#[_,_,_,_,_,_,_]) DE CN Y BW B5) ?_;refine Xr [_] Y call31 Y V (Ld q) ?_;refine Mf Y (Gr V) V (Jw (vs:=[_]) Y Sh Y V (NR _ E G J) Wp) ?_ ?hpan_1
 case hpan_1=>
  rintro _ _ ⟨_,⟨I,rfl,rfl⟩,rfl⟩;refine Zt ?_;have ax:=NX I
  have y:Bu q L=none:=bN ax;refine K8 (m':= .returning) (ma:= .panicking [{v:= .iface 343 (.pointer (some E)),recovered:=true}]) V call52 (Pe K E G J) V call51 (Oj K bo) Wp Wp ?_;refine ⟨_,[[],M,[(0,.cells #[.iface 343 (.pointer (some E))] G J)]],fun a w z O U=>F8 dv ((Br a _ (by rw [z];exact O) 4).trans rfl) (Ai D0 BE AH (cs:=#[.slice none 0 0,I4 0,.bool false]) (AP rfl) w (Ez (b:=bo) Wh U)) ((Br a _ (by rw [z];exact O) 5).trans rfl) (GY Fc (v:= .bool false) (i:=0) rfl w (Ez (b:=K) Wh U)),⟨.slice none 0 0,[],by rw [y];rfl,by rw [y];exact BX 5 _,rfl⟩,(show UB ([M,[(0,.cells #[.iface 343 (.pointer (some E))] G J)]]++R) _ from Sub.amid (by repeat(first|exact Sub.refl _|exact Sub.nil _|(apply Sub.cons;(focus (repeat(first|exact One.here _ _|apply One.there))))|refine Sub.drop _ ?_)))⟩
 rintro _ _ ⟨_,⟨I,rfl,rfl⟩,rfl⟩;have hq:=I2 I
 have qo:0<=q.bq/\q.bq<=3:=by have:=hq.2.2.2;omega
 refine A6<|B7 Y<|Zv (BK (vs:=[(0,_)]) (cs:=#[_]) Y (AY (pl:=#[(0,1)]) zeroValue114 SO (fun _=>by kernel_rfl) V))<|Ze (Bx #[_])<|AE fun br=>AN Y<|Zn [2,4,5,6] ?_;refine Zx<|B7 Y<|Zo Wh (A7 (cs:=#[_,_,_,_,_,_,_]) DE CN Y BW B5) ?_;refine Xr [_] Y call34 Y V (yE q hq) ?_;refine Mf Y (Gr V) V (Jw (vs:=[_,_]) Y call54 Y V (oI hL q.tb q.cl q.lo q.hi br E G J) Wp) ?_ ?hpan_2
 case hpan_2=>
  rintro _ _ ⟨_,⟨l8,rfl,v',rfl⟩,rfl⟩;refine Zt ?_;have y:Bu q L=none:=bM hq l8
  refine K8 (m':= .returning) (ma:= .panicking [{v:= .iface 343 (.pointer (some E)),recovered:=true}]) V call52 (Pe K E G J) V call51 (Oj K bo) Wp Wp ?_;refine ⟨_,[[],M,[(0,.cells #[.iface 343 (.pointer (some E))] G J)]],fun a w z O U=>F8 dv ((Br a _ (by rw [z];exact O) 4).trans rfl) (Ai D0 BE AH (cs:=#[.slice none 0 0,I4 0,.bool false]) (AP rfl) w (Ez (b:=bo) Wh U)) ((Br a _ (by rw [z];exact O) 5).trans rfl) (GY Fc (v:= .bool false) (i:=0) rfl w (Ez (b:=K) Wh U)),⟨.slice none 0 0,[],by rw [y];rfl,by rw [y];exact BX 5 _,rfl⟩,(show UB ([M,[(0,.cells #[.iface 343 (.pointer (some E))] G J)]]++R) _ from Sub.amid (by repeat(first|exact Sub.refl _|exact Sub.nil _|(apply Sub.cons;(focus (repeat(first|exact One.here _ _|apply One.there))))|refine Sub.drop _ ?_)))⟩
 rintro _ _ ⟨_,⟨a,sr,v1,W,p9,hT,rfl⟩,rfl⟩;have W:Gz (JS q) L=some a:=W
 obtain ⟨x,ve,_,gy,q9⟩:=K5 W;have cO:=K4 gy
 rw [<-q9]at cO;obtain ⟨gr,sw,rfl⟩:=p9.form;have lv:=Ca p9 A0
 obtain ⟨p7,qx,e7,⟨vw,qy⟩,qa⟩:=id lv;injection e7 with e71 e72 e73
 subst e71 e73;refine AF Y<|B7 Y<|Zv (AJ B0 Y)<|Zv (Vf (n:=100) Y Y)<|Mf Y (Gr V) V (Jw (vs:=[_]) Y Sh Y V (NR _ E G J) Wp) ?_ ?hpan_3
 case hpan_3=>
  rintro _ _ ⟨_,⟨I,rfl,rfl⟩,rfl⟩;refine Zt ?_;have ax:=NX I
  have y:Bu q L=none:=bL hq W ax;refine K8 (m':= .returning) (ma:= .panicking [{v:= .iface 343 (.pointer (some E)),recovered:=true}]) V call52 (Pe K E G J) V call51 (Oj K bo) Wp Wp ?_;refine ⟨_,[[],M,[(0,.cells #[.iface 343 (.pointer (some E))] G J)]],fun a w z O U=>F8 dv ((Br a _ (by rw [z];exact O) 4).trans rfl) (Ai D0 BE AH (cs:=#[.slice none 0 0,I4 0,.bool false]) (AP rfl) w (Ez (b:=bo) Wh U)) ((Br a _ (by rw [z];exact O) 5).trans rfl) (GY Fc (v:= .bool false) (i:=0) rfl w (Ez (b:=K) Wh U)),⟨.slice none 0 0,[],by rw [y];rfl,by rw [y];exact BX 5 _,rfl⟩,(show UB ([M,[(0,.cells #[.iface 343 (.pointer (some E))] G J)]]++R) _ from Sub.amid (by repeat(first|exact Sub.refl _|exact Sub.nil _|(apply Sub.cons;(focus (repeat(first|exact One.here _ _|apply One.there))))|refine Sub.drop _ ?_)))⟩
 rintro _ _ ⟨_,⟨I,rfl,rfl⟩,rfl⟩;have gq:=I2 I
 refine A6<|Zq<|Bi<|Zg<|AF Y<|Zb [8,2,4,5,6,7] ?_;refine C9 (e0:=[(8,_)]) (H0:=[[(br,.cells #[_] 114 (0,0))],[]]) (fun e H=>∃(o:List AV) (l9:List RP) (vo:A3) (so:List AR) (v9:A3),(((if q.kd=7 then DR q a.1 a.2 else some ([],a.2))=some (o,l9))/\BS 5 91 vo o.length (Aa o) so/\Et M v9 l9/\o.length<=200000)/\e=[(8,vo)]/\H=[[(br,.cells #[v9] 114 (0,0))],so]) Wp ?hx_4 ?hy_4
 case hx_4=>
  refine A2<|Zh 0 CH V rfl A4 Y<|Zl A5 Y ?_;refine Zv (Bd Y Y)<|A6<|Ad Y (fun bn=>?_) (fun bn=>?_);·
   refine B7 Y<|Zv (AJ B0 Y)<|Zm Y<|A6<|AQ<|Zb [8,31,2,4,5,6,7,29,30] ?_;refine Av (e0:=[(8,_),(31,_)]) (fun m e H=>∃(k:Nat) (o:List AV) (l9:List RP) (vo:A3) (so:List AR) (v9:A3),m=a.1.length -k/\(k<=a.1.length/\DR q (a.1.take k) a.2=some (o,l9)/\BS 5 91 vo o.length (Aa o) so/\Et M v9 l9/\o.length<=2000*k)/\e=[(8,vo),(31,I4 (k:Int))]/\H=[[(br,.cells #[v9] 114 (0,0))],so]) (by exact ⟨0,[],a.2,.slice none 0 0,[],_,V,⟨CD _,V,BX 5 _,hT,CD _⟩,V,V⟩) Wp ?_;rintro _ _ _ ⟨k,o,l9,vo,so,v9,rfl,⟨hk,Z,af,bf,wo⟩,rfl,rfl⟩;obtain ⟨go,co,rfl⟩:=af.form;refine A2<|Zv (Ak Y Y)<|A6<|Zq<|Ad Y (fun oq=>?_) (fun oq=>?_);·
    obtain ⟨r9,kz⟩:∃r9,a.1[k]?=some r9:=⟨_,Bk oq⟩;obtain ⟨g,off,cur,T,zz,rfl,qb,qz,o8⟩:=qa k r9 kz;refine B3<|Zq<|AQ<|A2<|BN (A9 B0 AW Y Y A0)<|Cj (cs:=[(g,.cells cur T zz)]) (by simp [qb]) (A7 (cs:=r9.Ax3) C5 AW Y A0 o8) V rfl ?_;refine Ze (Al DS #[_,_,_,_,_])<|AE fun bx=>Xe (Xw AW r9.Ax3) ?_;refine A6<|Zg<|Sk 2 V<|Zo Wh (A7 (cs:=#[_,_,_,_,_,_,_]) DE CN Y BW B5) ?_;refine Zo Wh (A7 (cs:=#[_,_,_,_,_]) C5 AW Y BW B5) ?_;refine Xr [_,_] Y call36 Y V (O6 q qo r9) ?_;refine Mf Y (Gr V) V (Jw (vs:=[_,_]) Y call54 Y V (oI bf q.ot 0 (Bh r9 q.bq) (Bh r9 q.bq) br E G J) Wp) ?_ ?hpan_6
    case hpan_6=>
     rintro _ _ ⟨_,⟨l8,rfl,v',rfl⟩,rfl⟩;refine Mi ?_;refine Zt<|Zt<|Mi ?_;refine Zt ?_;have y:Bu q L=none:=bK hq W gq bn (jq kz Z l8)
     refine K8 (m':= .returning) (ma:= .panicking [{v:= .iface 343 (.pointer (some E)),recovered:=true}]) V call52 (Pe K E G J) V call51 (Oj K bo) Wp Wp ?_;refine ⟨_,[[],M,[(0,.cells #[.iface 343 (.pointer (some E))] G J)]],fun a w z O U=>F8 dv ((Br a _ (by rw [z];exact O) 4).trans rfl) (Ai D0 BE AH (cs:=#[.slice none 0 0,I4 0,.bool false]) (AP rfl) w (Ez (b:=bo) Wh U)) ((Br a _ (by rw [z];exact O) 5).trans rfl) (GY Fc (v:= .bool false) (i:=0) rfl w (Ez (b:=K) Wh U)),⟨.slice none 0 0,[],by rw [y];rfl,by rw [y];exact BX 5 _,rfl⟩,(show UB ([M,[(0,.cells #[.iface 343 (.pointer (some E))] G J)]]++R) _ from Sub.amid (by repeat(first|exact Sub.refl _|exact Sub.nil _|(apply Sub.cons;(focus (repeat(first|exact One.here _ _|apply One.there))))|refine Sub.drop _ ?_)))⟩
    rintro _ _ ⟨_,⟨a9,s5,v5,X,h5,pq,rfl⟩,rfl⟩;have X:Gz (IL q r9) l9=some a9:=X
    obtain ⟨x2,_,_,cu,mR⟩:=K5 X;have kv:=(K4 cu).1
    rw [<-mR]at kv;have qw:=MR a.1 k r9 a.2 _ _ a9 kz Z X
    obtain ⟨g5,c5,rfl⟩:=h5.form;refine Ze (BL (by_:=40) (sz:=5) B0 (V:Tryz.prog.info? 91=some Tryz.t91) V rfl V rfl Y (af) Y (JW h5) Wo Wo (by exact CK _) A0 A0) ?_;rintro _ _ ⟨y5,d9,rfl⟩;obtain ⟨sO,sj,rfl⟩:=d9.form;refine AN Y<|Zn [2,4,5,6,7,8,29,30,31] ?_;refine A8<|Zx<|GP Y Y Y<|DH (e:=[(8,_),(31,_)]) (h:=by exact ⟨k+1,o++a9.1,a9.2,_,_,_,rfl,⟨by omega,qw,BJ d9 (by rw [C7]) (by rw [BR]),pq,by rw [C7];omega⟩,rfl,rfl⟩)
   have ek:k=a.1.length:=by omega
   subst ek;rw [HJ]at Z;refine Az<|Zt<|Zt<|AU<|FF (e:=[(8,_)]) (h:=by exact ⟨o,l9,.slice go o.length co,so,v9,⟨by rw [B2 bn];exact Z,af,bf,by omega⟩,rfl,rfl⟩)
  refine AB<|FF (e:=[(8,_)]) (h:=by exact ⟨[],a.2,.slice none 0 0,[],_,⟨Ax bn,BX 5 _,hT,CD _⟩,V,V⟩)
 rintro _ _ ⟨o,l9,vo,so,v9,⟨o9,af,bf,wz⟩,rfl,rfl⟩;obtain ⟨go,co,rfl⟩:=af.form;obtain ⟨p8,c8,rfl,_,_⟩:=id bf.form;have pz:=Ca af A0
 refine B7 Y<|Zp Y V<|Zh 0 SO V rfl E0 Y<|Zl FG Y ?_;refine Zv (AJ Ds Y)<|Zv (Bg (n:=0) Y Y)<|Mf Y (Gr V) V (Jw (vs:=[_]) Y Sh Y V (NR _ E G J) Wp) ?_ ?hpan_10
 case hpan_10=>
  rintro _ _ ⟨_,⟨I,rfl,rfl⟩,rfl⟩;refine Zt ?_;have ax:=NX I
  have y:Bu q L=none:=by rw [Ny hq W gq,o9,I0,Ax (fun h9:l9=[]=>ax (by rw [h9];rfl))]
  refine K8 (m':= .returning) (ma:= .panicking [{v:= .iface 343 (.pointer (some E)),recovered:=true}]) V call52 (Pe K E G J) V call51 (Oj K bo) Wp Wp ?_;refine ⟨_,[[],M,[(0,.cells #[.iface 343 (.pointer (some E))] G J)]],fun a w z O U=>F8 dv ((Br a _ (by rw [z];exact O) 4).trans rfl) (Ai D0 BE AH (cs:=#[.slice none 0 0,I4 0,.bool false]) (AP rfl) w (Ez (b:=bo) Wh U)) ((Br a _ (by rw [z];exact O) 5).trans rfl) (GY Fc (v:= .bool false) (i:=0) rfl w (Ez (b:=K) Wh U)),⟨.slice none 0 0,[],by rw [y];rfl,by rw [y];exact BX 5 _,rfl⟩,(show UB ([M,[(0,.cells #[.iface 343 (.pointer (some E))] G J)]]++R) _ from Sub.amid (by repeat(first|exact Sub.refl _|exact Sub.nil _|(apply Sub.cons;(focus (repeat(first|exact One.here _ _|apply One.there))))|refine Sub.drop _ ?_)))⟩
 rintro _ _ ⟨_,⟨I,rfl,rfl⟩,rfl⟩;have tT:=I2 I
 have pg:l9=[]:=List.length_eq_zero_iff.1 A0;subst pg;have gm:Bu q L=some (Cc q a.1 o):=by rw [Ny hq W gq,o9];rfl
 refine A6<|A2<|Zo Wh (A7 (cs:=#[_,_,_,_,_,_,_]) DE CN Y BW B5) ?_;refine Sk 2 V<|Zc [_,_,_] Y call55 Y V (ZT lv pz q A0 (fun _ r hr=>NB (cO.2 r hr) q.bq)) ?_;rintro _ _ ⟨_,⟨x9,s3,rfl,h3,rfl⟩,rfl⟩;rw [Nl hq]at h3⊢;obtain ⟨p3,c3,rfl⟩:=h3.form;refine Xe (Xw BE #[.slice p3 (Cc q a.1 o).rows.length c3,I4 (Cc q a.1 o).val,.bool (Cc q a.1 o).fnd]) ?_;refine Xe (Zs DP Y Y V (hi:=by decide)) ?_;refine Z0<|Zn [4,5] ?_;refine Zx<|AC<|Yu V rfl call52 (j6 _) V call51 (nU K _) Wp ?_;rintro _ rfl;refine ⟨_,[s3,M,[(0,.cells #[.iface 343 (.pointer (some E))] G J)]],fun a0 w O U=>F8 dv ((Br a0 _ O 4).trans rfl) (Ai D0 BE (by exact B4 _) (cs:=#[.slice p3 (Cc q a.1 o).rows.length c3,I4 (Cc q a.1 o).val,.bool (Cc q a.1 o).fnd]) (AP rfl) w (Ez (b:=bo) Wh U)) ((Br a0 _ O 5).trans rfl) (GY Fc (v:= .bool true) (i:=0) rfl w (Ez (b:=K) Wh U)),⟨_,s3,by rw [gm];rfl,by rw [gm];exact h3,rfl⟩,Sub.amid (by repeat(first|exact Sub.refl _|exact Sub.nil _|(apply Sub.cons;(focus (repeat(first|exact One.here _ _|apply One.there))))|refine Sub.drop _ ?_))⟩
end Go.Proofs.YtljkoipiekbijaaGreatDoor
