/- The reference 7: Patch. -/
import Derived.Test.YtljkoipiekbijaaGreatDoorPr5
set_option linter.unusedVariables false
set_option linter.unusedSimpArgs false
namespace Go.Proofs.YtljkoipiekbijaaGreatDoor
open Go.Proofs.Tryz
open Go Go.RowKit Gw
set_option maxRecDepth 100000
attribute [local irreducible] Gw.At Gw.Nx Gw.Ops
theorem yH:ltS 1=fun a b=>decide (a<b):=by funext a b;unfold ltS;rw [Ax AH]
theorem yI:ltS (-1)=fun a b=>decide (b<a):=by funext a b;unfold ltS;rw [B2 AH]
theorem gX{q:QM}{c:Chg}{r:CB}(h:DZ q c=true)(h2:(CF q c r).2=false):Ch q c r=(CB.none,false):=by unfold Ch;rw [h,B2 rfl,h2];rfl
theorem Oh{q:QM}{c:Chg}{r x:CB}(h:DZ q c=true)(h2:CF q c r=(x,true)):Ch q c r=(x,true):=by unfold Ch;rw [h,B2 rfl,h2];rfl
theorem gY{q:QM}{c:Chg}{r:CB}{e:CB×Bool}(h:DZ q c=true)(h2:CF q c r=e):Ch q c r=(aI e,e.2):=by
 unfold Ch aI;rw [h,B2 rfl,h2];cases h9:e.2<;>rfl
theorem r8{q:QM}{c:Chg}{r:CB}(h:q.kd=1\/q.kd=2):CF q c r=(⟨Cv q c r.rows,r.val,r.fnd⟩,true):=by unfold CF;rw [B2 h]
theorem zn{q:QM}{c:Chg}{r:CB}(h:q.kd=3):CF q c r=(⟨r.rows,if(afQ q c).isSome then r.val+1 else r.val -1,r.fnd⟩,true):=by unfold CF;rw [Ax A0,B2 h]
theorem r7{q:QM}{c:Chg}{r:CB}(h:q.kd=4):CF q c r=(⟨r.rows,r.val+(mQ q (afQ q c) -mQ q (bfQ q c)),r.fnd⟩,true):=by unfold CF;rw [Ax A0,Ax A0,B2 h]
theorem r6{q:QM}{c:Chg}{r:CB}(h:q.kd=5):CF q c r=FH (ltS 1) (bfQ q c).isSome (afQ q c).isSome (mQ q (bfQ q c)) (mQ q (afQ q c)) r:=by unfold CF;rw [Ax A0,Ax A0,Ax A0,B2 h,yH]
theorem r5{q:QM}{c:Chg}{r:CB}(h:q.kd=6):CF q c r=FH (ltS (-1)) (bfQ q c).isSome (afQ q c).isSome (mQ q (bfQ q c)) (mQ q (afQ q c)) r:=by unfold CF;rw [Ax A0,Ax A0,Ax A0,Ax A0,B2 h,yI]
theorem zi{q:QM}{c:Chg}{r:CB}(h:q.kd=7):CF q c r=D9 q c r:=by unfold CF;rw [Ax A0,Ax A0,Ax A0,Ax A0,Ax A0]
theorem gP{q:QM}{c:Chg}(h:q.kd=3)(m:DZ q c=true):(bfQ q c).isSome=!(afQ q c).isSome:=by
 unfold DZ at m;rw [HB]at m;have g:=m.2
 unfold Dc at g;rw [Ax A0,B2 h]at g;unfold TK at g;cases h2:(bfQ q c).isSome<;>cases h3:(afQ q c).isSome<;>simp_all
theorem Jk(M:List AR):CZ M (.slice none 0 0) []:=⟨none,0,rfl,⟨CD _,B4 _⟩,fun i r h=>by simp at h⟩
theorem aH(q:QM)(c:Chg)(lt:Int->Int->Bool)(r:CB){M:List AR}{p g:C1}{n' cap c':Nat}(hr:CZ M (.slice p r.rows.length cap) r.rows)(m:(FH lt (bfQ q c).isSome (afQ q c).isSome (mQ q (bfQ q c)) (mQ q (afQ q c)) r).2=true->g=p/\n'=r.rows.length/\c'=cap)(h2:(FH lt (bfQ q c).isSome (afQ q c).isSome (mQ q (bfQ q c)) (mQ q (afQ q c)) r).2=false->g=none/\n'=0/\c'=0):
 CZ M (.slice g n' c') (aI (FH lt (bfQ q c).isSome (afQ q c).isSome (mQ q (bfQ q c)) (mQ q (afQ q c)) r)).rows:=by
 unfold aI;cases h:(FH lt (bfQ q c).isSome (afQ q c).isSome (mQ q (bfQ q c)) (mQ q (afQ q c)) r).2 with
 |true=>
  obtain ⟨rfl,rfl,rfl⟩:=m h;rw [B2 rfl,LK];exact hr
 |false=>
  obtain ⟨rfl,rfl,rfl⟩:=h2 h;exact Jk M
theorem YK{M:List AR}(v:A3)(c:Chg)(g:c.had=false):BB prog 194 #[v,.agg c.Ax2] [M] (.tuple #[.slice none 0 0,.bool false]):=by
 refine Se func194 ntmps194 [0,1] ?_;intro u R;refine A2<|Ze (Bx #[_,_,_,_,_,_,_,_,_,_])<|AE fun m=>Za Y<|CT Y<|A2<|Zh 2 CM V rfl DP Y<|Zl Fc Y ?_;refine Zv (CR Y)<|A6<|Af Y (fun h0=>?_) (fun h0=>?_);·
  refine A2<|Za Y<|AM Y<|Zt<|Cn V results194 Y Y (by exact ⟨V,V⟩)
 rw [g]at h0;cases h0
theorem jw{M:List AR}{v:A3}{rows:List AV}(hv:CZ M v rows)(z:rows.length<=1000000)(c:Chg):CJ prog 194 #[v,.agg c.Ax2] [M] (fun w H'=>∃(p:C1) (n cap:Nat) (s:List AR),w= .tuple #[.slice p n cap,.bool c.had]/\(c.had=true->CZ s (.slice p n cap) (BU (otP c (Bl rows))))/\H'=[s,M]):=by
 rcases Bool.eq_false_or_eq_true c.had with hh|hh
 · refine (oM hv z c hh).mono ?_
   rintro r H' ⟨rv,s,rfl,h,rfl⟩;have y:(BU (otP c (Bl rows))).length<=maxLen:=by
    have E:=mL;have G:=iK c (Bl rows)
    have h2:=Gj rows;rw [Dh];omega
   have m:=Ca h y;obtain ⟨p,cap,rfl,_⟩:=id m;exact ⟨p,_,cap,s,by rw [hh],fun _=>m,rfl⟩
 · refine E8 (YK (M:=M) v c hh) C4 ?_
   rintro r H' ⟨rfl,rfl⟩;exact ⟨_,⟨none,0,0,[],by rw [hh],fun g=>(by rw [hh]at g;cases g),rfl⟩,by simp⟩
theorem oN{M:List AR}{v:A3}{rows:List AV}(hv:CZ M v rows)(y:rows.length<=1000000)(q:QM)(E:BH q)(c:Chg):CJ prog 195 #[.agg q.Ax4,v,.agg c.Ax2] [M] (fun w H'=>∃(p:C1) (n cap:Nat) (s:List AR),w= .tuple #[.slice p n cap,.bool (lfP q c (Bl rows)).2]/\CZ s (.slice p n cap) (BU (lfP q c (Bl rows)).1)/\H'=[s,M]):=by
 refine (uZ hv y q E c).mono ?_;rintro r H' ⟨rv,s,rfl,h,rfl⟩;have m:(BU (lfP q c (Bl rows)).1).length<=maxLen:=by
  have z:=mL;have G:(lfP q c (Bl rows)).1.length<=(Bl rows).length+1:=by
   have I:=On (fun x=>!Gx c.k x) (Bl rows);unfold lfP;split
   · split
     · simp only [QW];omega
     · simp only;omega
   · simp only;omega
  have h2:=Gj rows;rw [Dh];omega
 have g:=Ca h m;obtain ⟨p,cap,rfl,_⟩:=id g;exact ⟨p,_,cap,s,V,g,V⟩
set_option maxHeartbeats 2000000 in
theorem YJ(q:QM)(G:BH q)(c:Chg){r:CB}{rv:A3}{A:List AR}(hr:CZ A rv r.rows)(hn:r.rows.length<=1000000)(hv:-4000000000000000000<=r.val/\r.val<=4000000000000000000):CJ prog 153 #[.agg q.Ax4,.agg #[rv,I4 r.val,.bool r.fnd],.agg c.Ax2] [A] (fun w H'=>∃d9 s',w= .tuple #[.agg #[d9,I4 (Ch q c r).1.val,.bool (Ch q c r).1.fnd],.bool (Ch q c r).2]/\CZ (s'++A) d9 (Ch q c r).1.rows/\H'=[s',A]):=by
 have gy:=mL;obtain ⟨W,U,rfl,⟨kz,kv⟩,_⟩:=id hr;refine Se func153 ntmps153 [0,1,2] ?_;intro u R;refine A2<|Ze (Bx q.Ax4)<|AE fun bq=>Ze (Bx #[.slice W r.rows.length U,I4 r.val,.bool r.fnd])<|AE fun br=>Ze (Bx c.Ax2)<|AE fun bc=>Ze (Ff GO (cs:=#[.slice none 0 0,I4 0,.bool false]) AG)<|AE fun bo=>AF Y<|A2<|Zo Wh (A7 (cs:=#[_,_,_,_,_,_,_]) DE CN Y (by exact B4 _) (by exact AP V)) ?_;refine Zo Wh (A7 (cs:=#[_,_,_,_,_,_,_,_,_,_]) G1 D2 Y (by exact B4 _) (by exact AP V)) ?_;refine Xr [_,_] Y call152 Y V (Sc q c) ?_;rw [show(decide (BH q)&&(decide c.ok&&Dc q c))=DZ q c by rw [Cp G];rfl];refine AF Y<|C0 Y<|Zv (CR Y)<|A6<|Af Y (fun ht=>?_) (fun ht=>?_);·
  have g:DZ q c=false:=by simpa using ht
  refine Zq<|Bi<|Zg<|Zo Wh (A7 (cs:=#[_,_,_]) D0 BE Y (by exact B4 _) (by exact AP V)) ?_;refine Xe (Ao BE Y Y Ft Wu (by exact Bj rfl) DO AH (by exact Aw _)) ?_;refine AN Y<|Zn [6,7] ?_;refine Zx<|AC<|Zt<|Bo V al Y Wh (Ai D0 BE Wn (AP V)) Y (by
   have m:Ch q c r=(r,true):=by unfold Ch;rw [g];rfl
   exact ⟨.slice W r.rows.length U,[],by rw [m],by rw [m];exact hr,rfl⟩)
 have g:DZ q c=true:=by simpa using ht
 have E:c.ok:=by unfold DZ at g;rw [HB]at g;exact I2 g.1
 refine AB<|BT<|Zo Wh (A7 (cs:=c.Ax2) G1 D2 Y (by exact B4 _) (by exact AP V)) ?_;refine Xr [_] Y call183 Y V (Ku c) ?_;refine Sk 3 V<|Ze (Al DS #[_,_,_,_,_])<|AE fun bx=>Xe (Xw AW c.before.Ax3) ?_;refine AN Y<|Zn [3,4,5,6,9,10] ?_;refine BT<|Zo Wh (A7 (cs:=c.Ax2) G1 D2 Y (by exact B4 _) (by exact AP V)) ?_;refine Xr [_] Y call77 Y V (IK c) ?_;refine Sk 3 V<|Ze (Al DS #[_,_,_,_,_])<|AE fun gq=>Xe (Xw AW c.after.Ax3) ?_;refine AF Y<|A2<|Zo Wh (A7 (cs:=#[_,_,_,_,_,_,_]) DE CN Y (by exact B4 _) (by exact AP V)) ?_;refine Zo Wh (A7 (cs:=#[_,_,_,_,_]) C5 AW Y (by exact B4 _) (by exact AP V)) ?_;refine Zm Y<|Xr [_,_,_] Y aq Y V (Oz q G c.before c.had) ?_;rw [iY];refine AN Y<|Zn [3,4,5,6,9,11,12,13] ?_;refine BT<|Zo Wh (A7 (cs:=#[_,_,_,_,_,_,_]) DE CN Y (by exact B4 _) (by exact AP V)) ?_;refine Zo Wh (A7 (cs:=#[_,_,_,_,_]) C5 AW Y (by exact B4 _) (by exact AP V)) ?_;refine Zm Y<|Xr [_,_,_] Y aq Y V (Oz q G c.after c.has) ?_;rw [ZL];refine CT Y<|A2<|Zh 0 CH V rfl A4 Y<|Zl A5 Y ?_;refine A6<|AQ<|Zq<|A2<|Zv (Bd Y Y)<|AF Y<|Ad Y (fun k1=>?_) (fun k1=>?_);focus
  refine B3<|Ad Y (fun gm=>?_) (fun gm=>?_);rotate_left;exfalso;omega
 rotate_left
 focus
  refine Zg<|Zv (Bd Y Y)<|AF Y<|Ad Y (fun k2=>?_) (fun k2=>?_);rotate_left;focus
   refine A2<|Zv (Bd Y Y)<|AN Y<|Zn [3,4,5,6,9,11,13,14,41,52] ?_;refine Zx<|Ad Y (fun k3=>?_) (fun k3=>?_);·
    refine C0 Y<|A6<|Af Y (fun k8=>?_) (fun k8=>?_);focus
     refine Zg<|Zh 1 Cd V rfl A4 Y<|Zl A5 Y ?_
     (refine BN (Fw Y Y (IntWalk.i64_in _ ?_)) ?_;(focus (first|omega|(have z:=Z5 q E;obtain ⟨⟨J,K⟩,M,O⟩:=z;omega))))
     refine Zh 1 Cd V rfl A4 Y<|Xe (Zs A4 Y Y V (hi:=by(simp;done))) ?_;refine A6<|C0 Y<|A6<|Af Y (fun k9=>?_) (fun k9=>?_);·
      refine Zg<|Zh 1 Cd V rfl A4 Y<|Zl A5 Y ?_
      (refine BN (GI Y Y (IntWalk.i64_in _ ?_)) ?_;(focus (first|omega|(have z:=Z5 q E;obtain ⟨⟨J,K⟩,M,O⟩:=z;omega))))
      refine Zh 1 Cd V rfl A4 Y<|Xe (Zs A4 Y Y V (hi:=by(simp;done))) ?_;refine A6<|Zq<|Bi<|Zg<|Zo Wh (A7 (cs:=#[_,_,_]) D0 BE Y (by exact B4 _) (by exact AP V)) ?_;refine Xe (Ao BE Y Y Ft Wu (by exact Bj rfl) DO AH (by exact Aw _)) ?_;refine AN Y<|Zn [6,7] ?_;refine Zx<|AC<|AX<|Zt<|Bo V al Y Wh (Ai D0 BE Wn (AP V)) Y (by
       have hz:=gP k3 g;have m:=Oh g (zn (r:=r) k3)
       exact ⟨.slice W r.rows.length U,[],by rw [m];simp_all,by rw [m];exact hr,rfl⟩)
     focus
      refine AB ?_
    rotate_left
    focus
     refine B3<|C0 Y<|A6<|Af Y (fun k9=>?_) (fun k9=>?_);focus
      refine Zg<|Zh 1 Cd V rfl A4 Y<|Zl A5 Y ?_
      (refine BN (GI Y Y (IntWalk.i64_in _ ?_)) ?_;(focus (first|omega|(have z:=Z5 q E;obtain ⟨⟨J,K⟩,M,O⟩:=z;omega))))
      refine Zh 1 Cd V rfl A4 Y<|Xe (Zs A4 Y Y V (hi:=by(simp;done))) ?_;refine Z0 ?_
     rotate_left
     focus
      refine AB ?_
    all_goals
     refine Zx<|Zq<|Bi<|Zg<|Zo Wh (A7 (cs:=#[_,_,_]) D0 BE Y (by exact B4 _) (by exact AP V)) ?_;refine Xe (Ao BE Y Y Ft Wu (by exact Bj rfl) DO AH (by exact Aw _)) ?_;refine AM Y<|AX<|Zt<|Bo V al Y Wh (Ai D0 BE Wn (AP V)) Y (by
      have hz:=gP k3 g;have m:=Oh g (zn (r:=r) k3)
      exact ⟨.slice W r.rows.length U,[],by rw [m];simp_all,by rw [m];exact hr,rfl⟩)
   refine A2<|Zv (Bd Y Y)<|AF Y<|Ad Y (fun k4=>?_) (fun k4=>?_);·
    refine Zq<|Au (n:=14) (0::1::0::0::0::28::63::0::0::0::956::2047::4095::8191::[]) 9248 AG AG V<|A1 0 V (AL (off:=1) Cd V rfl A4 Y)<|B6 1 V A5 Y ?_;refine Fo 2 V Wh (A7 (cs:=#[_,_,_,_,_,_,_]) DE CN Y (by exact B4 _) (by exact AP V)) ?_;refine Fo 3 V Wh (A7 (cs:=#[_,_,_,_,_]) C5 AW Y (by exact B4 _) (by exact AP V)) ?_;refine A1 4 V (AA Y)<|Fo 7 V Wh (A7 (cs:=#[_,_,_,_,_,_,_]) DE CN Y (by exact B4 _) (by exact AP V)) ?_;refine Fo 8 V Wh (A7 (cs:=#[_,_,_,_,_]) C5 AW Y (by exact B4 _) (by exact AP V)) ?_;refine A1 9 V (AA Y)<|Zz (l:=[5])<|C6 [true,true,false,false,true] [(8,(_,_)),(7,(_,_)),(1,(_,_))] V rfl (Zu [_,_,_] Y cR Y V (GQ q G c.after _)) ?_ (fun _ _ h=>h.elim) Ar;rintro _ _ ⟨rfl,rfl⟩;refine ⟨Zk (Zk (Zk (Ab))),?_⟩;rw [iQ]
    (refine Dr (D':=1023) 6 (Fw Y Y (IntWalk.i64_in _ ?_)) ?_;(focus (first|omega|(have z:=Z5 q E;obtain ⟨⟨J,K⟩,M,O⟩:=z;omega))))
    refine Yz 10 956 2047 [8,7,1] [false,false,true] [(1,(_,_))] V Y V rfl V rfl (Zu [_,_,_] Y cR Y V (GQ q G c.before _)) ?_;rintro _ _ ⟨rfl,rfl⟩;refine ⟨Zk (Ab),?_⟩;rw [iP]
    (refine Dr (D':=4095) 11 (GI Y Y (IntWalk.i64_in _ ?_)) ?_;(focus (first|omega|(have z:=Z5 q E;obtain ⟨⟨J,K⟩,M,O⟩:=z;omega))))
    refine A1 12 V (AL (off:=1) Cd V rfl A4 Y)<|Zz (l:=[13])<|C6 [false] [] V rfl (Zs A4 Y Y V (hi:=by(simp;done))) ?_ (fun _ _ h=>h.elim) Ar;rintro _ _ ⟨rfl,rfl⟩;refine CA<|Am<|Zn [4,6] ?_;refine Zx<|Zq<|Bi<|Zg<|Zo Wh (A7 (cs:=#[_,_,_]) D0 BE Y (by exact B4 _) (by exact AP V)) ?_;refine Xe (Ao BE Y Y Ft Wu (by exact Bj rfl) DO AH (by exact Aw _)) ?_;refine AM Y<|AX<|Zt<|Bo V al Y Wh (Ai D0 BE Wn (AP V)) Y (by
     have m:=Oh g (r7 (r:=r) k4);have cO:r.val+mQ q (afQ q c) -mQ q (bfQ q c)=r.val+(mQ q (afQ q c) -mQ q (bfQ q c)):=by omega
     exact ⟨.slice W r.rows.length U,[],by rw [m,cO],by rw [m];exact hr,rfl⟩)
   refine A2<|Zv (Bd Y Y)<|AF Y<|Ad Y (fun k5=>?_) (fun k5=>?_);·
    refine Zq<|Bi<|Zg<|Zo Wh (A7 (cs:=#[_,_,_,_,_,_,_]) DE CN Y (by exact B4 _) (by exact AP V)) ?_;refine Zo Wh (A7 (cs:=#[_,_,_]) D0 BE Y (by exact B4 _) (by exact AP V)) ?_;refine Zo Wh (A7 (cs:=#[_,_,_,_,_,_,_,_,_,_]) G1 D2 Y (by exact B4 _) (by exact AP V)) ?_;refine Zc [_,_,_,_] Y call193 Y V (Sd q G c r W r.rows.length U 1) ?_;rintro _ _ ⟨_,⟨p',n',c',rfl,Z,af,rfl⟩,rfl⟩;refine Sk 2 rfl<|Xe (Ao BE Y Y Ft Wu (by exact Bj rfl) DO AH (by exact Aw _)) ?_;refine AM Y<|AX<|Zt<|Bo V al Y Wh (Ai D0 BE Wn (AP V)) Y (by
     have m:=gY g (r6 (r:=r) k5);exact ⟨.slice p' n' c',[],by rw [m],by rw [m];exact aH q c _ r hr Z af,rfl⟩)
   refine A2<|Zv (Bd Y Y)<|AF Y<|Ad Y (fun k6=>?_) (fun k6=>?_);·
    refine Zq<|Bi<|Zg<|Zo Wh (A7 (cs:=#[_,_,_,_,_,_,_]) DE CN Y (by exact B4 _) (by exact AP V)) ?_;refine Zo Wh (A7 (cs:=#[_,_,_]) D0 BE Y (by exact B4 _) (by exact AP V)) ?_;refine Zo Wh (A7 (cs:=#[_,_,_,_,_,_,_,_,_,_]) G1 D2 Y (by exact B4 _) (by exact AP V)) ?_;refine Zc [_,_,_,_] Y call193 Y V (Sd q G c r W r.rows.length U (-1)) ?_;rintro _ _ ⟨_,⟨p',n',c',rfl,Z,af,rfl⟩,rfl⟩;refine Sk 2 rfl<|Xe (Ao BE Y Y Ft Wu (by exact Bj rfl) DO AH (by exact Aw _)) ?_;refine AN Y<|Zn [6,7] ?_;refine Zx<|AC<|AX<|Zt<|Bo V al Y Wh (Ai D0 BE Wn (AP V)) Y (by
     have m:=gY g (r5 (r:=r) k6);exact ⟨.slice p' n' c',[],by rw [m],by rw [m];exact aH q c _ r hr Z af,rfl⟩)
   refine AB<|A8<|Zx<|Zq<|A2<|Zh 1 CH V rfl A4 Y<|Zl A5 Y ?_;refine Zh 6 CH V rfl A4 Y<|Zl A5 Y ?_;refine Zv (Bd Y Y)<|A6<|Ad Y (fun ax=>?_) (fun ax=>?_);focus
    have k7:q.kd=7:=by have:=G.2.2.2;omega
    have m:=gX (r:=r) g (by rw [zi k7];unfold D9;rw [B2 ax]);refine Zq<|Bi<|Zg<|Zv (BK (vs:=[]) (cs:=#[_,_,_]) Y (AY (pl:=#[(0,1),(1,1),(2,1)]) GO Cd (fun _=>by kernel_rfl) rfl))<|Xe (Ao BE Y Y Ft Wu (by exact Bj rfl) DO AH (by exact Aw _)) ?_;refine AN Y<|Zn [6,7] ?_
   rotate_left
   focus
    have k7:q.kd=7:=by have:=G.2.2.2;omega
    refine AB<|BT<|AF Y<|Zb [3,5,4,6] ?_;refine C9 (e0:=[(3,_),(5,_)]) (H0:=[[(br,.cells #[.slice W r.rows.length U,I4 r.val,.bool r.fnd] 51 (0,0))]]) (fun e H=>∃(p3:C1) (n3 c3:Nat) (X:Bool) (s3:List AR),(X=(jnT q c (Bl r.rows)).2/\(X=true->CZ s3 (.slice p3 n3 c3) (BU (jnT q c (Bl r.rows)).1)))/\e=[(15,.bool X)]/\H=[[(br,.cells #[.slice p3 n3 c3,I4 r.val,.bool r.fnd] 51 (0,0))],s3]) Wp ?hx_15 ?hy_15
    case' hx_15=>
     refine A2<|Zh 0 CM V rfl A4 Y<|Zl A5 Y ?_;refine Zh 6 CH V rfl A4 Y<|Zl A5 Y ?_;refine Zv (Bd Y Y)<|A6<|Ad Y (fun bf=>?_) (fun bf=>?_);·
      have ej:=p6 bf (Bl r.rows);refine Zg<|Zh 0 Cd V rfl Cl Y<|Zl DQ Y ?_;refine Zo Wh (A7 (cs:=#[_,_,_,_,_,_,_,_,_,_]) G1 D2 Y (by exact B4 _) (by exact AP V)) ?_;refine Zc [_,_] Y call194 Y V (jw hr A0 c) ?_;rintro _ _ ⟨_,⟨p2,n2,c2,s2,rfl,h2,rfl⟩,rfl⟩;refine Sk 3 V<|Zh 0 Cd V rfl Cl Y<|Xe (Zs Cl Y Y V (hi:=by(simp;done))) ?_;refine AN Y<|FF (e:=[(15,_)]) (h:=by exact ⟨p2,n2,c2,c.had,s2,⟨by rw [ej],fun h=>by rw [ej];exact h2 h⟩,rfl,rfl⟩)
     have ej:=pA bf (Bl r.rows);refine Zg<|Zo Wh (A7 (cs:=#[_,_,_,_,_,_,_]) DE CN Y (by exact B4 _) (by exact AP V)) ?_;refine Zh 0 Cd V rfl Cl Y<|Zl DQ Y ?_;refine Zo Wh (A7 (cs:=#[_,_,_,_,_,_,_,_,_,_]) G1 D2 Y (by exact B4 _) (by exact AP V)) ?_;refine Zc [_,_,_] Y call195 Y V (oN hr A0 q G c) ?_;rintro _ _ ⟨_,⟨p2,n2,c2,s2,rfl,h2,rfl⟩,rfl⟩;refine Sk 3 V<|Zh 0 Cd V rfl Cl Y<|Xe (Zs Cl Y Y V (hi:=by(simp;done))) ?_;refine AN Y<|FF (e:=[(15,_)]) (h:=by exact ⟨p2,n2,c2,_,s2,⟨by rw [ej],fun _=>by rw [ej];exact h2⟩,rfl,rfl⟩)
    case' hy_15=>
     rintro _ _ ⟨p3,n3,c3,X,s3,⟨ek,hJ⟩,rfl,rfl⟩;have cu:CF q c r=(⟨BU (jnT q c (Bl r.rows)).1,r.val,r.fnd⟩,X):=by rw [zi k7];unfold D9;rw [Ax ax,<-ek]
     refine C0 Y<|Zv (CR Y)<|A6<|Af Y (fun bn=>?_) (fun bn=>?_);focus
      have I:X=false:=by simpa using bn
      have m:=gX (r:=r) g (by rw [cu];exact I);refine Zq<|Bi<|Zg<|Zv (BK (vs:=[]) (cs:=#[_,_,_]) Y (AY (pl:=#[(0,1),(1,1),(2,1)]) GO Cd (fun _=>by kernel_rfl) rfl))<|Xe (Ao BE Y Y Ft Wu (by exact Bj rfl) DO AH (by exact Aw _)) ?_;refine Za Y<|Z0 ?_
     rotate_left
     have I:X=true:=by simpa using bn
     have m:=Oh g (cu.trans (by rw [I]));refine AB<|BT<|Zo Wh (A7 (cs:=#[_,_,_]) D0 BE Y (by exact B4 _) (by exact AP V)) ?_;refine Xe (Ao BE Y Y Ft Wu (by exact Bj rfl) DO AH (by exact Aw _)) ?_;refine AM Y<|Bo rfl al Y Wh (Ai D0 BE Wn (AP rfl)) Y (by exact ⟨.slice p3 n3 c3,s3,by rw [m],by rw [m];exact (hJ I).mono fun y hy=>HE _ hy,rfl⟩)
   all_goals
    refine Zx<|AC<|Zt<|Bo rfl al Y Wh (Ai D0 BE Wn (AP rfl)) Y (by exact ⟨.slice none 0 0,[],by rw [m];rfl,by rw [m];exact Jk _,rfl⟩)
 all_goals
  refine A2<|Zo Wh (A7 (cs:=#[_,_,_,_,_,_,_]) DE CN Y (by exact B4 _) (by exact AP V)) ?_;refine Zh 0 Cd V rfl Cl Y<|Zl DQ Y ?_;refine Zo Wh (A7 (cs:=#[_,_,_,_,_,_,_,_,_,_]) G1 D2 Y (by exact B4 _) (by exact AP V)) ?_;refine Zc [_,_,_] Y call192 Y V (uY hr A0 q G c) ?_;rintro _ _ ⟨_,⟨s1,h1,rfl⟩,rfl⟩;obtain ⟨g1,c1,rfl⟩:=h1.form;refine Zh 0 Cd V rfl Cl Y<|Xe (Zs Cl Y Y V (hi:=by(simp;done))) ?_;refine Z0<|Zn [4,6] ?_;refine BT<|Zo Wh (A7 (cs:=#[_,_,_]) D0 BE Y (by exact B4 _) (by exact AP V)) ?_;refine Xe (Ao BE Y Y Ft Wu (by exact Bj rfl) DO AH (by exact Aw _)) ?_;refine AM Y<|AX<|Zt<|Bo V al Y Wh (Ai D0 BE Wn (AP V)) Y (by
   have m:=Oh g (r8 (r:=r) A0);exact ⟨.slice g1 _ c1,s1,by rw [m],by rw [m];exact (Ca h1 (by have:=Ng q c r.rows;omega)).mono fun y hy=>HE _ hy,rfl⟩)
set_option maxHeartbeats 1000000 in
theorem YL(q:QM)(hq:BH q)(p:Int)(qa:C1)(cap:Nat)(cs:List Chg){MC:List AR}(hC:DJ MC (.slice qa cs.length cap) cs)(l9:cs.length<=1000){r:CB}{rv:A3}{A:List AR}(hr:CZ A rv r.rows)(hn:r.rows.length<=900000)(hv:-2000000000000000000<=r.val/\r.val<=2000000000000000000):CJ prog 100 #[.agg q.Ax4,.agg #[rv,I4 r.val,.bool r.fnd],.agg #[I4 p,.slice qa cs.length cap]] [A,MC] (fun w H'=>∃bf E,w= .tuple #[.agg #[bf,I4 (CL q r cs).1.val,.bool (CL q r cs).1.fnd],.bool (CL q r cs).2.1,.bool (CL q r cs).2.2]/\CZ E bf (CL q r cs).1.rows/\(∀z∈A,z∈E)/\H'=[E,MC]):=by
 have mR:=mL;obtain ⟨pv,cv,rfl,_⟩:=id hr;obtain ⟨pc,gy,gm,lv,bn⟩:=id hC;injection gm with hv1 hv2 hv3
 subst hv1 hv3;refine Se func100 ntmps100 [0,1,2] ?_;intro u R;refine A2<|Ze (Bx q.Ax4)<|AE fun bq=>Ze (Bx #[.slice pv r.rows.length cv,I4 r.val,.bool r.fnd])<|AE fun br=>Ze (Bx #[I4 p,.slice qa cs.length cap])<|AE fun bc=>Ze (Ff GO (cs:=#[.slice none 0 0,I4 0,.bool false]) AG)<|AE fun bo=>Za Y<|AF Y<|A2<|CT Y<|A2<|AF Y<|AQ<|Zb [9,10,3,4,5,6] ?_;refine Av (e0:=[(9,_),(10,_)]) (fun m e H=>∃(k:Nat) (g:CB) (pk:C1) (ck:Nat) (E:List AR),m=cs.length -k/\(k<=cs.length/\J6 q r (cs.take k)=some g/\CZ E (.slice pk g.rows.length ck) g.rows/\(∀z∈A,z∈E))/\e=[(9,.bool ((cs.take k).any (DZ q))),(10,I4 (k:Int))]/\H=[[(br,.cells #[.slice pk g.rows.length ck,I4 g.val,.bool g.fnd] 51 (0,0))],E]) (by exact ⟨0,r,pv,cv,A,rfl,⟨CD _,by rw [Hh];rfl,hr,fun z hz=>hz⟩,rfl,rfl⟩) Wp ?_;rintro _ _ _ ⟨k,g,pk,ck,E,rfl,⟨hk,G,hU,U⟩,rfl,rfl⟩;obtain ⟨d9,cO⟩:=RU (cs.take k) r g 2000000000000000000 900000 G hv A0 hn;have cu:(cs.take k).length=k:=by rw [CI];omega
 rw [cu]at d9 cO;refine C0 Y<|Zh 1 G3 V rfl ID Y<|Zl J0 Y ?_;refine Zv (AJ GF Y)<|Zv (Ak Y Y)<|A6<|Ad Y (fun af=>?_) (fun af=>?_);·
  obtain ⟨y,hy⟩:∃y,cs[k]?=some y:=⟨_,Bk af⟩;obtain ⟨g2,l8,kv,T2,o8,rfl,ax,kz,M⟩:=bn k y hy;refine B3<|Zq<|AQ<|Zq<|Au (n:=8) (0::0::2::0::14::30::63::127::[]) 64 AG AG V<|Fo 0 V Wh (A7 (cs:=#[_,_,_,_,_,_,_]) DE CN Y (by exact B4 _) (by exact AP V)) ?_;refine A1 1 V (AL (off:=1) G3 V rfl ID Y)<|B6 2 V J0 Y ?_;refine A1 3 V (AA Y)<|A1 4 V (A9 GF D2 Y Y A0)<|CX (D':=63) 5 V rfl V (GK Wo (ax)) (A7 (cs:=y.Ax2) G1 D2 Y A0 (by exact M)) ?_;refine Yw 6 127 V (Zu [_,_] Y call152 Y V (Sc q y)) ?_;rintro _ _ ⟨rfl,rfl⟩;rw [show(decide (BH q)&&(decide y.ok&&Dc q y))=DZ q y by rw [Cp hq];rfl];refine A1 7 V (Aq Y)<|Am<|Zn [3,4,5,6,9,10,11] ?_;refine Zx<|Zb [9,11,3,4,5,6,10] ?_;refine C9 (e0:=[(9,_),(11,_)]) (H0:=[]) (fun e H=>(True)/\e=[(9,.bool ((cs.take (k+1)).any (DZ q)))]/\H=[]) Wp ?hx_3 ?hy_3
  case hx_3=>
   refine Zg<|Sk 2 V ?_;refine Ae (t:=29) Y V (fun O=>?_) (fun O=>?_);focus
    have e9:(cs.take (k+1)).any (DZ q)=true:=by rw [NS _ hy,O];rfl
    refine Sk 2 V ?_
   rotate_left
   focus
    have e9:(cs.take (k+1)).any (DZ q)=DZ q y:=by rw [NS _ hy,O];rfl
    refine Sk 2 V ?_
   all_goals
    refine AN Y<|FF (e:=[(9,_)]) (h:=by exact ⟨trivial,by rw [e9],rfl⟩)
  rintro _ _ ⟨_,rfl,rfl⟩;refine Zb [3,4,5,6,9,10] ?_;refine C9 (e0:=[]) (H0:=[E]) (fun e H=>∃(bs:Nat) (J:C1) (I:Nat) (K:List AR),(CZ (K++E) (.slice J (Ch q y g).1.rows.length I) (Ch q y g).1.rows)/\e=[(12,I5 bs),(13,.bool (Ch q y g).2)]/\H=[[(bs,.cells #[.slice J (Ch q y g).1.rows.length I,I4 (Ch q y g).1.val,.bool (Ch q y g).1.fnd] 51 (0,0))],K,E]) Wp ?hx_6 ?hy_6
  case hx_6=>
   refine Au (n:=14) (0::0::0::4::0::28::60::127::255::511::511::0::3071::8191::[]) 6272 AG AG V<|Fo 0 V Wh (A7 (cs:=#[_,_,_,_,_,_,_]) DE CN Y (by exact B4 _) (by exact AP V)) ?_;refine Fo 1 V Wh (A7 (cs:=#[_,_,_]) D0 BE Y (by exact B4 _) (by exact AP V)) ?_;refine A1 2 V (AL (off:=1) G3 V rfl ID Y)<|B6 3 V J0 Y ?_;refine A1 4 V (AA Y)<|A1 5 V (A9 GF D2 Y Y A0)<|CX (D':=127) 6 V rfl V (GK Wo (ax)) (A7 (cs:=y.Ax2) G1 D2 Y A0 (by exact M)) ?_;refine Zz (l:=[7,11])<|C6 [false,false,false,false] [] V rfl (Zw [_,_,_] Y call153 Y V (YJ q hq y hU A0 A0)) ?hk_7 DC ?hl_7
   case' hk_7=>
    rintro _ _ ⟨_,⟨gq,K,rfl,Z,rfl⟩,rfl⟩;refine ⟨Ab,?_⟩;obtain ⟨J,I,rfl,_⟩:=id Z;refine A1 8 V (AA Y)<|A1 9 V (Bn Y V)<|A1 10 V (Bn Y V)<|Zz (l:=[11])<|C6 [] [] V rfl (Al GO #[_,_,_]) ?hk_8 (fun _ _ h=>h.elim) ?hl_8
    case' hk_8=>
     rintro _ _ ⟨bs,rfl,rfl⟩;refine CA<|Yz 12 3071 8191 [] [] [] V Y V rfl V rfl (Xw BE #[.slice J (Ch q y g).1.rows.length I,I4 (Ch q y g).1.val,.bool (Ch q y g).1.fnd]) ?_
    case' hl_8=>
     exact Ar
   case' hl_7=>
    refine C6 [true,true,true,true] [(6,(_,_)),(3,(_,_)),(1,(_,_)),(0,(_,_))] V rfl (Al GO #[_,_,_]) ?hk_11 (fun _ _ h=>h.elim) ?hl_11
    case' hk_11=>
     rintro _ _ ⟨bs,rfl,rfl⟩;refine ⟨Ii (by simp [*]) (Zk (Zk (Zk (Ab)))),?_⟩;refine Zz (l:=[7])<|C6 [false,false,false,false] [] V rfl (Zw [_,_,_] Y call153 Y V (YJ q hq y hU A0 A0)) ?hk_12 DC ?hl_12
     case' hk_12=>
      rintro _ _ ⟨_,⟨gq,K,rfl,Z,rfl⟩,rfl⟩;refine ⟨Ab,?_⟩;obtain ⟨J,I,rfl,_⟩:=id Z;refine A1 8 V (AA Y)<|A1 9 V (Bn Y V)<|A1 10 V (Bn Y V)<|Zz (l:=[12])<|C6 [] [] V rfl (Xw BE #[.slice J (Ch q y g).1.rows.length I,I4 (Ch q y g).1.val,.bool (Ch q y g).1.fnd]) ?hk_13 (fun _ _ h=>h.elim) ?hl_13
      case' hl_13=>
       exact Ar
     case' hl_12=>
      exact Ar
    case' hl_11=>
     exact Ar
   all_goals
    rintro _ _ ⟨rfl,rfl⟩;refine CA<|A1 13 V (Aq Y)<|Am<|HC (by exact ⟨bs,J,I,K,Z,V,V⟩)
  rintro _ _ ⟨bs,J,I,K,Z,rfl,rfl⟩;refine ES (s1:=K) (s2:=E) Wo Wo ?_;refine C0 Y<|Zv (CR Y)<|A6<|Af Y (fun X=>?_) (fun X=>?_);·
   have W:(Ch q y g).2=false:=by simpa using X
   have e8:CL q r cs=(CB.none,true,false):=by unfold CL;rw [Q4 (k:=k+1) (by rw [Ko G hy,W];rfl)]
   refine A2<|Zv (BK (vs:=[]) (cs:=#[_,_,_]) Y (AY (pl:=#[(0,1),(1,1),(2,1)]) GO Cd (fun _=>by kernel_rfl) rfl))<|Xe (Ao BE Y Y Ft Wu (by exact Bj rfl) DO AH (by exact Aw _)) ?_;refine Za Y<|AM Y<|Zt<|AX<|Zt<|Zt<|AX<|Zt<|IA rfl results100 Y Wh (Ai D0 BE Wn (AP rfl)) Y Y (by exact ⟨.slice none 0 0,K++E,by rw [e8];rfl,by rw [e8];exact Jk _,fun z hz=>G2 _ (U z hz),rfl⟩)
  have W:(Ch q y g).2=true:=by simpa using X
  refine B3<|Zg<|Zo Wh (A7 (cs:=#[_,_,_]) D0 BE Y (by exact B4 _) (by exact AP V)) ?_;refine Xe (Ao BE Y Y Ft Wu (by exact Bj rfl) DO (by exact B4 _) (by exact Aw _)) ?_;refine Z0<|A8<|Zx<|Zg<|Zm Y<|Ya (n:=1) Y Y<|AN Y<|DH (e:=[(9,_),(10,_)]) (h:=by exact ⟨k+1,(Ch q y g).1,J,I,K++E,rfl,⟨by omega,by rw [Ko G hy,B2 W],Z,fun z hz=>G2 _ (U z hz)⟩,rfl,rfl⟩)
 have ek:k=cs.length:=by omega
 subst ek;rw [HJ]at G⊢;have e8:CL q r cs=(g,cs.any (DZ q),true):=by unfold CL;rw [G]
 refine Az<|Zt<|Zt<|AU<|BT<|Zo Wh (A7 (cs:=#[_,_,_]) D0 BE Y (by exact B4 _) (by exact AP V)) ?_;refine Zm Y<|Xe (Ao BE Y Y Ft Wu (by exact Bj rfl) DO AH (by exact Aw _)) ?_;refine Za Y<|AM Y<|IA rfl results100 Y Wh (Ai D0 BE Wn (AP rfl)) Y Y (by exact ⟨.slice pk g.rows.length ck,E,by rw [e8],by rw [e8];exact hU,U,rfl⟩)
def UE(o:Option AV):AV:=match o with
 |some x=>x
 |none=>AV.zero
theorem rO{f:AV->Bool}{L:List AV}{k:Nat}{x:AV}(hx:L[k]?=some x)(z:f x=true)(g:∀(j:Nat) (y:AV),j<k->L[j]?=some y->f y=false):L.find? f=some x:=by
 rw [nx];have m:=(D3.1 hx).1
 exact ⟨z,k,m,(D3.1 hx).2,fun j E=>by
  have:=g j _ E (Bk A0);simpa using this⟩
theorem wD{f:AV->Bool}{L:List AV}{k:Nat}(hn:¬k<L.length)(g:∀(j:Nat) (y:AV),j<k->L[j]?=some y->f y=false):L.find? f=none:=by
 rw [eS];intro x hx;obtain ⟨j,m⟩:=JT hx;rw [g j x (by have:=(D3.1 m).1;omega) m];decide
section
variable{q:QM}{rows others:List AV}{R:CB}{i:Nat}{r:AV}(hR:R=Cc q (rows.take i) others)(hr:rows[i]?=some r)
include hR hr
theorem zX(h:q.kd=1\/q.kd=2):Cc q (rows.take (i+1)) others=⟨R.rows++[r],R.val,R.fnd⟩:=by
 subst hR;unfold Cc;rw [Ax A0,Ax A0,Ax A0,Ax A0,Ax A0,Ax A0,Ax A0,Ax A0,Ax A0,Ax A0,Bt hr]
theorem r3(h:q.kd=3):Cc q (rows.take (i+1)) others=⟨R.rows,R.val+1,R.fnd⟩:=by
 subst hR;unfold Cc;rw [B2 h,B2 h,Bt hr,C7];rfl
theorem X9:DI q (rows.take (i+1))=DI q (rows.take i)++[Bh r q.bq]:=by
 have _:=hR;unfold DI;rw [Bt hr,HD];rfl
theorem qu(h:q.kd=4):Cc q (rows.take (i+1)) others=⟨R.rows,R.val+Bh r q.bq,R.fnd⟩:=by
 have e:=X9 hR hr;subst hR;unfold Cc;rw [Ax A0,B2 h,Ax A0,B2 h,e];unfold MF;rw [RM];rfl
theorem zW(h:q.kd=5):Cc q (rows.take (i+1)) others=⟨R.rows,if !R.fnd||decide (Bh r q.bq<R.val)then Bh r q.bq else R.val,true⟩:=by
 have e:=X9 hR hr;subst hR;unfold Cc;rw [Ax A0,Ax A0,B2 h,Ax A0,Ax A0,B2 h,e];unfold EZ;rw [RM];rfl
theorem zU(h:q.kd=6):Cc q (rows.take (i+1)) others=⟨R.rows,if !R.fnd||decide (R.val<Bh r q.bq)then Bh r q.bq else R.val,true⟩:=by
 have e:=X9 hR hr;subst hR;unfold Cc;rw [Ax A0,Ax A0,Ax A0,B2 h,Ax A0,Ax A0,Ax A0,B2 h,e];unfold EZ;rw [RM];rfl
theorem ww(h:q.kd=5)(hc:(!R.fnd||decide (Bh r q.bq<R.val))=true):Cc q (rows.take (i+1)) others=⟨R.rows,Bh r q.bq,true⟩:=by rw [zW hR hr h,hc];rfl
theorem zV(h:q.kd=5)(hc:(!R.fnd||decide (Bh r q.bq<R.val))=false):Cc q (rows.take (i+1)) others=⟨R.rows,R.val,true⟩:=by rw [zW hR hr h,hc];rfl
theorem wu(h:q.kd=6)(hc:(!R.fnd||decide (R.val<Bh r q.bq))=true):Cc q (rows.take (i+1)) others=⟨R.rows,Bh r q.bq,true⟩:=by rw [zU hR hr h,hc];rfl
theorem zT(h:q.kd=6)(hc:(!R.fnd||decide (R.val<Bh r q.bq))=false):Cc q (rows.take (i+1)) others=⟨R.rows,R.val,true⟩:=by rw [zU hR hr h,hc];rfl
theorem zS(h:q.kd=7):Cc q (rows.take (i+1)) others=⟨R.rows++H6 q others r,R.val,R.fnd⟩:=by
 subst hR;unfold Cc;rw [Ax A0,Ax A0,Ax A0,Ax A0,B2 h,Ax A0,Ax A0,Ax A0,Ax A0,B2 h];unfold IR;rw [Bt hr,O2,ij]
theorem zQ(h:q.kd=7){x:AV}(hx:Dv q others (Bh r q.bq)=some x):Cc q (rows.take (i+1)) others=⟨R.rows++[r,x],R.val,R.fnd⟩:=by rw [zS hR hr h];unfold H6;rw [hx]
theorem zR(h:q.kd=7)(hx:Dv q others (Bh r q.bq)=none):Cc q (rows.take (i+1)) others=⟨R.rows,R.val,R.fnd⟩:=by rw [zS hR hr h];unfold H6;rw [hx,HT]
end
theorem ZU(q:QM){rows:List AV}(others:List AV){n:Nat}(h:rows.length<=n):(Cc q rows others).rows.length<=2*n:=by
 have y:∀r,(H6 q others r).length<=2:=fun r=>by unfold H6;split<;>simp
 have m:∀L:List AV,(IR q L others).length<=2*L.length:=fun L=>by
  unfold IR;induction L with
  |nil=>exact B4 _
  |cons a L ih=>rw [L0,C7,GB];have:=y a;omega
 have g:∀(lt:Int->Int->Bool) (ms:List Int),(EZ lt ms).rows.length<=2*n:=fun lt ms=>by
  unfold EZ;have h:∀(ms:List Int) (r:CB),(ms.foldl (fun r n=>(⟨r.rows,if !r.fnd||lt n r.val then n else r.val,true⟩:CB)) r).rows=r.rows:=fun ms=>by
   induction ms with
   |nil=>exact fun r=>rfl
   |cons a ms ih=>exact fun r=>(ih _).trans rfl
  rw [h];exact CD _
 unfold Cc;split;· exact CD _
 · split
   · exact CD _
   · split
     · exact g _ _
     · split
       · exact g _ _
       · split
         · have:=m rows;simp only;omega
         · simp only;omega
theorem rG(q:QM)(others:List AV):Cc q [] others=CB.none:=by
 unfold Cc;repeat(first|rfl|split)
set_option maxHeartbeats 1000000 in
theorem cB{M:List AR}{v:A3}{others:List AV}(hv:CZ M v others)(t k:Int):BB prog 118 #[v,I4 t,I4 k] [M] (.tuple #[.agg #[I4 (UE (others.find? fun x=>decide (x.t=t/\x.k=k))).t,I4 (UE (others.find? fun x=>decide (x.t=t/\x.k=k))).k,I4 (UE (others.find? fun x=>decide (x.t=t/\x.k=k))).v.a,I4 (UE (others.find? fun x=>decide (x.t=t/\x.k=k))).v.b,I4 (UE (others.find? fun x=>decide (x.t=t/\x.k=k))).v.c],.bool (others.find? fun x=>decide (x.t=t/\x.k=k)).isSome]):=by
 have ax:=mL;obtain ⟨p,cap,rfl,⟨Z,af⟩,X⟩:=id hv;refine Se func118 ntmps118 [0,1,2] ?_;intro u R;refine A2<|Ze (Ff DS (cs:=#[I4 0,I4 0,I4 0,I4 0,I4 0]) AG)<|AE fun b1=>CT Y<|A2<|AF Y<|AQ<|Zb [8,0,1,2,6] ?_;refine Av (e0:=[(8,_)]) (fun m e H=>∃(i:Nat),m=others.length -i/\(i<=others.length/\∀(j:Nat) (y:AV),j<i->others[j]?=some y->(fun x:AV=>decide (x.t=t/\x.k=k)) y=false)/\e=[(8,I4 (i:Int))]/\H=[]) (by exact ⟨0,V,⟨CD _,fun j y U=>absurd U (gC j)⟩,V,V⟩) Wp ?_;rintro _ _ _ ⟨i,rfl,⟨hi,z⟩,rfl,rfl⟩;refine Zq<|A2<|Sk 2 V<|Zv (AJ B0 Y)<|Zv (Ak Y Y)<|A6<|Ad Y (fun G=>?_) (fun G=>?_);·
  obtain ⟨x,hx⟩:∃x,others[i]?=some x:=⟨_,Bk G⟩;obtain ⟨g,off,cur,T,zz,rfl,I,W,E⟩:=X i x hx;refine B3<|Zq<|AQ<|A2<|Sk 2 V ?_;refine BN (A9 B0 AW Y Y A0)<|Zv (Aj (off:=0) F1 V rfl A4 Y)<|Cj (Yx Wo (I)) (BZ A5 Y (by exact IU (j:=0) E V)) V rfl ?_;refine Zm Y<|Zv (Bd Y Y)<|Zm Y<|AZ (t:=22) Y V (fun K=>?_) (fun K=>?_);focus
   refine Sk 2 V ?_
   (refine ER Y (A9 B0 AW Y Y ?_) rfl rfl ?_;(focus (omega)))
   refine Yg (Aj (off:=1) F1 V rfl A4 Y)<|Mg Y (Yx Wo (I)) (BZ A5 Y (by exact IU (j:=1) E V)) V rfl ?_;refine Zf Y Y<|Yg (Bd Y Y)<|HR Y Y<|Z0<|Zn [0,1,2,6,8,30] ?_;refine Zx<|Ad Y (fun h2=>?_) (fun h2=>?_);·
    have O:=rO (f:=fun x:AV=>decide (x.t=t/\x.k=k)) hx (Cp ⟨K,h2⟩) z;refine A2<|Sk 2 V ?_;refine BN (A9 B0 AW Y Y A0)<|Cj (Yx Wo (I)) (A7 (cs:=x.Ax3) C5 AW Y A0 (by exact E)) V rfl ?_;refine Xe (Ao AW Y Y Ft Wu (by exact Bj rfl) DO AH (by exact Aw _)) ?_;refine AM Y<|AX<|Zt<|Zt<|AX<|Zt<|Bo rfl results118 Y Wh (Ai C5 AW Wn (AP rfl)) Y (by exact ⟨by rw [O];rfl,rfl⟩)
   focus
    have J:decide (x.t=t/\x.k=k)=false:=CC fun h=>h2 h.2
  rotate_left
  focus
   have J:decide (x.t=t/\x.k=k)=false:=CC fun h=>K h.1;refine Sk 8 V<|Z0<|Zn [0,1,2,6,8,30] ?_;refine Zx<|DY Y ?_
  all_goals
   refine AB<|A8<|Zx<|Zg<|Zm Y<|Ya (n:=1) Y Y<|AN Y<|Zn [8,0,1,2,6] ?_;refine Ac (e':=[(8,_)]) (by
    exact ⟨i+1,V,⟨by omega,fun j y U hy=>by
     rcases FA j i with h9|h9
     · exact z j y h9 hy
     · rw [show j=i by omega,hx]at hy
       injection hy with hy
       rw [<-hy];exact J⟩,rfl,rfl⟩)
 refine Az<|Zt<|Zt<|AU<|BT<|Zv (BK (vs:=[]) (cs:=#[_,_,_,_,_]) Y (AY (pl:=#[(0,1),(1,1),(2,3)]) DS F1 (fun _=>by kernel_rfl) rfl))<|Xe (Ao AW Y Y Ft Wu (by exact Bj rfl) DO AH (by exact Aw _)) ?_;refine AM Y<|Bo V results118 Y Wh (Ai C5 AW Wn (AP V)) Y (by
  have O:=wD (f:=fun x:AV=>decide (x.t=t/\x.k=k)) G z;exact ⟨by rw [O];rfl,rfl⟩)
set_option maxHeartbeats 4000000 in
theorem uf{M:List AR}{v vo:A3}{rows others:List AV}(hv:CZ M v rows)(ho:CZ M vo others)(q:QM)(hq:BH q)(hb:rows.length<=1000000)(hm:∀r∈rows,-1000000000<=Bh r q.bq/\Bh r q.bq<=1000000000):CJ prog 57 #[.agg q.Ax4,v,vo] [M] (fun w H'=>∃rv s,w= .agg #[rv,I4 (Cc q rows others).val,.bool (Cc q rows others).fnd]/\BS 5 91 rv (Cc q rows others).rows.length (Aa (Cc q rows others).rows) s/\H'=[s,M]):=by
 have lv:=mL;obtain ⟨p,cap,rfl,⟨kv,kz⟩,hg⟩:=id hv;obtain ⟨po,ek,rfl,_,_⟩:=id ho;refine Se func57 ntmps57 [0,1,2] ?_;intro u R;refine A2<|Ze (Bx #[_,_,_,_,_,_,_])<|AE fun b1=>Ze (Ff GO (cs:=#[.slice none 0 0,I4 0,.bool false]) AG)<|AE fun br=>A6<|A2<|Ze (Ff GO (cs:=#[.slice none 0 0,I4 0,.bool false]) AG)<|AE fun bn=>A6<|Zq<|A2<|Zo Wh (A7 (cs:=q.Ax4) DE CN Y (by exact B4 _) (by exact AP V)) ?_;refine Xr [_] Y call37 Y V (P8 q) ?_;rw [Cp hq];refine Zv (CR Y)<|A6<|Af Y (fun h0=>by cases h0)<|fun h0=>B3<|Zq<|A2<|AF Y<|AQ<|Bi<|Zb [8,1,2,3,6,7] ?_;refine Av (e0:=[(8,_)]) (fun m e H=>∃(i:Nat) (R:CB) (ov:A3) (K:List AR),m=rows.length -i/\(i<=rows.length/\R=Cc q (rows.take i) others/\BS 5 91 ov R.rows.length (Aa R.rows) K/\(-(1000000000*(i:Int))<=R.val/\R.val<=1000000000*(i:Int)))/\e=[(8,I4 (i:Int))]/\H=[[(bn,.cells #[ov,I4 R.val,.bool R.fnd] 51 (0,0))],K]) (by exact ⟨0,CB.none,.slice none 0 0,[],rfl,⟨CD _,by rw [Hh,rG],BX 5 _,⟨by decide,by decide⟩⟩,rfl,rfl⟩) Wp ?_;rintro _ _ _ ⟨i,R,ov,K,rfl,⟨hi,hR,J,gq,gy⟩,rfl,rfl⟩;obtain ⟨op,oc,rfl⟩:=J.form;have mR:R.rows.length<=2*i:=by
  rw [hR];exact ZU q others (by rw [CI];omega)
 refine Zq<|A2<|Sk 2 V<|Zv (AJ B0 Y)<|Zv (Ak Y Y)<|A6<|Ad Y (fun cu=>?_) (fun cu=>?_);·
  obtain ⟨r,hr⟩:∃r,rows[i]?=some r:=⟨_,Bk cu⟩;obtain ⟨g,off,cur,T,zz,rfl,O,gm,I⟩:=hg i r hr;obtain ⟨l8,l9⟩:=hm r (Fm hr);refine B3<|Zq<|AQ<|Zq<|Au (n:=8) (0::0::3::7::0::16::63::127::[]) 64 AG AG V<|A1 0 V (AA Y)<|A1 1 V (AA Y)<|A1 2 V (A9 B0 AW Y Y A0)<|CX (D':=15) 3 V rfl V (GK Wo (O)) (A7 (cs:=r.Ax3) C5 AW Y A0 (by exact I)) ?_;refine A1 4 V (AL (off:=5) CH V rfl A4 Y)<|B6 5 V A5 Y ?_;refine Yw 6 127 V (Zu [_,_] Y Q2 Y V (Lb r (jE hq)))<|DA<|A1 7 V (Aq Y)<|Am<|BT<|Zh 0 CH V rfl A4 Y<|Zl A5 Y ?_;refine Z0<|Zn [1,2,3,6,7,8,9,30] ?_;refine Zx<|AQ<|Zq<|A2<|Zv (Bd Y Y)<|AF Y<|Ad Y (fun k1=>?_) (fun k1=>?_);focus
   have E:=zX hR hr (.inl k1);refine B3<|Ad Y (fun d9=>?_) (fun d9=>?_);focus
    refine Au (n:=10) (0::1::0::0::12::28::60::127::255::511::[]) 704 AG AG V<|A1 0 V (AL (off:=0) Cd V rfl Cl Y)<|B6 1 V DQ Y ?_;refine A1 2 V (AA Y)<|A1 3 V (AA Y)<|A1 4 V (A9 B0 AW Y Y A0)<|CX (D':=63) 5 V rfl V (GK Wo (O)) (A7 (cs:=r.Ax3) C5 AW Y A0 (by exact I)) ?_;refine Yz 6 60 127 [5,1] [false,true] [(1,(_,_))] V Y V rfl V rfl (Ah (vs:=[_]) (cs:=[_,_,_,_,_]) B0 AW DS Y V rfl V rfl V)<|AE fun gb=>CA<|Yw 7 255 V (BL (by_:=40) (sz:=5) B0 (V:Tryz.prog.info? 91=some Tryz.t91) V rfl V rfl Y (J) Y (D7 5 gb 1 1 91 (0,0) [I4 r.t,I4 r.k,I4 r.v.a,I4 r.v.b,I4 r.v.c] V) Wo Wo HH A0 A0) ?_;rintro _ _ ⟨U,z,rfl⟩;obtain ⟨bf,ax,rfl⟩:=z.form;refine A1 8 V (AL (off:=0) Cd V rfl Cl Y)<|Zz (l:=[9])<|C6 [] [] V rfl (Zs Cl Y Y V (hi:=by(simp;done))) ?hk_5 (fun _ _ h=>h.elim) ?hl_5
    case' hk_5=>
     rintro _ _ ⟨rfl,rfl⟩;refine CA<|Am ?_
    case' hl_5=>
     exact Ar
   rotate_left
   exfalso;omega
  rotate_left
  focus
   refine Zg<|Zv (Bd Y Y)<|AF Y<|Ad Y (fun k2=>?_) (fun k2=>?_);focus
    have E:=zX hR hr (.inr k2);refine Au (n:=10) (0::1::0::0::12::28::60::127::255::511::[]) 704 AG AG V<|A1 0 V (AL (off:=0) Cd V rfl Cl Y)<|B6 1 V DQ Y ?_;refine A1 2 V (AA Y)<|A1 3 V (AA Y)<|A1 4 V (A9 B0 AW Y Y A0)<|CX (D':=63) 5 V rfl V (GK Wo (O)) (A7 (cs:=r.Ax3) C5 AW Y A0 (by exact I)) ?_;refine Yz 6 60 127 [5,1] [false,true] [(1,(_,_))] V Y V rfl V rfl (Ah (vs:=[_]) (cs:=[_,_,_,_,_]) B0 AW DS Y V rfl V rfl V)<|AE fun gb=>CA<|Yw 7 255 V (BL (by_:=40) (sz:=5) B0 (V:Tryz.prog.info? 91=some Tryz.t91) V rfl V rfl Y (J) Y (D7 5 gb 1 1 91 (0,0) [I4 r.t,I4 r.k,I4 r.v.a,I4 r.v.b,I4 r.v.c] V) Wo Wo HH A0 A0) ?_;rintro _ _ ⟨U,z,rfl⟩;obtain ⟨bf,ax,rfl⟩:=z.form;refine A1 8 V (AL (off:=0) Cd V rfl Cl Y)<|Zz (l:=[9])<|C6 [] [] V rfl (Zs Cl Y Y V (hi:=by(simp;done))) ?hk_9 (fun _ _ h=>h.elim) ?hl_9
    case' hk_9=>
     rintro _ _ ⟨rfl,rfl⟩;refine CA<|Am<|Zn [1,2,3,6,7,8] ?_
    case' hl_9=>
     exact Ar
   rotate_left
   focus
    refine A2<|Zv (Bd Y Y)<|AF Y<|Ad Y (fun k3=>?_) (fun k3=>?_);·
     have E:=r3 hR hr k3;refine Zg<|Zh 1 Cd V rfl A4 Y<|Zl A5 Y ?_;refine Yi Y Y<|Zh 1 Cd V rfl A4 Y<|Xe (Zs A4 Y Y V (hi:=by(simp;done))) ?_;refine Z0<|A8<|A8<|Zx<|Zg<|Zm Y<|Ya (n:=1) Y Y<|AN Y<|Zn [8,1,2,3,6,7] ?_;refine Ac (e':=[(8,_)]) (by(have G:Cc q (rows.take (i+1)) others=⟨R.rows,R.val+1,R.fnd⟩:=E;exact ⟨i+1,⟨R.rows,R.val+1,R.fnd⟩,_,K,V,⟨by omega,G.symm,J,⟨by push_cast;omega,by push_cast;omega⟩⟩,V,V⟩))
    refine A2<|Zv (Bd Y Y)<|AF Y<|Ad Y (fun k4=>?_) (fun k4=>?_);·
     have E:=qu hR hr k4;refine Zg<|Zh 1 Cd V rfl A4 Y<|Zl A5 Y ?_;refine Zm Y<|Yi Y Y<|Zh 1 Cd V rfl A4 Y<|Xe (Zs A4 Y Y V (hi:=by(simp;done))) ?_;refine Z0<|Zn [1,2,3,6,7,8] ?_;refine A8<|A8<|Zx<|Zg<|Zm Y<|Ya (n:=1) Y Y<|AN Y<|Zn [8,1,2,3,6,7] ?_;refine Ac (e':=[(8,_)]) (by(have G:Cc q (rows.take (i+1)) others=⟨R.rows,R.val+Bh r q.bq,R.fnd⟩:=E;exact ⟨i+1,⟨R.rows,R.val+Bh r q.bq,R.fnd⟩,_,K,V,⟨by omega,G.symm,J,⟨by push_cast;omega,by push_cast;omega⟩⟩,V,V⟩))
    refine A2<|Zv (Bd Y Y)<|AF Y<|Ad Y (fun k5=>?_) (fun k5=>?_);focus
     refine Zq<|A2<|Zh 2 Cd V rfl DP Y<|Zl Fc Y ?_;refine Zv (CR Y)<|Zm Y<|Ae (t:=61) Y V (fun X=>?_) (fun X=>?_);focus
      have E:=ww hR hr k5 (by rw [X];rfl);refine Sk 5 V<|Z0<|Zn [1,2,3,6,7,8,9,66] ?_;refine Zx<|BV Y ?_
     rotate_left
     focus
      refine Zf Y Y<|Yf 1 Cd V rfl A4 Y<|Yl A5 Y ?_;refine Yg (Dq Y Y)<|H3 Y Y<|Z0<|Zn [1,2,3,6,7,8,9,66] ?_;refine Zx<|Ad Y (fun Z=>?_) (fun Z=>?_);focus
       have E:=ww hR hr k5 (by rw [Cp Z,Bool.or_true])
      rotate_left
      have E:=zV hR hr k5 (by rw [CC Z,X];rfl);refine B3<|Zg<|Zh 2 Cd V rfl DP Y<|Xe (Zs DP Y Y V (hi:=by exact B4 _)) ?_;refine Z0<|A8<|A8<|Zx<|Zg<|Zm Y<|Ya (n:=1) Y Y<|AN Y<|Zn [8,1,2,3,6,7] ?_;refine Ac (e':=[(8,_)]) (by(have G:Cc q (rows.take (i+1)) others=⟨R.rows,R.val,true⟩:=E;exact ⟨i+1,⟨R.rows,R.val,true⟩,_,K,V,⟨by omega,G.symm,J,⟨by push_cast;omega,by push_cast;omega⟩⟩,V,V⟩))
    rotate_left 2
    focus
     refine A2<|Zv (Bd Y Y)<|AF Y<|Ad Y (fun k6=>?_) (fun k6=>?_);focus
      refine Zq<|A2<|Zh 2 Cd V rfl DP Y<|Zl Fc Y ?_;refine Zv (CR Y)<|Zm Y<|Ae (t:=75) Y V (fun X=>?_) (fun X=>?_);focus
       have E:=wu hR hr k6 (by rw [X];rfl);refine Sk 5 V<|Z0<|Zn [1,2,3,6,7,8,9,80] ?_;refine Zx<|BV Y ?_
      rotate_left
      focus
       refine Zf Y Y<|Yf 1 Cd V rfl A4 Y<|Yl A5 Y ?_;refine Yg (EE Y Y)<|H3 Y Y<|Z0<|Zn [1,2,3,6,7,8,9,80] ?_;refine Zx<|Ad Y (fun Z=>?_) (fun Z=>?_);focus
        have E:=wu hR hr k6 (by rw [Cp Z,Bool.or_true])
       rotate_left
       have E:=zT hR hr k6 (by rw [CC Z,X];rfl);refine B3<|Zg<|Zh 2 Cd V rfl DP Y<|Xe (Zs DP Y Y V (hi:=by exact B4 _)) ?_;refine Z0<|A8<|A8<|Zx<|Zg<|Zm Y<|Ya (n:=1) Y Y<|AN Y<|Zn [8,1,2,3,6,7] ?_;refine Ac (e':=[(8,_)]) (by(have G:Cc q (rows.take (i+1)) others=⟨R.rows,R.val,true⟩:=E;exact ⟨i+1,⟨R.rows,R.val,true⟩,_,K,V,⟨by omega,G.symm,J,⟨by push_cast;omega,by push_cast;omega⟩⟩,V,V⟩))
     rotate_left 2
     refine A2<|Zv (Bd Y Y)<|AN Y<|Zn [1,2,3,6,7,8,9,84] ?_;refine Zx<|Ad Y (fun k7=>?_) (fun k7=>?_);·
      refine B7 Y<|Zh 6 CH V rfl A4 Y<|Zl A5 Y ?_;refine Zm Y<|Xr [_,_,_] Y call118 Y V (cB ho q.ot (Bh r q.bq)) ?_;obtain ⟨W,af⟩:∃o,o=Dv q others (Bh r q.bq):=⟨_,rfl⟩;rw [show(others.find? fun x=>decide (x.t=q.ot/\x.k=Bh r q.bq))=W from af.symm];refine Sk 3 V<|Ze (Al DS #[_,_,_,_,_])<|AE fun bp=>Xe (Xw AW #[I4 (UE W).t,I4 (UE W).k,I4 (UE W).v.a,I4 (UE W).v.b,I4 (UE W).v.c]) ?_;refine AF Y<|B7 Y<|A6<|Af Y (fun g5=>?_) (fun g5=>?_);·
       obtain ⟨x9,cO⟩:∃x,W=some x:=cT.1 g5;subst cO;have E:=zQ hR hr k7 af.symm
       refine Au (n:=11) (0::1::0::0::12::28::0::124::255::511::1023::[]) 1408 AG AG V<|A1 0 V (AL (off:=0) Cd V rfl Cl Y)<|B6 1 V DQ Y ?_;refine A1 2 V (AA Y)<|A1 3 V (AA Y)<|A1 4 V (A9 B0 AW Y Y A0)<|CX (D':=63) 5 V rfl V (GK Wo (O)) (A7 (cs:=r.Ax3) C5 AW Y A0 (by exact I)) ?_;refine Fo 6 V Wh (A7 (cs:=#[_,_,_,_,_]) C5 AW Y (by exact B4 _) (by exact AP V)) ?_;refine Yz 7 124 255 [6,5,1] [false,false,true] [(1,(_,_))] V Y V rfl V rfl (Ah (vs:=[_,_]) (cs:=[_,_,_,_,_,_,_,_,_,_]) B0 AW DS Y V rfl V rfl V)<|AE fun gb=>CA<|Yw 8 511 V (BL (by_:=40) (sz:=5) B0 (V:Tryz.prog.info? 91=some Tryz.t91) V rfl V rfl Y (J) Y (D7 5 gb 2 2 91 (0,0) [I4 r.t,I4 r.k,I4 r.v.a,I4 r.v.b,I4 r.v.c,I4 x9.t,I4 x9.k,I4 x9.v.a,I4 x9.v.b,I4 x9.v.c] V) Wo Wo HH A0 A0) ?_;rintro _ _ ⟨U,z,rfl⟩;obtain ⟨bf,ax,rfl⟩:=z.form;refine A1 9 V (AL (off:=0) Cd V rfl Cl Y)<|Zz (l:=[10])<|C6 [] [] V rfl (Zs Cl Y Y V (hi:=by(simp;done))) ?_ (fun _ _ h=>h.elim) Ar;rintro _ _ ⟨rfl,rfl⟩;refine CA<|Am<|Zn [1,2,3,6,7,8] ?_;refine A8<|A8<|Zx<|Zg<|Zm Y<|Ya (n:=1) Y Y<|AN Y<|Zn [8,1,2,3,6,7] ?_;refine Ac (e':=[(8,_)]) (by(have G:Cc q (rows.take (i+1)) others=⟨R.rows++[r,x9],R.val,R.fnd⟩:=E;exact ⟨i+1,⟨R.rows++[r,x9],R.val,R.fnd⟩,_,U,rfl,⟨by omega,G.symm,BJ z (by rw [C7];rfl) (by rw [BR];rfl),⟨by push_cast;omega,by push_cast;omega⟩⟩,rfl,rfl⟩))
      have E:=zR hR hr k7 (by rw [<-af];cases W with|none=>rfl|some y=>simp at g5);refine AB<|A8<|A8<|Zx<|Zg<|Zm Y<|Ya (n:=1) Y Y<|AN Y<|Zn [8,1,2,3,6,7] ?_;refine Ac (e':=[(8,_)]) (by(have G:Cc q (rows.take (i+1)) others=⟨R.rows,R.val,R.fnd⟩:=E;exact ⟨i+1,⟨R.rows,R.val,R.fnd⟩,_,K,V,⟨by omega,G.symm,J,⟨by push_cast;omega,by push_cast;omega⟩⟩,V,V⟩))
     exfalso;have:=hq.2.2.2;omega
    all_goals
     refine Zg<|Zm Y<|Zh 1 Cd V rfl A4 Y<|Xe (Zs A4 Y Y V (hi:=by(simp;done))) ?_;refine A6<|Zg<|Zh 2 Cd V rfl DP Y<|Xe (Zs DP Y Y V (hi:=by exact B4 _)) ?_;refine Z0<|A8<|A8<|Zx<|Zg<|Zm Y<|Ya (n:=1) Y Y<|AN Y<|Zn [8,1,2,3,6,7] ?_;refine Ac (e':=[(8,_)]) (by(have G:Cc q (rows.take (i+1)) others=⟨R.rows,Bh r q.bq,true⟩:=E;exact ⟨i+1,⟨R.rows,Bh r q.bq,true⟩,_,K,V,⟨by omega,G.symm,J,⟨by push_cast;omega,by push_cast;omega⟩⟩,V,V⟩))
  all_goals
   refine A8<|A8<|Zx<|Zg<|Zm Y<|Ya (n:=1) Y Y<|AN Y<|Zn [8,1,2,3,6,7] ?_;refine Ac (e':=[(8,_)]) (by(have G:Cc q (rows.take (i+1)) others=⟨R.rows++[r],R.val,R.fnd⟩:=E;exact ⟨i+1,⟨R.rows++[r],R.val,R.fnd⟩,_,U,rfl,⟨by omega,G.symm,BJ z (by rw [C7];rfl) (by rw [BR];rfl),⟨by push_cast;omega,by push_cast;omega⟩⟩,rfl,rfl⟩))
 have ei:i=rows.length:=by omega
 rw [ei,HJ]at hR;refine Az<|Zt<|Zt<|AU<|BT<|Zo Wh (A7 (cs:=#[_,_,_]) D0 BE Y (by exact B4 _) (by exact AP V)) ?_;refine Xe (Ao BE Y Y Ft Wu (by exact Bj rfl) DO AH (by exact Aw _)) ?_;refine A6<|AC<|Df rfl results57 Y Wh (Ai D0 BE Wn (AP rfl)) (by exact ⟨.slice op R.rows.length oc,K,by rw [<-hR],by rw [<-hR];exact J,rfl⟩)
end Go.Proofs.YtljkoipiekbijaaGreatDoor
