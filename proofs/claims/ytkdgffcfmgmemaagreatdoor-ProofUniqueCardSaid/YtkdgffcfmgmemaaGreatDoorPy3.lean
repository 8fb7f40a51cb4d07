/- logtree.Next, Follows. -/
/- proof.Make, for all queries. -/
/- proof.Start on any proofs of which something follows. -/
import Derived.Test.YtkdgffcfmgmemaaGreatDoorEz
import Derived.Test.YtkdgffcfmgmemaaGreatDoorPy4
import Derived.Test.YtkdgffcfmgmemaaGreatDoorPy1
set_option linter.unusedVariables false
set_option linter.unusedSimpArgs false
namespace Go.Proofs.YtkdgffcfmgmemaaGreatDoor
open Go.Proofs.Tryz
open Go Go.RowKit Gw
set_option maxRecDepth 100000
attribute [local irreducible] Gw.At Gw.Nx Gw.Ops
def FN(h:Cm)(r:Br)(st:Bs):Prop:=ES r.p r.cs∧h.ok∧st.length=32∧r.p=h.p+1
noncomputable instance(h:Cm)(r:Br)(st:Bs):Decidable (FN h r st):=Classical.propDecidable _
def GD(h:Cm)(r:Br)(st:Bs):Cm:=⟨r.p,Me h.ch (KN r.p r.cs),st⟩
noncomputable def Iw(h:Cm)(r:Br)(st:Bs):Cm×Int:=if FN h r st then(GD h r st,0)else(⟨0,[],[]⟩,90)
noncomputable def II(st:Bs):Cm→List Br→Option Cm
 |h,[]=>some h
 |h,r::l=>if FN h r st then II st (GD h r st) l else none
def J6(a:Cm)(l:List Br)(b:Cm):Prop:=a.ok∧b.ok∧II b.st a l=some b
noncomputable instance(a:Cm)(l:List Br)(b:Cm):Decidable (J6 a l b):=Classical.propDecidable _
theorem Nn(st:Bs):∀(l l2:List Br) (h:Cm),II st h (l++l2)=(II st h l).bind fun h'=>II st h' l2
 |[],_,_=>rfl
 |r::l,l2,h=>by
  show(if FN h r st then II st (GD h r st) (l++l2)else none)=(if FN h r st then II st (GD h r st) l else none).bind _;split
  · exact Nn st l l2 _
  · rfl
theorem MB{st:Bs}{a h:Cm}{l:List Br}{i:Nat}{r:Br}(hw:II st a (l.take i)=some h)(hr:l[i]?=some r):II st a (l.take (i+1))=if FN h r st then some (GD h r st)else none:=by
 rw [Bo hr,Nn,hw];rfl
theorem XJ{st:Bs}{a:Cm}{l:List Br}{i:Nat}(h:II st a (l.take i)=none):II st a l=none:=by
 rw [←uY i l,Nn,h];rfl
noncomputable def ed(p:Int)(cs:List Chg):Bs×Int:=if ES p cs then(KN p cs,0)else([],30)
theorem U6(p:Int)(q:Option Addr)(cap:Nat)(cs:List Chg)(M:List AR)(hO:Dh M (.slice q cs.length cap) cs)(hok:¬ES p cs):Av Tryz.prog 222 #[.agg #[I4 p,.slice q cs.length cap]] [M] (.tuple #[.string (str []),I4 30]):=by
 refine Se func222 ntmps222 [0] ?_;intro u R;refine Zq<|Zg<|Ze (Bx #[_,_]) ?_;rintro _ _ ⟨b1,rfl,rfl⟩;refine Za Y<|Za Y<|Z0<|Zx<|Zq<|Zq<|Zg<|Zo Wh (Pa #[_,_] isAgg73 sizeOf73 Y) ?_;refine Xr [_] Y call205 Y rfl (Ny p q cap cs M hO) ?_;rw [decide_eq_false hok];refine Zv (Ca Y)<|Z0<|Zx ?_;refine Af Y (fun hv=>?_) (fun hv=>?_)
 ·
  refine Zq<|Zg<|Za Y<|Za Y<|Z0<|Zx<|A9<|Zt ?_;refine Da rfl results222 Y Y (by exact ⟨rfl,rfl⟩)
 cases hv
theorem eZ(p:Int)(q:Option Addr)(cap:Nat)(cs:List Chg)(M:List AR)(hO:Dh M (.slice q cs.length cap) cs):Av Tryz.prog 222 #[.agg #[I4 p,.slice q cs.length cap]] [M] (.tuple #[.string (str (ed p cs).1),I4 (ed p cs).2]):=by
 unfold ed;split
 · rename_i h;exact az p q cap cs M hO h
 · rename_i h;exact U6 p q cap cs M hO h
theorem pI(h:Cm)(r:Br)(st:List UInt8){M:List AR}(hO:Dh M (.slice r.q r.cs.length r.cap) r.cs)(Tg:TypeId)(zg:Nat×Nat):Av Tryz.prog 150 #[.agg #[I4 h.p,.string (str h.ch),.string (str h.st)],.agg #[I4 r.p,.slice r.q r.cs.length r.cap],.string (str st)] [M,[(1,.cells (Cs.map Bj).toArray Tg zg)]] (.tuple #[.agg #[I4 (Iw h r st).1.p,.string (str (Iw h r st).1.ch),.string (str (Iw h r st).1.st)],I4 (Iw h r st).2]):=by
 have hml:=mL;refine Se func150 ntmps150 [0,1,2] ?_;intro u R;refine Zq<|Zg<|Ze (Bx #[_,_,_]) ?_;rintro _ _ ⟨b1,rfl,rfl⟩;refine Ze (Bx #[_,_]) ?_;rintro _ _ ⟨b2,rfl,rfl⟩;refine Ze (Al zeroValue67 #[_,_,_]) ?_;rintro _ _ ⟨b3,rfl,rfl⟩;refine Za Y<|Z0<|Zx<|Zq<|Zg<|Zo Wh (Pa #[_,_] isAgg73 sizeOf73 Y) ?_;refine Xr [_] Y call222 Y rfl (eZ r.p r.q r.cap r.cs M hO) ?_;refine Zm Y<|Zd Y rfl<|Zd Y rfl<|Za Y<|Za Y<|Z0<|Zx<|Zq<|Zq<|Zg<|Zm Y<|Zv (IL Y Y)<|Zm Y ?_;refine Aj (t:=17) Y rfl (fun h1=>?_) (fun h1=>?_)
 ·
  have hno:¬FN h r st:=fun h9=>by unfold ed at h1;rw [if_pos h9.1]at h1;exact h1 rfl
  refine A7 Y rfl<|A7 Y rfl<|A7 Y rfl<|Zv (AL Y Y)<|Zm Y<|A7 Y rfl<|A7 Y rfl<|A7 Y rfl<|Zv (AL Y Y)<|Zm Y<|A7 Y rfl<|A7 Y rfl<|A7 Y rfl<|A7 Y rfl<|A7 Y rfl<|A7 Y rfl<|Zv (AL Y Y)<|Z0<|Zn [2,3,4,6,8,34] ?_;refine Zx<|CE Y<|Zq<|Zg<|Zv (BK (vs:=[]) (cs:=#[_,_,_]) Y (Aa (pl:=#[(0,1),(1,1),(2,1)]) zeroValue67 underlying67 (fun _=>by kernel_rfl) rfl)) ?_;refine Xe (BN sizeOf67 Y Y (by(simp [Value.oneCell'];done)) Wu (by exact DU rfl) (by first|rfl|(simp;done)) Wb (by exact BQ _)) ?_;refine Za Y<|Z0<|Zx<|A9<|Zt ?_;refine Bb rfl results150 Y Wh (Ah isAgg67 sizeOf67 Wn (Au rfl)) Y (by exact ⟨by unfold Iw;rw [if_neg hno];rfl,rfl⟩)
 have hok:ES r.p r.cs:=uH.1 fun h9=>by unfold ed at h1;rw [if_neg h9]at h1;exact h1 (by decide)
 have hel:=R7 hok;have hce:ed r.p r.cs=(KN r.p r.cs,0):=if_pos hok
 refine DL Y Wh (Pa #[_,_,_] isAgg67 sizeOf67 Y) rfl rfl ?_;refine Xr [_] Y call149 Y rfl (Qk h.p h.ch h.st) ?_;refine Yg (CB Y)<|Zv (AA Y Y)<|Zm Y ?_;refine Aj (t:=22) Y rfl (fun h2=>?_) (fun h2=>?_)
 ·
  have hno:¬FN h r st:=fun h9=>h2 h9.2.1;refine A7 Y rfl<|A7 Y rfl<|A7 Y rfl<|Zv (AL Y Y)<|Zm Y<|A7 Y rfl<|A7 Y rfl<|A7 Y rfl<|A7 Y rfl<|A7 Y rfl<|A7 Y rfl<|Zv (AL Y Y)<|Z0<|Zn [2,3,4,6,8,34] ?_;refine Zx<|CE Y<|Zq<|Zg<|Zv (BK (vs:=[]) (cs:=#[_,_,_]) Y (Aa (pl:=#[(0,1),(1,1),(2,1)]) zeroValue67 underlying67 (fun _=>by kernel_rfl) rfl)) ?_;refine Xe (BN sizeOf67 Y Y (by(simp [Value.oneCell'];done)) Wu (by exact DU rfl) (by first|rfl|(simp;done)) Wb (by exact BQ _)) ?_;refine Za Y<|Z0<|Zx<|A9<|Zt ?_;refine Bb rfl results150 Y Wh (Ah isAgg67 sizeOf67 Wn (Au rfl)) Y (by exact ⟨by unfold Iw;rw [if_neg hno];rfl,rfl⟩)
 have h2:=uH.1 h2;have h21:=h2.1
 refine Zf Y Y<|Xr [_] Y call98 Y rfl (Y7 st) ?_;refine Yg (CB Y)<|Zv (AA Y Y)<|Zm Y ?_;refine Aj (t:=27) Y rfl (fun h3=>?_) (fun h3=>?_)
 ·
  have hno:¬FN h r st:=fun h9=>h3 h9.2.2.1;refine A7 Y rfl<|A7 Y rfl<|A7 Y rfl<|A7 Y rfl<|A7 Y rfl<|A7 Y rfl<|Zv (AL Y Y)<|Z0<|Zn [2,3,4,6,8,34] ?_;refine Zx<|CE Y<|Zq<|Zg<|Zv (BK (vs:=[]) (cs:=#[_,_,_]) Y (Aa (pl:=#[(0,1),(1,1),(2,1)]) zeroValue67 underlying67 (fun _=>by kernel_rfl) rfl)) ?_;refine Xe (BN sizeOf67 Y Y (by(simp [Value.oneCell'];done)) Wu (by exact DU rfl) (by first|rfl|(simp;done)) Wb (by exact BQ _)) ?_;refine Za Y<|Z0<|Zx<|A9<|Zt ?_;refine Bb rfl results150 Y Wh (Ah isAgg67 sizeOf67 Wn (Au rfl)) Y (by exact ⟨by unfold Iw;rw [if_neg hno];rfl,rfl⟩)
 have h3:=uH.1 h3;refine Yf 0 underlying73 rfl rfl sizeOf3 Y<|Yl isAgg3 Y ?_;refine Yf 0 underlying67 rfl rfl sizeOf3 Y<|Yl isAgg3 Y ?_
 (refine FX Y (JI Y Y (IntWalk.i64_in _ ?_)) rfl rfl ?_;(focus (omega)))
 refine Yg (IL Y Y)<|Zv (AA Y Y)<|Z0<|Zn [2,3,4,6,8,34] ?_;refine Zx ?_;refine Ao Y (fun h4=>?_) (fun h4=>?_)
 ·
  have hno:¬FN h r st:=fun h9=>h4 h9.2.2.2;refine Zq<|Zg<|Zv (BK (vs:=[]) (cs:=#[_,_,_]) Y (Aa (pl:=#[(0,1),(1,1),(2,1)]) zeroValue67 underlying67 (fun _=>by kernel_rfl) rfl)) ?_;refine Xe (BN sizeOf67 Y Y (by(simp [Value.oneCell'];done)) Wu (by exact DU rfl) (by first|rfl|(simp;done)) Wb (by exact BQ _)) ?_;refine Za Y<|Z0<|Zx<|A9<|Zt ?_;refine Bb rfl results150 Y Wh (Ah isAgg67 sizeOf67 Wn (Au rfl)) Y (by exact ⟨by unfold Iw;rw [if_neg hno];rfl,rfl⟩)
 have h5:FN h r st:=⟨hok,h2,h3,by omega⟩;rw [hce];refine AC<|Zx<|Zq<|BI (n:=10) (0::1::0::4::0::28::0::127::255::511::[]) 288 (by kernel_rfl) (by kernel_rfl) rfl ?_;refine Zi 1 0 rfl (AZ (off:=0) underlying73 rfl rfl sizeOf3 Y)<|Zj 3 1 rfl isAgg3 Y ?_;refine Zi 7 2 rfl (AZ (off:=1) underlying67 rfl rfl sizeOf9 Y)<|Zj 15 3 rfl isAgg9 Y ?_;refine Zi 31 4 rfl (AJ Y)<|Zi 95 6 rfl (AJ Y)<|Zz (l:=[5]) ?_;refine Zy 28 127 [3,1] [false,true] [(1,(_,_))] rfl Y rfl rfl rfl rfl (Zu [_,_] Y call223 Y rfl (Yc h.ch (KN r.p r.cs) (by have:=h2.2.1;have:=hok.len;omega) Tg zg)) ?hk_5 (fun _ _ h=>h.elim) ?hl_5
 case hk_5=>
  rintro _ _ ⟨rfl,rfl⟩;refine ⟨Zk (Ad),?_⟩;refine Zi 255 7 rfl (BK (vs:=[(0,_),(1,_),(2,_)]) (cs:=#[_,_,_]) Y (Aa (pl:=#[(0,1),(1,1),(2,1)]) zeroValue67 underlying67 (fun _=>by kernel_rfl) rfl)) ?_;refine Yw 8 511 rfl (BN sizeOf67 Y Y (by(simp [Value.oneCell',Value.cells];done)) Wu (by exact DU rfl) (by first|rfl|(simp;done)) Wb (by exact BQ _)) ?_;rintro _ _ ⟨rfl,rfl⟩;refine Zi 1023 9 rfl (Ay Y)<|Am ?_;refine Zx<|A9 ?_;refine Bb rfl results150 Y Wh (Ah isAgg67 sizeOf67 Wn (Au rfl)) Y (by exact ⟨by unfold Iw;rw [if_pos h5];rfl,rfl⟩)
 exact Aw
set_option maxHeartbeats 1000000 in
theorem eG(a b:Cm){M:List AR}{lv:Value}{l:List Br}(hl:Du M lv l)(Tg:TypeId)(zg:Nat×Nat):Av Tryz.prog 76 #[.agg #[I4 a.p,.string (str a.ch),.string (str a.st)],lv,.agg #[I4 b.p,.string (str b.ch),.string (str b.st)]] [M,[(1,.cells (Cs.map Bj).toArray Tg zg)]] (.bool (decide (J6 a l b))):=by
 have hml:=mL;obtain ⟨pl,cl,rfl,⟨hll,hlc⟩,hg⟩:=id hl;refine Se func76 ntmps76 [0,1,2] ?_;intro u R;refine Zq<|Zg<|Ze (Bx #[_,_,_]) ?_;rintro _ _ ⟨ba,rfl,rfl⟩;refine Ze (Bx #[_,_,_]) ?_;rintro _ _ ⟨bb,rfl,rfl⟩;refine Za Y<|Z0<|Zx<|X9 ?_;refine Zb [1,3,5] ?_;refine CW (e0:=[]) (H0:=[]) (fun e H=>(True)∧e=[(7,.bool (decide (a.ok∧b.ok)))]∧H=[]) Wp ?hx_1 ?hy_1
 case hx_1=>
  refine Zg<|Zo Wh (AX (cs:=#[_,_,_]) isAgg67 sizeOf67 Y Wb (by exact Au rfl)) ?_;refine Xr [_] Y call149 Y rfl (Qk a.p a.ch a.st) ?_;refine Zm Y ?_;refine Aj (t:=14) Y rfl (fun h1=>?_) (fun h1=>?_)
  ·
   refine DL Y Wh (AX (cs:=#[_,_,_]) isAgg67 sizeOf67 Y Wb (by exact Au rfl)) rfl rfl ?_;refine Xr [_] Y call149 Y rfl (Qk b.p b.ch b.st) ?_;refine Zv (AL Y Y)<|Za Y<|Z0<|Zn [7,1,3,5] ?_;refine BB (e':=[(7,_)]) (by exact ⟨trivial,by(rw [show decide (a.ok∧b.ok)=decide b.ok from decide_eq_decide.2 ⟨fun h9=>h9.2,fun h9=>⟨h1,h9⟩⟩];rfl),rfl⟩)
  refine A7 Y rfl<|A7 Y rfl<|Zv (AA Y Y)<|Za Y<|Z0<|Zn [7,1,3,5] ?_;refine BB (e':=[(7,_)]) (by exact ⟨trivial,by(rw [decide_eq_false (show¬(a.ok∧b.ok) from fun h9=>h1 h9.1)]),rfl⟩)
 rintro _ _ ⟨_,rfl,rfl⟩;refine Zq<|XA<|Zx<|Zb [1,7,3,5] ?_;refine CW (e0:=[(1,_),(7,_)]) (H0:=[[(ba,.cells #[I4 a.p,.string (str a.ch),.string (str a.st)] 67 (0,0))]]) (fun e H=>∃(ok:Bool) (h:Cm),((ok=decide (a.ok∧b.ok)∧II b.st a l=some h)∨(ok=false∧II b.st a l=none))∧e=[(7,.bool ok)]∧H=[[(ba,.cells #[I4 h.p,.string (str h.ch),.string (str h.st)] 67 (0,0))]]) Wp ?hx_4 ?hy_4
 case hx_4=>
  refine Zq<|Zg<|Zm Y<|Zv (AV underlying28 Y)<|Zm Y<|Z0<|Zx<|AQ<|Zb [7,20,3,5,18,19] ?_;refine Az (e0:=[(7,_),(20,_)]) (fun m e H=>∃(i:Nat) (h:Cm),m=l.length -i∧(i≤l.length∧II b.st a (l.take i)=some h)∧e=[(7,.bool (decide (a.ok∧b.ok))),(20,I4 (i:Int))]∧H=[[(ba,.cells #[I4 h.p,.string (str h.ch),.string (str h.st)] 67 (0,0))]]) (by exact ⟨0,a,rfl,⟨tX _,by rw [ut];rfl⟩,rfl,rfl⟩) Wp ?_;rintro _ _ _ ⟨i,h,rfl,⟨hi,hw⟩,rfl,rfl⟩;refine Zq<|Zg<|Zv (Aq Y Y)<|Z0<|Zx<|Zq ?_;refine Ao Y (fun hlt=>?_) (fun hlt=>?_)
  ·
   obtain ⟨r,hr⟩:∃r,l[i]?=some r:=⟨_,tF (by omega)⟩;obtain ⟨hu9,g,off,cur,T,zz,rfl,hm9,hsz9,hex9⟩:=hg i r hr;refine AC<|Zx<|Zq<|AQ<|Zq<|Zg ?_;refine BM (AU underlying28 sizeOf73 Y Y (by first|omega|decide|(simp;done))) ?_;refine Cf (cs:=[(g,.cells cur T zz)]) (by simp [hm9]) (AX (cs:=#[I4 r.p,.slice r.q r.cs.length r.cap]) isAgg73 sizeOf73 Y (by omega) hex9) rfl rfl ?_;refine Ze (Al zeroValue73 #[_,_]) ?_;rintro _ _ ⟨br,rfl,rfl⟩;refine Xe (Xw sizeOf73 #[I4 r.p,.slice r.q r.cs.length r.cap]) ?_;refine Z0<|Zx<|Zq<|Zg<|Zo Wh (AX (cs:=#[_,_,_]) isAgg67 sizeOf67 Y Wb (by exact Au rfl)) ?_;refine Zo Wh (AX (cs:=#[_,_]) isAgg73 sizeOf73 Y Wb (by exact Au rfl)) ?_;refine Zh 2 underlying67 rfl rfl sizeOf9 Y<|Zl isAgg9 Y ?_;refine Xr [_,_,_] Y call150 Y rfl (pI h r b.st hu9 Tg zg) ?_;refine Zm Y<|Zd Y rfl<|Zd Y rfl<|Ze (Al zeroValue67 #[_,_,_]) ?_;rintro _ _ ⟨bn,rfl,rfl⟩;refine Xe (Xw sizeOf67 #[I4 (Iw h r b.st).1.p,.string (str (Iw h r b.st).1.ch),.string (str (Iw h r b.st).1.st)]) ?_;refine Za Y<|Z0<|Zn [3,5,7,10,11,18,19,20] ?_;refine Zx<|Zq<|Zq<|Zg<|Zm Y<|Zv (IL Y Y)<|Z0<|Zx ?_;refine Ao Y (fun hne=>?_) (fun hne=>?_)
   ·
    have hn:¬FN h r b.st:=fun h9=>by unfold Iw at hne;rw [if_pos h9]at hne;exact hne rfl
    have hw9:II b.st a l=none:=XJ (i:=i+1) (by rw [MB hw hr,if_neg hn]);refine Zq<|Zg<|Za Y<|Z0<|Zx<|Ar<|Zt<|Ap rfl<|Zt<|Zt<|AO<|Zn [7,3,5] ?_;refine BB (e':=[(7,_)]) (by exact ⟨_,h,.inr ⟨rfl,hw9⟩,rfl,rfl⟩)
   have hn:FN h r b.st:=uH.1 fun h9=>by unfold Iw at hne;rw [if_neg h9]at hne;exact hne (by decide)
   have hnv:Iw h r b.st=(GD h r b.st,0):=if_pos hn;rw [hnv];refine AC<|Zx<|Zg<|Zo Wh (AX (cs:=#[_,_,_]) isAgg67 sizeOf67 Y Wb (by exact Au rfl)) ?_;refine Xe (Xw sizeOf67 #[I4 (GD h r b.st).p,.string (str (GD h r b.st).ch),.string (str (GD h r b.st).st)]) ?_;refine Z0<|A8<|Zx<|Zg<|Ya (n:=1) Y Y<|Zm Y<|Z0<|Zn [7,20,3,5,18,19] ?_;refine Ab (e':=[(7,_),(20,_)]) (by exact ⟨i+1,GD h r b.st,rfl,⟨by omega,by rw [MB hw hr,if_pos hn]⟩,rfl,rfl⟩)
  have ei:i=l.length:=by omega
  subst ei;rw [uQ]at hw;refine Ar<|Zt<|Zt<|AO<|Zn [7,3,5] ?_;refine BB (e':=[(7,_)]) (by exact ⟨_,h,.inl ⟨rfl,hw⟩,rfl,rfl⟩)
 rintro _ _ ⟨ok,h,hcs,rfl,rfl⟩;refine Zq<|Zg<|Zm Y<|Zm Y ?_;refine Ai (t:=37) Y rfl (fun h2=>?_) (fun h2=>?_)
 ·
  have hfin:h=b↔J6 a l b:=by
   rcases hcs with⟨h3,h4⟩|⟨h3,h4⟩
   · rw [h2]at h3
     have h5:=of_decide_eq_true h3.symm;exact ⟨fun h9=>⟨h5.1,h5.2,by rw [h4,h9]⟩,fun h9=>by have h6:=h9.2.2;rw [h4]at h6;injection h6⟩
   · rw [h2]at h3;cases h3
  refine DL Y Wh (AX (cs:=#[_,_,_]) isAgg67 sizeOf67 Y Wb (by exact Au rfl)) rfl rfl ?_;refine DL Y Wh (AX (cs:=#[_,_,_]) isAgg67 sizeOf67 Y Wb (by exact Au rfl)) rfl rfl ?_;refine Yg (ig (by kernel_rfl) Y Y (eqH h b)) ?_;refine Zv (AL Y Y)<|Za Y<|Z0<|Zx<|A9<|K9 ?_;refine AB rfl results76 Y (by exact ⟨by exact GU hfin,rfl⟩)
 have hfin:¬J6 a l b:=fun h9=>by
  rcases hcs with⟨h3,h4⟩|⟨h3,h4⟩
  · rw [h2]at h3;exact of_decide_eq_false h3.symm ⟨h9.1,h9.2.1⟩
  · rw [h9.2.2]at h4;cases h4
 refine A7 Y rfl<|A7 Y rfl<|A7 Y rfl<|Zv (AA Y Y)<|Za Y<|Z0<|Zx<|A9<|K9 ?_;refine AB rfl results76 Y (by exact ⟨by exact congrArg Value.bool (decide_eq_false hfin).symm,rfl⟩)
theorem mJ(v:Value)(p:Int)(rs:List AP)(s:List AR)(hv:PO v p rs s)(hs:BJ rs)(hn:rs.length≤2000)(hok:∀r∈rs,r.ok)(t c lo hi:Int)(ht:0≤t∧t≤3)(hc:0≤c∧c≤3)(hlh:lo≤hi)(Tg:TypeId)(zg:Nat×Nat):
 CO Tryz.prog 51 #[v,I4 t,I4 c,I4 lo,I4 hi] [[(1,.cells (Cs.map Bj).toArray Tg zg)],s] (fun r H'=>∃(z:RPZ) (mem:List AR),z.x=EM rs t.toNat c.toNat lo hi∧z.ok mem∧r= .tuple #[.agg #[I4 z.x.tb,I4 z.x.cl,I4 z.x.lo,I4 z.x.hi,I4 z.x.ct,I4 z.x.fi,.slice z.qr z.x.rows.length z.cr,.slice z.qp z.x.paths.length z.cp,.slice z.qt z.x.roots.length z.ct],I4 0]∧H'=[mem,[(1,.cells (Cs.map Bj).toArray Tg zg)],s]):=by
 have h:=Xi v p rs s hv hs hn hok t.toNat c.toNat (by omega) (by omega) lo hi hlh Tg zg;rw [show((t.toNat:Nat):Int)=t by omega,show((c.toNat:Nat):Int)=c by omega]at h;refine h.mono ?_;rintro r H' ⟨v',mem,rfl,hR,rfl⟩;obtain ⟨z,h1,h2,rfl⟩:=ol hR;exact ⟨z,mem,h1,h2,rfl,rfl⟩
theorem ni(Z:List RPZ):∀u∈Z.flatMap Gb,u.oneCell'=true:=by
 intro u hu;obtain ⟨z,_,h⟩:=xK.1 hu;unfold Gb at h;simp only [uI,vT,or_false]at h;rcases h with rfl|rfl|rfl|rfl|rfl|rfl|rfl|rfl|rfl<;>rfl
theorem qG(Z:List RPZ):(Z.flatMap Gb).length=Z.length*9:=by
 induction Z with
 |nil=>rfl
 |cons z Z ih=>rw [ui,tK,ih,tY];show 9+_=_;omega
theorem QO(q:QM)(hb:0≤q.bq∧q.bq≤3)(r:AP):Av Tryz.prog 54 #[.agg #[I4 q.kd,I4 q.tb,I4 q.cl,I4 q.lo,I4 q.hi,I4 q.bq,I4 q.ot],.agg #[I4 r.t,I4 r.k,I4 r.v.a,I4 r.v.b,I4 r.v.c]] [] (.agg #[I4 q.ot,I4 0,I4 (Be r q.bq),I4 (Be r q.bq)]):=by
 refine Se func54 ntmps54 [0,1] ?_;intro u R;refine Zq<|Zg<|Ze (Bx #[I4 q.kd,I4 q.tb,I4 q.cl,I4 q.lo,I4 q.hi,I4 q.bq,I4 q.ot]) ?_;rintro _ _ ⟨bq,rfl,rfl⟩;refine Ze (Bx #[_,_,_,_,_]) ?_;rintro _ _ ⟨br,rfl,rfl⟩;refine Ze (Al zeroValue106 #[_,_,_,_]) ?_;rintro _ _ ⟨bo,rfl,rfl⟩;refine Z0<|Zx<|Zq<|Zg<|Zo Wh (AX (cs:=#[_,_,_,_,_]) isAgg113 sizeOf113 Y Wb (by exact Au rfl)) ?_;refine Zh 5 underlying30 rfl rfl sizeOf3 Y<|Zl isAgg3 Y ?_;refine Xr [_,_] Y call97 Y rfl (FQ r q.bq hb) ?_;refine Za Y<|Z0<|Zx<|Zq<|Zg<|Zh 6 underlying30 rfl rfl sizeOf3 Y<|Zl isAgg3 Y ?_;refine Zm Y<|Zm Y<|Zv (BK (vs:=[(0,_),(1,_),(2,_),(3,_)]) (cs:=#[_,_,_,_]) Y (Aa (pl:=#[(0,1),(1,1),(2,1),(3,1)]) zeroValue106 underlying106 (fun _=>by kernel_rfl) rfl)) ?_;refine Xe (BN sizeOf106 Y Y (by(simp [Value.oneCell',Value.cells];done)) Wu (by exact DU rfl) (by first|rfl|(simp;done)) Wb (by exact BQ _)) ?_;refine Z0<|Zn [4] ?_;refine Zx<|A9 ?_;refine D7 rfl results54 Y Wh (Ah isAgg106 sizeOf106 Wn (Au rfl)) (by exact ⟨rfl,rfl⟩)
theorem ny(v:Value)(p:Int)(rs:List AP)(s:List AR)(hv:PO v p rs s)(hs:BJ rs)(hn:rs.length≤2000)(hok:∀r∈rs,r.ok)(t c0 lo hi:Int)(ht:0≤t∧t≤3)(hc:0≤c0∧c0≤3)(hlh:lo≤hi)(Tg:TypeId)(zg:Nat×Nat)(bs bo:Nat){Z:List RPZ}{g:Option Addr}{c:Nat}{so:List AR}(hso:BX 9 49 (.slice g Z.length c) Z.length (Z.flatMap Gb) so)(hZ:Z.length≤1000000):CO Tryz.prog 50 #[.agg #[I4 t,I4 c0,I4 lo,I4 hi],I5 bs,I5 bo] [[(1,.cells (Cs.map Bj).toArray Tg zg)],s,[(bs,.cells #[v] 33 (0,0))],[(bo,.cells #[.slice g Z.length c] 40 (0,0))],so] (fun r H'=>r=undef∧∃(z:RPZ) (mem:List AR) (g:Option Addr) (c:Nat) (so:List AR),z.x=EM rs t.toNat c0.toNat lo hi∧z.ok mem∧BX 9 49 (.slice g (Z.length+1) c) (Z.length+1) ((Z++[z]).flatMap Gb) so∧H'=[mem,so,[(1,.cells (Cs.map Bj).toArray Tg zg)],s,[(bs,.cells #[v] 33 (0,0))],[(bo,.cells #[.slice g (Z.length+1) c] 40 (0,0))]]):=by
 have hml:=mL;obtain ⟨sp,mb,es,ck,lm,rfl,hst9⟩:=id hv;refine Se func50 ntmps50 [0,1,2] ?_;intro u R;refine Zq<|Zg<|Ze (Bx #[_,_,_,_]) ?_;rintro _ _ ⟨bx,rfl,rfl⟩;refine Z0<|Zx<|Zq<|Zg<|Zl isAgg33 Y ?_;refine Zh 0 underlying106 rfl rfl sizeOf3 Y<|Zl isAgg3 Y ?_;refine Zh 1 underlying106 rfl rfl sizeOf3 Y<|Zl isAgg3 Y ?_;refine Zh 2 underlying106 rfl rfl sizeOf3 Y<|Zl isAgg3 Y ?_;refine Zh 3 underlying106 rfl rfl sizeOf3 Y<|Zl isAgg3 Y ?_;refine Zc [_,_,_,_,_] Y call51 Y rfl (mJ _ p rs s hv hs hn hok t c0 lo hi ht hc hlh Tg zg) ?_;rintro _ _ ⟨_,⟨z,mem,hzx,hzo,rfl,rfl⟩,rfl⟩;refine Zm Y<|Zd Y rfl<|Zd Y rfl<|Ze (Al zeroValue49 #[_,_,_,_,_,_,_,_,_]) ?_;rintro _ _ ⟨bp,rfl,rfl⟩;refine Xe (Xw sizeOf49 #[I4 z.x.tb,I4 z.x.cl,I4 z.x.lo,I4 z.x.hi,I4 z.x.ct,I4 z.x.fi,.slice z.qr z.x.rows.length z.cr,.slice z.qp z.x.paths.length z.cp,.slice z.qt z.x.roots.length z.ct]) ?_;refine Za Y<|Z0<|Zn [2,4] ?_;refine Zx<|Zg<|Zl isAgg40 Y ?_;refine Zo Wh (Pa #[_,_,_,_,_,_,_,_,_] isAgg49 sizeOf49 Y) ?_;refine Ze (Ae (vs:=[_]) (cs:=[_,_,_,_,_,_,_,_,_]) underlying40 sizeOf49 zeroValue49 Y rfl rfl rfl rfl rfl) ?_;rintro _ _ ⟨gb,rfl,rfl⟩;refine Ze (BR (by_:=120) (sz:=9) underlying40 (rfl:Tryz.prog.info? 49=some Tryz.t49) rfl rfl rfl rfl Y (hso) Y (DY 9 gb 1 1 49 (0,0) (Gb z) rfl) Wo Wo (by have:=ni [z];simpa using this) (by omega) (by omega)) ?_;rintro _ _ ⟨sw5,hrw5,rfl⟩;obtain ⟨gw5,cw5,rfl⟩:=hrw5.form;refine Xe (Zs sizeOf40 Y Y rfl (hi:=by first|omega|decide|(simp;done))) ?_;refine Z0 ?_;refine Gz rfl results50 (by exact ⟨rfl,z,mem,gw5,cw5,sw5,hzx,hzo,BO hrw5 rfl (by rw [vX];simp),rfl⟩)
set_option maxHeartbeats 1000000 in
theorem pJ(v:Value)(p:Int)(rs:List AP)(s:List AR)(hv:PO v p rs s)(hs:BJ rs)(hn:rs.length≤2000)(hok:∀r∈rs,r.ok)(q:QM)(hq:BP q)(hl:(CZ rs q).length≤100)(Tg:TypeId)(zg:Nat×Nat):CO Tryz.prog 15 #[v,.agg #[I4 q.kd,I4 q.tb,I4 q.cl,I4 q.lo,I4 q.hi,I4 q.bq,I4 q.ot]] [[(1,.cells (Cs.map Bj).toArray Tg zg)],s] (fun w H'=>∃vo mem,w= .tuple #[vo,I4 0]∧Gs mem vo (Ec rs q)∧H'=[mem,[(1,.cells (Cs.map Bj).toArray Tg zg)],s]):=by
 have hml:=mL;obtain ⟨sp,mb,es,ck,lm,rfl,hst9⟩:=id hv;have hcl:=hq.2.1
 have hr1:=@QD rs q.tb q.cl.toNat q.lo q.hi;have hq5:0≤q.bq∧q.bq≤3:=by have:=hq.2.2.2;omega
 have hq6:0≤q.ot∧q.ot≤3:=by have:=hq.2.2.2;omega
 refine Se func15 ntmps15 [0,1] ?_;intro u R;refine Zq<|Zg<|Ze (Bx #[_]) ?_;rintro _ _ ⟨bs,rfl,rfl⟩;refine Ze (Bx #[I4 q.kd,I4 q.tb,I4 q.cl,I4 q.lo,I4 q.hi,I4 q.bq,I4 q.ot]) ?_;rintro _ _ ⟨bq,rfl,rfl⟩;refine Za Y<|Za Y<|Z0<|Zx<|Zq<|AQ<|Zq<|Zg<|Zl isAgg33 Y ?_;refine Zv (F7 underlying33 Y Y)<|Za Y<|Z0<|Zx ?_;refine Af Y (fun hb0=>?_) (fun hb0=>?_)
 ·
  cases hb0
 refine Zq<|Zg<|Zo Wh (Pa #[_,_,_,_,_,_,_] isAgg30 sizeOf30 Y) ?_;refine Xr [_] Y call49 Y rfl (LY q) ?_;refine Zv (CB Y)<|Za Y<|Z0<|Zx ?_;refine Af Y (fun hb1=>?_) (fun hb1=>?_)
 ·
  exfalso;simp [hq]at hb1
 refine AC<|A8<|Zx<|Zq<|Zg<|Ze (Al zeroValue40 #[_]) ?_;rintro _ _ ⟨bo,rfl,rfl⟩;refine Z0<|Zx<|Zq<|Zg<|Zv (Bt (vs:=[]) (us:=[_,_]) Y Y) ?_;refine Za Y<|Z0<|Zn [2,3,6,7] ?_;refine Zx<|Zq<|Zg<|Zo Wh (Pa #[_,_,_,_,_,_,_] isAgg30 sizeOf30 Y) ?_;refine Xr [_] Y call52 Y rfl (qi q hq) ?_;refine Ze (Al zeroValue106 #[_,_,_,_]) ?_;rintro _ _ ⟨bx,rfl,rfl⟩;refine Xe (Xw sizeOf106 #[I4 q.tb,I4 q.cl,I4 q.lo,I4 q.hi]) ?_;refine Z0<|Zx<|Zq<|Zg<|Zl isAgg33 Y ?_;refine Zh 0 underlying106 rfl rfl sizeOf3 Y<|Zl isAgg3 Y ?_;refine Zh 1 underlying106 rfl rfl sizeOf3 Y<|Zl isAgg3 Y ?_;refine Zh 2 underlying106 rfl rfl sizeOf3 Y<|Zl isAgg3 Y ?_;refine Zh 3 underlying106 rfl rfl sizeOf3 Y<|Zl isAgg3 Y ?_;refine Zc [_,_,_,_,_] Y call53 Y rfl (ai _ p rs s hv q.tb q.cl q.lo q.hi hcl) ?_;rintro _ _ ⟨_,⟨s1,h1,rfl⟩,rfl⟩;rw [show Ci rs q.tb q.cl.toNat q.lo q.hi=CZ rs q from rfl]at h1 hr1;obtain ⟨p1,c1,rfl⟩:=h1.form;obtain ⟨p7,cap7,e7,⟨hl7,hlc7⟩,hgr⟩:=id (Dv h1 (by omega));injection e7 with e71 e72 e73
 subst e71 e73;refine Za Y<|Z0<|Zn [3,6,7,8,9] ?_;refine Zx<|Zq<|Zq<|Zg<|Zm Y<|Zv (AV underlying45 Y)<|Zv (DJ (n:=100) Y Y)<|Z0<|Zx ?_;refine Ao Y (fun hb2=>?_) (fun hb2=>?_)
 ·
  exfalso;omega
 refine AC<|Zx<|Zq<|Bd ?_;refine Zg<|Zm Y<|Zo Wh (Pa #[_,_,_,_] isAgg106 sizeOf106 Y) ?_;refine Zc [_] Y call50 Y rfl (ny _ p rs s hv hs hn hok q.tb q.cl q.lo q.hi hq.1 hcl hq.2.2.1.2.1 Tg zg bs bo (Z:=[]) (BV 9 _) (tX _)) ?_;rintro _ _ ⟨_,⟨rfl,z0,mem0,g0,c0,so0,hz0,hzo0,hso0,rfl⟩,rfl⟩;refine Z0<|Zx<|Zb [3,7,9,6] ?_;refine CW (e0:=[(3,_),(7,_),(9,_)]) (H0:=[[(bo,.cells #[.slice g0 (([]:List RPZ).length+1) c0] 40 (0,0))],so0,mem0]) (fun e H=>∃(Z:List RPZ) (g:Option Addr) (c:Nat) (so mm:List AR),(Z.map RPZ.x=Ec rs q∧(∀z∈Z,z.ok mm)∧BX 9 49 (.slice g Z.length c) Z.length (Z.flatMap Gb) so∧Z.length≤1000)∧e=[]∧H=[[(bo,.cells #[.slice g Z.length c] 40 (0,0))],so,mm]) Wp ?hx_1 ?hy_1
 case hx_1=>
  refine Zq<|Zg<|Zh 0 underlying30 rfl rfl sizeOf3 Y<|Zl isAgg3 Y ?_;refine Zv (CF Y Y)<|Z0<|Zx ?_;refine Ao Y (fun hb3=>?_) (fun hb3=>?_)
  ·
   refine Zq<|Zg<|Zm Y<|Zv (AV underlying45 Y)<|Zm Y<|Z0<|Zx<|AQ<|Zb [43,3,6,7,41,42] ?_;refine Az (e0:=[(43,_)]) (fun m e H=>∃(k:Nat) (Z:List RPZ) (g:Option Addr) (c:Nat) (so mm:List AR),m=(CZ rs q).length -k∧(k≤(CZ rs q).length∧Z.map RPZ.x=EM rs q.tb.toNat q.cl.toNat q.lo q.hi::((CZ rs q).take k).map (fun r=>EM rs q.ot.toNat 0 (Be r q.bq) (Be r q.bq))∧(∀z∈Z,z.ok mm)∧Z.length=k+1∧BX 9 49 (.slice g Z.length c) Z.length (Z.flatMap Gb) so)∧e=[(43,I4 (k:Int))]∧H=[[(bo,.cells #[.slice g Z.length c] 40 (0,0))],so,mm]) (by exact ⟨0,[z0],g0,c0,so0,mem0,rfl,⟨tX _,by rw [ut,wM,vM,hz0],fun z hz=>by rw [tq.1 hz];exact hzo0,rfl,hso0⟩,rfl,rfl⟩) Wp ?_;rintro _ _ _ ⟨k,Z,g,c,so,mm,rfl,⟨hk,hZx,hZo,hZl,hso⟩,rfl,rfl⟩;refine Zq<|Zg<|Zv (Aq Y Y)<|Z0<|Zx<|Zq ?_;refine Ao Y (fun hlt=>?_) (fun hlt=>?_)
   ·
    obtain ⟨r9,hr9⟩:∃r9,(CZ rs q)[k]?=some r9:=⟨_,tF hlt⟩;obtain ⟨g8,off,cur,T,zz,rfl,hm9,hsz9,hex9⟩:=hgr k r9 hr9;refine AC<|Zx<|Zq<|AQ<|Zq<|Zg ?_;refine BM (AU underlying45 sizeOf113 Y Y (by first|omega|decide|(simp;done))) ?_;refine Cf (cs:=[(g8,.cells cur T zz)]) (by simp [hm9]) (AX (cs:=#[I4 r9.t,I4 r9.k,I4 r9.v.a,I4 r9.v.b,I4 r9.v.c]) isAgg113 sizeOf113 Y (by omega) hex9) rfl rfl ?_;refine Ze (Al zeroValue113 #[_,_,_,_,_]) ?_;rintro _ _ ⟨bx,rfl,rfl⟩;refine Xe (Xw sizeOf113 #[I4 r9.t,I4 r9.k,I4 r9.v.a,I4 r9.v.b,I4 r9.v.c]) ?_;refine Z0<|Zx<|Zg<|Zm Y<|Zo Wh (Pa #[_,_,_,_,_,_,_] isAgg30 sizeOf30 Y) ?_;refine Zo Wh (Pa #[_,_,_,_,_] isAgg113 sizeOf113 Y) ?_;refine Xr [_,_] Y call54 Y rfl (QO q hq5 r9) ?_;refine Zc [_] Y call50 Y rfl (ny _ p rs s hv hs hn hok q.ot 0 (Be r9 q.bq) (Be r9 q.bq) hq6 (by omega) (zX _) Tg zg bs bo hso (by omega)) ?_;rintro _ _ ⟨_,⟨rfl,z5,mem5,g5,c5,so5,hz5,hzo5,hso5,rfl⟩,rfl⟩;refine Z0<|A8<|Zx<|KT (s1:=mem5) (s2:=mm) Wo Wo ?_;refine Zg<|Ya (n:=1) Y Y<|Zm Y<|Z0<|Zn [43,3,6,7,41,42] ?_;refine Ab (e':=[(43,_)]) (by exact ⟨k+1,Z++[z5],g5,c5,so5,mem5++mm,rfl,⟨by omega,by rw [uK,hZx,Bo hr9,uK,vM,hz5];rfl,fun z hz=>by rcases uF.1 hz with h9|h9;exact (hZo z h9).mono (fun c hc=>tZ _ hc);rw [tq.1 h9];exact hzo5.mono (fun c hc=>u6 _ hc),by rw [tK,hZl];rfl,by rw [tK];exact hso5⟩,rfl,by rw [tK]⟩)
   have ek:k=(CZ rs q).length:=by omega
   subst ek;rw [uQ]at hZx;refine Ar<|Zt<|Zt<|AO<|Zn [6] ?_;refine BB (e':=[]) (by exact ⟨Z,_,_,so,mm,⟨by unfold Ec;rw [if_pos hb3];exact hZx,hZo,hso,by omega⟩,rfl,rfl⟩)
  refine AC<|Zn [6] ?_;refine BB (e':=[]) (by exact ⟨[z0],g0,c0,so0,mem0,⟨by unfold Ec;rw [if_neg hb3,vM,hz0],fun z hz=>by rw [tq.1 hz];exact hzo0,hso0,by simp⟩,rfl,rfl⟩)
 rintro _ _ ⟨Z,g,c,so,mm,⟨hZx,hZo,hso,hZl⟩,rfl,rfl⟩;refine Zq<|KT (s1:=so) (s2:=mm) Wo Wo ?_;refine Zg<|Zl isAgg40 Y ?_;refine Za Y<|Za Y<|Z0<|Zx<|A9 ?_;refine Da rfl results15 Y Y (by exact ⟨.slice g Z.length c,so++mm,rfl,by rw [←hZx];exact iC hso (by omega) hZo,rfl⟩)
theorem jL{sp:Nat}{s:List AR}(q:QM)(hq:¬BP q):Av Tryz.prog 15 #[I5 sp,.agg #[I4 q.kd,I4 q.tb,I4 q.cl,I4 q.lo,I4 q.hi,I4 q.bq,I4 q.ot]] [] (.tuple #[.slice none 0 0,I4 50]):=by
 refine Se func15 ntmps15 [0,1] ?_;intro u R;refine Zq<|Zg<|Ze (Bx #[_]) ?_;rintro _ _ ⟨bs,rfl,rfl⟩;refine Ze (Bx #[I4 q.kd,I4 q.tb,I4 q.cl,I4 q.lo,I4 q.hi,I4 q.bq,I4 q.ot]) ?_;rintro _ _ ⟨bq,rfl,rfl⟩;refine Za Y<|Za Y<|Z0<|Zx<|Zq<|AQ<|Zq<|Zg<|Zl isAgg33 Y ?_;refine Zv (F7 underlying33 Y Y)<|Za Y<|Z0<|Zx ?_;refine Af Y (fun hb0=>?_) (fun hb0=>?_)
 ·
  cases hb0
 refine Zq<|Zg<|Zo Wh (Pa #[_,_,_,_,_,_,_] isAgg30 sizeOf30 Y) ?_;refine Xr [_] Y call49 Y rfl (LY q) ?_;refine Zv (CB Y)<|Za Y<|Z0<|Zx ?_;refine Af Y (fun hb1=>?_) (fun hb1=>?_)
 ·
  refine Zq<|Zg<|Za Y<|Za Y<|Z0<|Zn [4,5] ?_;refine Zx<|A9<|AY<|Zt ?_;refine Da rfl results15 Y Y (by exact ⟨rfl,rfl⟩)
 exfalso;simp [hq]at hb1
set_option maxHeartbeats 1000000 in
theorem iJ{M:List AR}{p9:Option Addr}{cap9:Nat}{x:RP}{L:List RP}(hL:Gs M (.slice p9 (L.length+1) cap9) (x::L))(hcomp:Fu x){t c lo hi:Int}(hsc:x.scan=(t,c,lo,hi))(br:Nat):CO Tryz.prog 71 #[I5 br,.agg #[I4 t,I4 c,I4 lo,I4 hi]] [[(br,.cells #[.slice p9 (L.length+1) cap9] 133 (0,0))],M] (fun r H'=>∃sr,BX 5 113 r (ED x).length (Ac (ED x)) sr∧H'=[sr,[(br,.cells #[.slice (ER p9 1 cap9 9) L.length (cap9 -1)] 133 (0,0))],M]):=by
 have hml:=mL;obtain ⟨p8,cap8,e9,hl9,hlc9⟩:=hL.form;injection e9 with e91 e92 e93
 subst e91 e93;rw [tY]at hl9 hlc9;obtain ⟨z,hzx,hzo,g,off,cur,T,zz,rfl,hm9,hsz9,hex9⟩:=hL.at (i:=0) rfl;subst hzx;unfold RP.scan at hsc;injection hsc with hd1 hsc
 injection hsc with hd2 hsc
 injection hsc with hd3 hd4
 refine Se func71 ntmps71 [0,1] ?_;intro u R;refine Zq<|Zg<|Ze (Bx #[_,_,_,_]) ?_;rintro _ _ ⟨bx,rfl,rfl⟩;refine Za Y<|Z0<|Zx<|Zq<|Zg<|Zm Y<|Zp Y rfl<|Zh 0 underlying133 rfl rfl sizeOf40 Y<|Zl isAgg40 Y ?_;refine Zv (AV underlying40 Y)<|Zv (DJ (n:=0) Y Y) ?_;rw [decide_eq_true (show(0:Nat)<L.length+1 by omega)];refine Xr [_] Y call70 Y rfl (Jt) ?_;refine Z0<|Zx<|Zq<|Zg<|Zm Y<|Zp Y rfl<|Zh 0 underlying133 rfl rfl sizeOf40 Y<|Zl isAgg40 Y ?_;refine BM (AU (j:=0) underlying40 sizeOf49 Y Y (by first|omega|decide|(simp;done))) ?_;refine Cf (cs:=[(g,.cells cur T zz)]) (by simp [hm9]) (AX (cs:=#[I4 z.x.tb,I4 z.x.cl,I4 z.x.lo,I4 z.x.hi,I4 z.x.ct,I4 z.x.fi,.slice z.qr z.x.rows.length z.cr,.slice z.qp z.x.paths.length z.cp,.slice z.qt z.x.roots.length z.ct]) isAgg49 sizeOf49 Y (by omega) hex9) rfl rfl ?_;refine Ze (Al zeroValue49 #[_,_,_,_,_,_,_,_,_]) ?_;rintro _ _ ⟨bp,rfl,rfl⟩;refine Xe (Xw sizeOf49 #[I4 z.x.tb,I4 z.x.cl,I4 z.x.lo,I4 z.x.hi,I4 z.x.ct,I4 z.x.fi,.slice z.qr z.x.rows.length z.cr,.slice z.qp z.x.paths.length z.cp,.slice z.qt z.x.roots.length z.ct]) ?_;refine Z0<|Zn [0,3,5] ?_;refine Zx<|Zq<|Zg<|Zm Y<|Zm Y<|Zp Y rfl<|Zh 0 underlying133 rfl rfl sizeOf40 Y<|Zl isAgg40 Y ?_;refine BM (Bz (l:=1) underlying40 sizeOf49 Y Y (by first|omega|decide|(simp;done))) ?_;refine Zp Y rfl<|Zh 0 underlying133 rfl rfl sizeOf40 Y<|Xe (Zs sizeOf40 Y Y rfl (hi:=by first|omega|decide|(simp;done))) ?_;refine Z0<|Zx<|Zq<|Zg<|Zh 0 underlying49 rfl rfl sizeOf3 Y<|Zl isAgg3 Y (hv:=by exact (rfl:_=some (Value.int .i64 z.x.tb))) ?_;refine Zh 1 underlying49 rfl rfl sizeOf3 Y<|Zl isAgg3 Y (hv:=by exact (rfl:_=some (Value.int .i64 z.x.cl))) ?_;refine Zh 2 underlying49 rfl rfl sizeOf3 Y<|Zl isAgg3 Y (hv:=by exact (rfl:_=some (Value.int .i64 z.x.lo))) ?_;refine Zh 3 underlying49 rfl rfl sizeOf3 Y<|Zl isAgg3 Y (hv:=by exact (rfl:_=some (Value.int .i64 z.x.hi))) ?_
 refine Zv (BK (vs:=[(0,I4 z.x.tb),(1,I4 z.x.cl),(2,I4 z.x.lo),(3,I4 z.x.hi)]) (cs:=#[I4 z.x.tb,I4 z.x.cl,I4 z.x.lo,I4 z.x.hi]) Y (Aa (pl:=#[(0,1),(1,1),(2,1),(3,1)]) zeroValue106 underlying106 (fun _=>by kernel_rfl) (by kernel_rfl))) ?_;refine Zo Wh (Pa #[I4 t,I4 c,I4 lo,I4 hi] isAgg106 sizeOf106 Y) ?_;refine Zv (Vq (by kernel_rfl) underlying106 (by kernel_rfl) (by decide) (by decide) (by decide) (by decide) underlying3 isAgg3 Y Y) ?_;rw [decide_eq_true (show z.x.tb=t∧z.x.cl=c∧z.x.lo=lo∧z.x.hi=hi from⟨hd1,hd2,hd3,hd4⟩)];refine Xr [_] Y call70 Y rfl (Jt) ?_;refine Z0<|Zn [5] ?_;refine Zx<|Zq<|Zg<|Zo Wh (Pa #[I4 z.x.tb,I4 z.x.cl,I4 z.x.lo,I4 z.x.hi,I4 z.x.ct,I4 z.x.fi,.slice z.qr z.x.rows.length z.cr,.slice z.qp z.x.paths.length z.cp,.slice z.qt z.x.roots.length z.ct] isAgg49 sizeOf49 Y) ?_;refine Zc [_] Y call37 Y rfl (oq hzo.rp hcomp rfl) ?_;rintro _ _ ⟨_,⟨vr,sr,rfl,hr9,rfl⟩,rfl⟩;obtain ⟨gr,c9,rfl⟩:=hr9.form;refine Zm Y<|Zd Y rfl<|Zd Y rfl<|Za Y<|Za Y<|Z0<|Zx<|Zq<|Zg<|Zm Y<|Xr [_] Y call70 Y rfl (Jt) ?_;refine Z0<|Zx<|Zq<|Zg<|Zm Y<|Za Y<|Z0<|Zx<|A9 ?_;refine AB rfl results71 Y (by exact ⟨sr,hr9,rfl⟩)
theorem N8{x:RP}(h:Fu x):(ED x).length≤2000∧∀r∈ED x,r.ok:=by
 have h1:=h.ct;have h2:=h.fi
 have h3:=h.n;rw [XY h];refine ⟨by have:=wG (inB x) x.rows;omega,fun r hr=>?_⟩;obtain ⟨j,hj⟩:=uV (vW.1 hr).1;exact (h.all j r hj).1.1
theorem YW{α:Type}{l:List α}{k:Nat}{x:α}(h:l[k]?=some x):l.drop k=x::l.drop (k+1):=by
 obtain ⟨h1,rfl⟩:=tH.1 h;exact vB h1
set_option maxHeartbeats 1000000 in
theorem lZ{M:List AR}{v:Value}{L:List RP}(hL:Gs M v L)(q:QM){r:CG}(hr:FY q L=some r):CO Tryz.prog 23 #[.agg #[I4 q.kd,I4 q.tb,I4 q.cl,I4 q.lo,I4 q.hi,I4 q.bq,I4 q.ot],v] [M] (fun w H'=>∃rv sr,w= .tuple #[.agg #[rv,I4 r.val,.bool r.fnd],.bool true]∧BX 5 113 rv r.rows.length (Ac r.rows) sr∧H'=[sr,M]):=by
 have hml:=mL;obtain ⟨x,L2,rfl,hq,hsc,hcomp,hl100,hcase⟩:=Ob hr;obtain ⟨pv,cv,rfl,_⟩:=hL.form;rw [tY]at hL;rw [tY];have hT:=hL.tail
 rw [vk]at hT;have hq5:0≤q.bq∧q.bq≤3:=by have:=hq.2.2.2;omega
 refine G5 func23 rfl ntmps23 rfl ?_;intro u R;refine Zb [0,1] ?_;refine Zq<|Zg<|Ze (Bx #[I4 q.kd,I4 q.tb,I4 q.cl,I4 q.lo,I4 q.hi,I4 q.bq,I4 q.ot]) ?_;rintro _ _ ⟨bq,rfl,rfl⟩;refine Ze (Al zeroValue51 #[_,_,_]) ?_;rintro _ _ ⟨bo,rfl,rfl⟩;refine Ze (Al zeroValue4 #[_]) ?_;rintro _ _ ⟨bk,rfl,rfl⟩;refine Z0<|Zx<|Zq<|Zg<|Zv (Bt (vs:=[]) (us:=[_,_]) Y Y) ?_;refine dA rfl Y ?_;refine Z0<|Zx<|Zq<|Zg<|Xe (Zs sizeOf4 Y Y rfl (hi:=by first|omega|decide|(simp;done))) ?_;refine Z0<|Zx<|Zq<|Zg<|Y0 rfl Y ?_;refine Z0<|Zx<|Zq<|Zg<|Zo Wh (Pa #[_,_,_,_,_,_,_] isAgg30 sizeOf30 Y) ?_;refine Xr [_] Y call49 Y rfl (LY q) ?_;rw [decide_eq_true hq];refine Xr [_] Y call70 Y rfl (Jt) ?_;refine Z0<|Zx<|Zq<|Zg<|Zm Y<|Zv (BK (vs:=[(0,_)]) (cs:=#[_]) Y (Aa (pl:=#[(0,1)]) zeroValue133 underlying133 (fun _=>by kernel_rfl) rfl)) ?_;refine Ze (Bx #[_]) ?_;rintro _ _ ⟨br,rfl,rfl⟩;refine Za Y<|Z0<|Zn [2,4,5,6] ?_;refine Zx<|Zq<|Zg<|Zm Y<|Zo Wh (Pa #[_,_,_,_,_,_,_] isAgg30 sizeOf30 Y) ?_;refine Xr [_] Y call52 Y rfl (qi q hq) ?_;refine Zc [_,_] Y call71 Y rfl (iJ hL hcomp hsc br) ?_;rintro _ _ ⟨_,⟨sr,hsr,rfl⟩,rfl⟩;obtain ⟨gr,cr9,rfl⟩:=hsr.form;have hUr:=Dv hsr (by omega)
 obtain ⟨p7,cap7,e7,⟨hl7,hlc7⟩,hgr⟩:=id hUr;injection e7 with e71 e72 e73
 subst e71 e73;refine Za Y<|Z0<|Zx<|Zq<|Zg<|Zm Y<|Zv (AV underlying45 Y)<|Zv (bg (n:=100) Y Y) ?_;rw [decide_eq_true (show(ED x).length≤100 by omega)];refine Xr [_] Y call70 Y rfl (Jt) ?_;refine Z0<|Zx<|Zq<|Bd ?_;refine Zg<|Za Y<|Z0<|Zx<|Zb [8,2,4,5,6,7] ?_;refine CW (e0:=[(8,_)]) (H0:=[[(br,.cells #[_] 133 (0,0))],[]]) (fun e H=>∃(o:List AP) (vo:Value) (so:List AR) (pr:Option Addr) (cr:Nat),(r=FE q (ED x) o∧BX 5 113 vo o.length (Ac o) so∧o.length≤200000)∧e=[(8,vo)]∧H=[[(br,.cells #[.slice pr 0 cr] 133 (0,0))],so]) Wp ?hx_1 ?hy_1
 case hx_1=>
  refine Zq<|Zg<|Zh 0 underlying30 rfl rfl sizeOf3 Y<|Zl isAgg3 Y ?_;refine Zv (CF Y Y)<|Z0<|Zx ?_;refine Ao Y (fun hb3=>?_) (fun hb3=>?_)
  ·
   obtain ⟨oall,hall,hrj0⟩:∃o,EX q (ED x) L2=some (o,[])∧r=FE q (ED x) o:=by rcases hcase with⟨h9,_⟩|⟨_,h9⟩;exact absurd hb3 h9;exact h9
   refine Zq<|Zg<|Zm Y<|Zv (AV underlying45 Y)<|Zm Y<|Z0<|Zx<|AQ<|Zb [8,31,2,4,5,6,7,29,30] ?_;refine Az (e0:=[(8,_),(31,_)]) (fun m e H=>∃(k:Nat) (o:List AP) (l9:List RP) (vo:Value) (so:List AR) (pr:Option Addr) (cr:Nat),m=(ED x).length -k∧(k≤(ED x).length∧EX q ((ED x).take k) L2=some (o,l9)∧BX 5 113 vo o.length (Ac o) so∧Gs M (.slice pr l9.length cr) l9∧o.length≤2000*k)∧e=[(8,vo),(31,I4 (k:Int))]∧H=[[(br,.cells #[.slice pr l9.length cr] 133 (0,0))],so]) (by exact ⟨0,[],L2,.slice none 0 0,[],_,_,rfl,⟨tX _,rfl,BV 5 _,hT,tX _⟩,rfl,rfl⟩) Wp ?_;rintro _ _ _ ⟨k,o,l9,vo,so,pr,cr,rfl,⟨hk,hrd,hso,hPk,hok⟩,rfl,rfl⟩;obtain ⟨go,co,rfl⟩:=hso.form;refine Zq<|Zg<|Zv (Aq Y Y)<|Z0<|Zx<|Zq ?_;refine Ao Y (fun hlt=>?_) (fun hlt=>?_)
   ·
    obtain ⟨r9,hr9⟩:∃r9,(ED x)[k]?=some r9:=⟨_,tF hlt⟩;obtain ⟨g,off,cur,T,zz,rfl,hm9,hsz9,hex9⟩:=hgr k r9 hr9;obtain ⟨o8,l8,h81,o9,h82,_⟩:=NB (ED x) k L2 (oall,[]) (by omega) hall;rw [hrd]at h81;injection h81 with h81
    injection h81 with h83 h84
    subst h83 h84;rw [YW hr9]at h82;obtain ⟨a9,c9,h85,_,_⟩:=Kj h82;obtain ⟨x2,hl2,hsc2,hcomp2,ha2⟩:=QC h85;have hlen2:=(N8 hcomp2).1
    have hsn:=Oi (ED x) k r9 L2 _ _ a9 hr9 hrd h85;rw [hl2,tY];rw [hl2,tY]at hPk;refine AC<|Zx<|Zq<|AQ<|Zq<|Zg ?_;refine BM (AU underlying45 sizeOf113 Y Y (by first|omega|decide|(simp;done))) ?_;refine Cf (cs:=[(g,.cells cur T zz)]) (by simp [hm9]) (AX (cs:=#[I4 r9.t,I4 r9.k,I4 r9.v.a,I4 r9.v.b,I4 r9.v.c]) isAgg113 sizeOf113 Y (by omega) hex9) rfl rfl ?_;refine Ze (Al zeroValue113 #[_,_,_,_,_]) ?_;rintro _ _ ⟨bx,rfl,rfl⟩;refine Xe (Xw sizeOf113 #[I4 r9.t,I4 r9.k,I4 r9.v.a,I4 r9.v.b,I4 r9.v.c]) ?_;refine Z0<|Zx<|Zg<|Zm Y<|Zm Y<|Zo Wh (Pa #[_,_,_,_,_,_,_] isAgg30 sizeOf30 Y) ?_;refine Zo Wh (Pa #[_,_,_,_,_] isAgg113 sizeOf113 Y) ?_;refine Xr [_,_] Y call54 Y rfl (QO q hq5 r9) ?_;refine Zc [_,_] Y call71 Y rfl (iJ hPk hcomp2 hsc2 br) ?_;rintro _ _ ⟨_,⟨s5,h5,rfl⟩,rfl⟩;rw [←ha2]at h5;obtain ⟨g5,c5,rfl⟩:=h5.form;refine Ze (BR (by_:=40) (sz:=5) underlying45 (rfl:Tryz.prog.info? 113=some Tryz.t113) rfl rfl rfl rfl Y (hso) Y (U4 h5) Wo Wo (by exact CL _) (by rw [ha2];omega) (by rw [ha2];omega)) ?_;rintro _ _ ⟨sa9,hra9,rfl⟩;obtain ⟨ga9,ca9,rfl⟩:=hra9.form;refine Za Y<|Z0<|Zn [2,4,5,6,7,8,29,30,31] ?_;refine A8<|Zx<|Zg<|Ya (n:=1) Y Y<|Zm Y<|Z0<|Zn [8,31,2,4,5,6,7,29,30] ?_;refine Ab (e':=[(8,_),(31,_)]) (by exact ⟨k+1,o++a9.1,a9.2,_,_,_,_,rfl,⟨by omega,hsn,BO hra9 (by rw [tK]) (by rw [BZ]),hPk.tail,by rw [tK,ha2];omega⟩,rfl,rfl⟩)
   have ek:k=(ED x).length:=by omega
   subst ek;rw [uQ,hall]at hrd;injection hrd with hrd
   injection hrd with hrd1 hrd2
   subst hrd1 hrd2;have hrj:=hrj0
   refine Ar<|Zt<|Zt<|AO<|Zn [8,2,4,5,6,7] ?_;refine BB (e':=[(8,_)]) (by exact ⟨oall,.slice go oall.length co,so,pr,cr,⟨hrj0,hso,by omega⟩,rfl,rfl⟩)
  obtain ⟨hL2,hrn⟩:L2=[]∧r=FE q (ED x) []:=by rcases hcase with⟨_,h9⟩|⟨h9,_⟩;exact h9;exact absurd h9 hb3
  subst hL2;refine AC<|Zn [8,2,4,5,6,7] ?_;refine BB (e':=[(8,_)]) (by exact ⟨[],.slice none 0 0,[],ER pv 1 cv 9,cv -1,⟨hrn,BV 5 _,tX _⟩,rfl,rfl⟩)
 rintro _ _ ⟨o,vo,so,pr,cr,⟨hr8,hso,hol⟩,rfl,rfl⟩;obtain ⟨go,co,rfl⟩:=hso.form;have hUo:=Dv hso (by omega)
 refine Zq<|Zg<|Zm Y<|Zp Y rfl<|Zh 0 underlying133 rfl rfl sizeOf40 Y<|Zl isAgg40 Y ?_;refine Zv (AV underlying40 Y)<|Zv (C8 (n:=0) Y Y) ?_;rw [decide_eq_true (show(0:Nat)=0 from rfl)];refine Xr [_] Y call70 Y rfl (Jt) ?_;refine Z0<|Zx<|Zq<|Zg<|Zo Wh (Pa #[_,_,_,_,_,_,_] isAgg30 sizeOf30 Y) ?_;refine Zm Y<|Zm Y<|Zc [_,_,_] Y call72 Y rfl (jm hUr hUo q (by omega) (fun _ r hr=>U0 ((N8 hcomp).2 r hr) q.bq)) ?_;rintro _ _ ⟨_,⟨rv3,s3,rfl,h3,rfl⟩,rfl⟩;rw [NS hq,←hr8]at h3⊢;obtain ⟨p3,c3,rfl⟩:=h3.form;refine Xe (Xw sizeOf51 #[.slice p3 r.rows.length c3,I4 r.val,.bool r.fnd]) ?_;refine Xe (Zs sizeOf4 Y Y rfl (hi:=by first|omega|decide|(simp;done))) ?_;refine Z0<|Zn [4,5] ?_;refine Zx<|A9<|jD rfl rfl call69 (nU _) rfl call68 (oU bk _) Wp ?_;rintro _ rfl;refine ⟨_,[s3,M],fun a w hf hs=>RV results23 ((Bu a _ hf 4).trans rfl) (Ah isAgg51 sizeOf51 (by first|decide|exact tQ _|(simp;done)) (cs:=#[.slice p3 r.rows.length c3,I4 r.val,.bool r.fnd]) (Au rfl) w (WQ (b:=bo) Wh hs)) ((Bu a _ hf 5).trans rfl) (WA isAgg4 (v:= .bool true) (i:=0) rfl w (WQ (b:=bk) Wh hs)),⟨_,s3,rfl,h3,rfl⟩,Sub.amid (by repeat(first|exact Sub.refl _|exact Sub.nil _|(apply Sub.cons;(focus (repeat(first|exact One.here _ _|apply One.there))))|refine Sub.drop _ ?_))⟩
end Go.Proofs.YtkdgffcfmgmemaaGreatDoor
