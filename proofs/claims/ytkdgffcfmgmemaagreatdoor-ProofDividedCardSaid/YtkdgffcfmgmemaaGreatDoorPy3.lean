/- logtree.Next, Follows. -/
/- proof.Make, for all queries. -/
/- proof.Start on any proofs of which something follows. -/
import Derived.Test.YtkdgffcfmgmemaaGreatDoorEz
import Derived.Test.YtkdgffcfmgmemaaGreatDoorPy4
import Derived.Test.YtkdgffcfmgmemaaGreatDoorPy1
set_option linter.unusedVariables false
set_option linter.unusedSimpArgs false
namespace Go.Proofs.YtkdgffcfmgmemaaGreatDoor
open Go.Proofs.Tryz
open Go Go.RowKit Gw
set_option maxRecDepth 100000
attribute [local irreducible] Gw.At Gw.Nx Gw.Ops
def FX(h:Cw)(r:Bq)(st:Bs):Prop:=EY r.p r.cs∧h.ok∧st.length=32∧r.p=h.p+1
noncomputable instance(h:Cw)(r:Bq)(st:Bs):Decidable (FX h r st):=Classical.propDecidable _
def GR(h:Cw)(r:Bq)(st:Bs):Cw:=⟨r.p,Ms h.ch (Ka r.p r.cs),st⟩
noncomputable def JC(h:Cw)(r:Bq)(st:Bs):Cw×Int:=if FX h r st then(GR h r st,0)else(⟨0,[],[]⟩,90)
noncomputable def IU(st:Bs):Cw→List Bq→Option Cw
 |h,[]=>some h
 |h,r::l=>if FX h r st then IU st (GR h r st) l else none
def JK(a:Cw)(l:List Bq)(b:Cw):Prop:=a.ok∧b.ok∧IU b.st a l=some b
noncomputable instance(a:Cw)(l:List Bq)(b:Cw):Decidable (JK a l b):=Classical.propDecidable _
theorem O1(st:Bs):∀(l l2:List Bq) (h:Cw),IU st h (l++l2)=(IU st h l).bind fun h'=>IU st h' l2
 |[],_,_=>rfl
 |r::l,l2,h=>by
  show(if FX h r st then IU st (GR h r st) (l++l2)else none)=(if FX h r st then IU st (GR h r st) l else none).bind _;split
  · exact O1 st l l2 _
  · rfl
theorem MR{st:Bs}{a h:Cw}{l:List Bq}{i:Nat}{r:Bq}(hw:IU st a (l.take i)=some h)(hr:l[i]?=some r):IU st a (l.take (i+1))=if FX h r st then some (GR h r st)else none:=by
 rw [Bu hr,O1,hw];rfl
theorem XY{st:Bs}{a:Cw}{l:List Bq}{i:Nat}(h:IU st a (l.take i)=none):IU st a l=none:=by
 rw [←uw i l,O1,h];rfl
noncomputable def fK(p:Int)(cs:List Chg):Bs×Int:=if EY p cs then(Ka p cs,0)else([],30)
theorem UO(p:Int)(q:Option Addr)(cap:Nat)(cs:List Chg)(M:List AU)(hO:Dm M (.slice q cs.length cap) cs)(hok:¬EY p cs):Az Tryz.prog 222 #[.agg #[I4 p,.slice q cs.length cap]] [M] (.tuple #[.string (str []),I4 30]):=by
 refine Se func222 ntmps222 [0] ?_;intro u R;refine Zq<|Zg<|Ze (Bx #[_,_]) ?_;rintro _ _ ⟨b1,rfl,rfl⟩;refine Za Y<|Za Y<|Z0<|Zx<|Zq<|Zq<|Zg<|Zo Wh (Pa #[_,_] isAgg73 sizeOf73 Y) ?_;refine Xr [_] Y call205 Y rfl (OA p q cap cs M hO) ?_;rw [decide_eq_false hok];refine Zv (Cg Y)<|Z0<|Zx ?_;refine Ag Y (fun hv=>?_) (fun hv=>?_)
 ·
  refine Zq<|Zg<|Za Y<|Za Y<|Z0<|Zx<|AA<|Zt ?_;refine Dh rfl results222 Y Y (by exact ⟨rfl,rfl⟩)
 cases hv
theorem fJ(p:Int)(q:Option Addr)(cap:Nat)(cs:List Chg)(M:List AU)(hO:Dm M (.slice q cs.length cap) cs):Az Tryz.prog 222 #[.agg #[I4 p,.slice q cs.length cap]] [M] (.tuple #[.string (str (fK p cs).1),I4 (fK p cs).2]):=by
 unfold fK;split
 · rename_i h;exact bL p q cap cs M hO h
 · rename_i h;exact UO p q cap cs M hO h
theorem qC(h:Cw)(r:Bq)(st:List UInt8){M:List AU}(hO:Dm M (.slice r.q r.cs.length r.cap) r.cs)(Tg:TypeId)(zg:Nat×Nat):Az Tryz.prog 150 #[.agg #[I4 h.p,.string (str h.ch),.string (str h.st)],.agg #[I4 r.p,.slice r.q r.cs.length r.cap],.string (str st)] [M,[(1,.cells (DC.map Bp).toArray Tg zg)]] (.tuple #[.agg #[I4 (JC h r st).1.p,.string (str (JC h r st).1.ch),.string (str (JC h r st).1.st)],I4 (JC h r st).2]):=by
 have hml:=mL;refine Se func150 ntmps150 [0,1,2] ?_;intro u R;refine Zq<|Zg<|Ze (Bx #[_,_,_]) ?_;rintro _ _ ⟨b1,rfl,rfl⟩;refine Ze (Bx #[_,_]) ?_;rintro _ _ ⟨b2,rfl,rfl⟩;refine Ze (Al zeroValue67 #[_,_,_]) ?_;rintro _ _ ⟨b3,rfl,rfl⟩;refine Za Y<|Z0<|Zx<|Zq<|Zg<|Zo Wh (Pa #[_,_] isAgg73 sizeOf73 Y) ?_;refine Xr [_] Y call222 Y rfl (fJ r.p r.q r.cap r.cs M hO) ?_;refine Zm Y<|Zd Y rfl<|Zd Y rfl<|Za Y<|Za Y<|Z0<|Zx<|Zq<|Zq<|Zg<|Zm Y<|Zv (IX Y Y)<|Zm Y ?_;refine Aj (t:=17) Y rfl (fun h1=>?_) (fun h1=>?_)
 ·
  have hno:¬FX h r st:=fun h9=>by unfold fK at h1;rw [if_pos h9.1]at h1;exact h1 rfl
  refine A7 Y rfl<|A7 Y rfl<|A7 Y rfl<|Zv (AO Y Y)<|Zm Y<|A7 Y rfl<|A7 Y rfl<|A7 Y rfl<|Zv (AO Y Y)<|Zm Y<|A7 Y rfl<|A7 Y rfl<|A7 Y rfl<|A7 Y rfl<|A7 Y rfl<|A7 Y rfl<|Zv (AO Y Y)<|Z0<|Zn [2,3,4,6,8,34] ?_;refine Zx<|CP Y<|Zq<|Zg<|Zv (BL (vs:=[]) (cs:=#[_,_,_]) Y (Ab (pl:=#[(0,1),(1,1),(2,1)]) zeroValue67 underlying67 (fun _=>by kernel_rfl) rfl)) ?_;refine Xe (BQ sizeOf67 Y Y (by(simp [Value.oneCell'];done)) Wu (by exact Dc rfl) (by first|rfl|(simp;done)) Wb (by exact BS _)) ?_;refine Za Y<|Z0<|Zx<|AA<|Zt ?_;refine Be rfl results150 Y Wh (Ah isAgg67 sizeOf67 Wn (Ay rfl)) Y (by exact ⟨by unfold JC;rw [if_neg hno];rfl,rfl⟩)
 have hok:EY r.p r.cs:=uS.1 fun h9=>by unfold fK at h1;rw [if_neg h9]at h1;exact h1 (by decide)
 have hel:=RU hok;have hce:fK r.p r.cs=(Ka r.p r.cs,0):=if_pos hok
 refine D8 Y Wh (Pa #[_,_,_] isAgg67 sizeOf67 Y) rfl rfl ?_;refine Xr [_] Y call149 Y rfl (Qz h.p h.ch h.st) ?_;refine Yg (CL Y)<|Zv (AC Y Y)<|Zm Y ?_;refine Aj (t:=22) Y rfl (fun h2=>?_) (fun h2=>?_)
 ·
  have hno:¬FX h r st:=fun h9=>h2 h9.2.1;refine A7 Y rfl<|A7 Y rfl<|A7 Y rfl<|Zv (AO Y Y)<|Zm Y<|A7 Y rfl<|A7 Y rfl<|A7 Y rfl<|A7 Y rfl<|A7 Y rfl<|A7 Y rfl<|Zv (AO Y Y)<|Z0<|Zn [2,3,4,6,8,34] ?_;refine Zx<|CP Y<|Zq<|Zg<|Zv (BL (vs:=[]) (cs:=#[_,_,_]) Y (Ab (pl:=#[(0,1),(1,1),(2,1)]) zeroValue67 underlying67 (fun _=>by kernel_rfl) rfl)) ?_;refine Xe (BQ sizeOf67 Y Y (by(simp [Value.oneCell'];done)) Wu (by exact Dc rfl) (by first|rfl|(simp;done)) Wb (by exact BS _)) ?_;refine Za Y<|Z0<|Zx<|AA<|Zt ?_;refine Be rfl results150 Y Wh (Ah isAgg67 sizeOf67 Wn (Ay rfl)) Y (by exact ⟨by unfold JC;rw [if_neg hno];rfl,rfl⟩)
 have h2:=uS.1 h2;have h21:=h2.1
 refine Zf Y Y<|Xr [_] Y call98 Y rfl (YL st) ?_;refine Yg (CL Y)<|Zv (AC Y Y)<|Zm Y ?_;refine Aj (t:=27) Y rfl (fun h3=>?_) (fun h3=>?_)
 ·
  have hno:¬FX h r st:=fun h9=>h3 h9.2.2.1;refine A7 Y rfl<|A7 Y rfl<|A7 Y rfl<|A7 Y rfl<|A7 Y rfl<|A7 Y rfl<|Zv (AO Y Y)<|Z0<|Zn [2,3,4,6,8,34] ?_;refine Zx<|CP Y<|Zq<|Zg<|Zv (BL (vs:=[]) (cs:=#[_,_,_]) Y (Ab (pl:=#[(0,1),(1,1),(2,1)]) zeroValue67 underlying67 (fun _=>by kernel_rfl) rfl)) ?_;refine Xe (BQ sizeOf67 Y Y (by(simp [Value.oneCell'];done)) Wu (by exact Dc rfl) (by first|rfl|(simp;done)) Wb (by exact BS _)) ?_;refine Za Y<|Z0<|Zx<|AA<|Zt ?_;refine Be rfl results150 Y Wh (Ah isAgg67 sizeOf67 Wn (Ay rfl)) Y (by exact ⟨by unfold JC;rw [if_neg hno];rfl,rfl⟩)
 have h3:=uS.1 h3;refine Yf 0 underlying73 rfl rfl sizeOf3 Y<|Yl isAgg3 Y ?_;refine Yf 0 underlying67 rfl rfl sizeOf3 Y<|Yl isAgg3 Y ?_
 (refine Fg Y (JX Y Y (IntWalk.i64_in _ ?_)) rfl rfl ?_;(focus (omega)))
 refine Yg (IX Y Y)<|Zv (AC Y Y)<|Z0<|Zn [2,3,4,6,8,34] ?_;refine Zx ?_;refine Aq Y (fun h4=>?_) (fun h4=>?_)
 ·
  have hno:¬FX h r st:=fun h9=>h4 h9.2.2.2;refine Zq<|Zg<|Zv (BL (vs:=[]) (cs:=#[_,_,_]) Y (Ab (pl:=#[(0,1),(1,1),(2,1)]) zeroValue67 underlying67 (fun _=>by kernel_rfl) rfl)) ?_;refine Xe (BQ sizeOf67 Y Y (by(simp [Value.oneCell'];done)) Wu (by exact Dc rfl) (by first|rfl|(simp;done)) Wb (by exact BS _)) ?_;refine Za Y<|Z0<|Zx<|AA<|Zt ?_;refine Be rfl results150 Y Wh (Ah isAgg67 sizeOf67 Wn (Ay rfl)) Y (by exact ⟨by unfold JC;rw [if_neg hno];rfl,rfl⟩)
 have h5:FX h r st:=⟨hok,h2,h3,by omega⟩;rw [hce];refine AB<|Zx<|Zq<|BK (n:=10) (0::1::0::4::0::28::0::127::255::511::[]) 288 (by kernel_rfl) (by kernel_rfl) rfl ?_;refine Zi 1 0 rfl (AY (off:=0) underlying73 rfl rfl sizeOf3 Y)<|Zj 3 1 rfl isAgg3 Y ?_;refine Zi 7 2 rfl (AY (off:=1) underlying67 rfl rfl sizeOf9 Y)<|Zj 15 3 rfl isAgg9 Y ?_;refine Zi 31 4 rfl (AL Y)<|Zi 95 6 rfl (AL Y)<|Zz (l:=[5]) ?_;refine Zy 28 127 [3,1] [false,true] [(1,(_,_))] rfl Y rfl rfl rfl rfl (Zu [_,_] Y call223 Y rfl (Yx h.ch (Ka r.p r.cs) (by have:=h2.2.1;have:=hok.len;omega) Tg zg)) ?hk_5 (fun _ _ h=>h.elim) ?hl_5
 case hk_5=>
  rintro _ _ ⟨rfl,rfl⟩;refine ⟨Zk (Ad),?_⟩;refine Zi 255 7 rfl (BL (vs:=[(0,_),(1,_),(2,_)]) (cs:=#[_,_,_]) Y (Ab (pl:=#[(0,1),(1,1),(2,1)]) zeroValue67 underlying67 (fun _=>by kernel_rfl) rfl)) ?_;refine Yw 8 511 rfl (BQ sizeOf67 Y Y (by(simp [Value.oneCell',Value.cells];done)) Wu (by exact Dc rfl) (by first|rfl|(simp;done)) Wb (by exact BS _)) ?_;rintro _ _ ⟨rfl,rfl⟩;refine Zi 1023 9 rfl (Au Y)<|Ao ?_;refine Zx<|AA ?_;refine Be rfl results150 Y Wh (Ah isAgg67 sizeOf67 Wn (Ay rfl)) Y (by exact ⟨by unfold JC;rw [if_pos h5];rfl,rfl⟩)
 exact Ap
set_option maxHeartbeats 1000000 in
theorem eu(a b:Cw){M:List AU}{lv:Value}{l:List Bq}(hl:DW M lv l)(Tg:TypeId)(zg:Nat×Nat):Az Tryz.prog 76 #[.agg #[I4 a.p,.string (str a.ch),.string (str a.st)],lv,.agg #[I4 b.p,.string (str b.ch),.string (str b.st)]] [M,[(1,.cells (DC.map Bp).toArray Tg zg)]] (.bool (decide (JK a l b))):=by
 have hml:=mL;obtain ⟨pl,cl,rfl,⟨hll,hlc⟩,hg⟩:=id hl;refine Se func76 ntmps76 [0,1,2] ?_;intro u R;refine Zq<|Zg<|Ze (Bx #[_,_,_]) ?_;rintro _ _ ⟨ba,rfl,rfl⟩;refine Ze (Bx #[_,_,_]) ?_;rintro _ _ ⟨bb,rfl,rfl⟩;refine Za Y<|Z0<|Zx<|XO ?_;refine Zb [1,3,5] ?_;refine CU (e0:=[]) (H0:=[]) (fun e H=>(True)∧e=[(7,.bool (decide (a.ok∧b.ok)))]∧H=[]) Wp ?hx_1 ?hy_1
 case hx_1=>
  refine Zg<|Zo Wh (AZ (cs:=#[_,_,_]) isAgg67 sizeOf67 Y Wb (by exact Ay rfl)) ?_;refine Xr [_] Y call149 Y rfl (Qz a.p a.ch a.st) ?_;refine Zm Y ?_;refine Aj (t:=14) Y rfl (fun h1=>?_) (fun h1=>?_)
  ·
   refine D8 Y Wh (AZ (cs:=#[_,_,_]) isAgg67 sizeOf67 Y Wb (by exact Ay rfl)) rfl rfl ?_;refine Xr [_] Y call149 Y rfl (Qz b.p b.ch b.st) ?_;refine Zv (AO Y Y)<|Za Y<|Z0<|Zn [7,1,3,5] ?_;refine BA (e':=[(7,_)]) (by exact ⟨trivial,by(rw [show decide (a.ok∧b.ok)=decide b.ok from decide_eq_decide.2 ⟨fun h9=>h9.2,fun h9=>⟨h1,h9⟩⟩];rfl),rfl⟩)
  refine A7 Y rfl<|A7 Y rfl<|Zv (AC Y Y)<|Za Y<|Z0<|Zn [7,1,3,5] ?_;refine BA (e':=[(7,_)]) (by exact ⟨trivial,by(rw [decide_eq_false (show¬(a.ok∧b.ok) from fun h9=>h1 h9.1)]),rfl⟩)
 rintro _ _ ⟨_,rfl,rfl⟩;refine Zq<|XP<|Zx<|Zb [1,7,3,5] ?_;refine CU (e0:=[(1,_),(7,_)]) (H0:=[[(ba,.cells #[I4 a.p,.string (str a.ch),.string (str a.st)] 67 (0,0))]]) (fun e H=>∃(ok:Bool) (h:Cw),((ok=decide (a.ok∧b.ok)∧IU b.st a l=some h)∨(ok=false∧IU b.st a l=none))∧e=[(7,.bool ok)]∧H=[[(ba,.cells #[I4 h.p,.string (str h.ch),.string (str h.st)] 67 (0,0))]]) Wp ?hx_4 ?hy_4
 case hx_4=>
  refine Zq<|Zg<|Zm Y<|Zv (AV underlying28 Y)<|Zm Y<|Z0<|Zx<|AR<|Zb [7,20,3,5,18,19] ?_;refine BB (e0:=[(7,_),(20,_)]) (fun m e H=>∃(i:Nat) (h:Cw),m=l.length -i∧(i≤l.length∧IU b.st a (l.take i)=some h)∧e=[(7,.bool (decide (a.ok∧b.ok))),(20,I4 (i:Int))]∧H=[[(ba,.cells #[I4 h.p,.string (str h.ch),.string (str h.st)] 67 (0,0))]]) (by exact ⟨0,a,rfl,⟨uK _,by rw [vI];rfl⟩,rfl,rfl⟩) Wp ?_;rintro _ _ _ ⟨i,h,rfl,⟨hi,hw⟩,rfl,rfl⟩;refine Zq<|Zg<|Zv (Av Y Y)<|Z0<|Zx<|Zq ?_;refine Aq Y (fun hlt=>?_) (fun hlt=>?_)
  ·
   obtain ⟨r,hr⟩:∃r,l[i]?=some r:=⟨_,tq (by omega)⟩;obtain ⟨hu9,g,off,cur,T,zz,rfl,hm9,hsz9,hex9⟩:=hg i r hr;refine AB<|Zx<|Zq<|AR<|Zq<|Zg ?_;refine BO (Ac underlying28 sizeOf73 Y Y (by first|omega|decide|(simp;done))) ?_;refine Cm (cs:=[(g,.cells cur T zz)]) (by simp [hm9]) (AZ (cs:=#[I4 r.p,.slice r.q r.cs.length r.cap]) isAgg73 sizeOf73 Y (by omega) hex9) rfl rfl ?_;refine Ze (Al zeroValue73 #[_,_]) ?_;rintro _ _ ⟨br,rfl,rfl⟩;refine Xe (Xw sizeOf73 #[I4 r.p,.slice r.q r.cs.length r.cap]) ?_;refine Z0<|Zx<|Zq<|Zg<|Zo Wh (AZ (cs:=#[_,_,_]) isAgg67 sizeOf67 Y Wb (by exact Ay rfl)) ?_;refine Zo Wh (AZ (cs:=#[_,_]) isAgg73 sizeOf73 Y Wb (by exact Ay rfl)) ?_;refine Zh 2 underlying67 rfl rfl sizeOf9 Y<|Zl isAgg9 Y ?_;refine Xr [_,_,_] Y call150 Y rfl (qC h r b.st hu9 Tg zg) ?_;refine Zm Y<|Zd Y rfl<|Zd Y rfl<|Ze (Al zeroValue67 #[_,_,_]) ?_;rintro _ _ ⟨bn,rfl,rfl⟩;refine Xe (Xw sizeOf67 #[I4 (JC h r b.st).1.p,.string (str (JC h r b.st).1.ch),.string (str (JC h r b.st).1.st)]) ?_;refine Za Y<|Z0<|Zn [3,5,7,10,11,18,19,20] ?_;refine Zx<|Zq<|Zq<|Zg<|Zm Y<|Zv (IX Y Y)<|Z0<|Zx ?_;refine Aq Y (fun hne=>?_) (fun hne=>?_)
   ·
    have hn:¬FX h r b.st:=fun h9=>by unfold JC at hne;rw [if_pos h9]at hne;exact hne rfl
    have hw9:IU b.st a l=none:=XY (i:=i+1) (by rw [MR hw hr,if_neg hn]);refine Zq<|Zg<|Za Y<|Z0<|Zx<|Aw<|Zt<|Ar rfl<|Zt<|Zt<|AP<|Zn [7,3,5] ?_;refine BA (e':=[(7,_)]) (by exact ⟨_,h,.inr ⟨rfl,hw9⟩,rfl,rfl⟩)
   have hn:FX h r b.st:=uS.1 fun h9=>by unfold JC at hne;rw [if_neg h9]at hne;exact hne (by decide)
   have hnv:JC h r b.st=(GR h r b.st,0):=if_pos hn;rw [hnv];refine AB<|Zx<|Zg<|Zo Wh (AZ (cs:=#[_,_,_]) isAgg67 sizeOf67 Y Wb (by exact Ay rfl)) ?_;refine Xe (Xw sizeOf67 #[I4 (GR h r b.st).p,.string (str (GR h r b.st).ch),.string (str (GR h r b.st).st)]) ?_;refine Z0<|A8<|Zx<|Zg<|Ya (n:=1) Y Y<|Zm Y<|Z0<|Zn [7,20,3,5,18,19] ?_;refine Aa (e':=[(7,_),(20,_)]) (by exact ⟨i+1,GR h r b.st,rfl,⟨by omega,by rw [MR hw hr,if_pos hn]⟩,rfl,rfl⟩)
  have ei:i=l.length:=by omega
  subst ei;rw [ug]at hw;refine Aw<|Zt<|Zt<|AP<|Zn [7,3,5] ?_;refine BA (e':=[(7,_)]) (by exact ⟨_,h,.inl ⟨rfl,hw⟩,rfl,rfl⟩)
 rintro _ _ ⟨ok,h,hcs,rfl,rfl⟩;refine Zq<|Zg<|Zm Y<|Zm Y ?_;refine Ak (t:=37) Y rfl (fun h2=>?_) (fun h2=>?_)
 ·
  have hfin:h=b↔JK a l b:=by
   rcases hcs with⟨h3,h4⟩|⟨h3,h4⟩
   · rw [h2]at h3
     have h5:=of_decide_eq_true h3.symm;exact ⟨fun h9=>⟨h5.1,h5.2,by rw [h4,h9]⟩,fun h9=>by have h6:=h9.2.2;rw [h4]at h6;injection h6⟩
   · rw [h2]at h3;cases h3
  refine D8 Y Wh (AZ (cs:=#[_,_,_]) isAgg67 sizeOf67 Y Wb (by exact Ay rfl)) rfl rfl ?_;refine D8 Y Wh (AZ (cs:=#[_,_,_]) isAgg67 sizeOf67 Y Wb (by exact Ay rfl)) rfl rfl ?_;refine Yg (jE (by kernel_rfl) Y Y (eqH h b)) ?_;refine Zv (AO Y Y)<|Za Y<|Z0<|Zx<|AA<|KP ?_;refine AJ rfl results76 Y (by exact ⟨by exact Gg hfin,rfl⟩)
 have hfin:¬JK a l b:=fun h9=>by
  rcases hcs with⟨h3,h4⟩|⟨h3,h4⟩
  · rw [h2]at h3;exact of_decide_eq_false h3.symm ⟨h9.1,h9.2.1⟩
  · rw [h9.2.2]at h4;cases h4
 refine A7 Y rfl<|A7 Y rfl<|A7 Y rfl<|Zv (AC Y Y)<|Za Y<|Z0<|Zx<|AA<|KP ?_;refine AJ rfl results76 Y (by exact ⟨by exact congrArg Value.bool (decide_eq_false hfin).symm,rfl⟩)
theorem mo(v:Value)(p:Int)(rs:List AQ)(s:List AU)(hv:Nv v p rs s)(hs:BJ rs)(hn:rs.length≤2000)(hok:∀r∈rs,r.ok)(t c lo hi:Int)(ht:0≤t∧t≤3)(hc:0≤c∧c≤3)(hlh:lo≤hi)(Tg:TypeId)(zg:Nat×Nat):
 CQ Tryz.prog 51 #[v,I4 t,I4 c,I4 lo,I4 hi] [[(1,.cells (DC.map Bp).toArray Tg zg)],s] (fun r H'=>∃(z:RPZ) (mem:List AU),z.x=EQ rs t.toNat c.toNat lo hi∧z.ok mem∧r= .tuple #[.agg #[I4 z.x.tb,I4 z.x.cl,I4 z.x.lo,I4 z.x.hi,I4 z.x.ct,I4 z.x.fi,.slice z.qr z.x.rows.length z.cr,.slice z.qp z.x.paths.length z.cp,.slice z.qt z.x.roots.length z.ct],I4 0]∧H'=[mem,[(1,.cells (DC.map Bp).toArray Tg zg)],s]):=by
 have h:=Xz v p rs s hv hs hn hok t.toNat c.toNat (by omega) (by omega) lo hi hlh Tg zg;rw [show((t.toNat:Nat):Int)=t by omega,show((c.toNat:Nat):Int)=c by omega]at h;refine h.mono ?_;rintro r H' ⟨v',mem,rfl,hR,rfl⟩;obtain ⟨z,h1,h2,rfl⟩:=pR hR;exact ⟨z,mem,h1,h2,rfl,rfl⟩
theorem oK(Z:List RPZ):∀u∈Z.flatMap Gp,u.oneCell'=true:=by
 intro u hu;obtain ⟨z,_,h⟩:=xY.1 hu;unfold Gp at h;simp only [uV,wC,or_false]at h;rcases h with rfl|rfl|rfl|rfl|rfl|rfl|rfl|rfl|rfl<;>rfl
theorem qX(Z:List RPZ):(Z.flatMap Gp).length=Z.length*9:=by
 induction Z with
 |nil=>rfl
 |cons z Z ih=>rw [vE,u6,ih,uJ];show 9+_=_;omega
theorem Qc(q:QM)(hb:0≤q.bq∧q.bq≤3)(r:AQ):Az Tryz.prog 54 #[.agg #[I4 q.kd,I4 q.tb,I4 q.cl,I4 q.lo,I4 q.hi,I4 q.bq,I4 q.ot],.agg #[I4 r.t,I4 r.k,I4 r.v.a,I4 r.v.b,I4 r.v.c]] [] (.agg #[I4 q.ot,I4 0,I4 (Bg r q.bq),I4 (Bg r q.bq)]):=by
 refine Se func54 ntmps54 [0,1] ?_;intro u R;refine Zq<|Zg<|Ze (Bx #[I4 q.kd,I4 q.tb,I4 q.cl,I4 q.lo,I4 q.hi,I4 q.bq,I4 q.ot]) ?_;rintro _ _ ⟨bq,rfl,rfl⟩;refine Ze (Bx #[_,_,_,_,_]) ?_;rintro _ _ ⟨br,rfl,rfl⟩;refine Ze (Al zeroValue106 #[_,_,_,_]) ?_;rintro _ _ ⟨bo,rfl,rfl⟩;refine Z0<|Zx<|Zq<|Zg<|Zo Wh (AZ (cs:=#[_,_,_,_,_]) isAgg113 sizeOf113 Y Wb (by exact Ay rfl)) ?_;refine Zh 5 underlying30 rfl rfl sizeOf3 Y<|Zl isAgg3 Y ?_;refine Xr [_,_] Y call97 Y rfl (FZ r q.bq hb) ?_;refine Za Y<|Z0<|Zx<|Zq<|Zg<|Zh 6 underlying30 rfl rfl sizeOf3 Y<|Zl isAgg3 Y ?_;refine Zm Y<|Zm Y<|Zv (BL (vs:=[(0,_),(1,_),(2,_),(3,_)]) (cs:=#[_,_,_,_]) Y (Ab (pl:=#[(0,1),(1,1),(2,1),(3,1)]) zeroValue106 underlying106 (fun _=>by kernel_rfl) rfl)) ?_;refine Xe (BQ sizeOf106 Y Y (by(simp [Value.oneCell',Value.cells];done)) Wu (by exact Dc rfl) (by first|rfl|(simp;done)) Wb (by exact BS _)) ?_;refine Z0<|Zn [4] ?_;refine Zx<|AA ?_;refine DK rfl results54 Y Wh (Ah isAgg106 sizeOf106 Wn (Ay rfl)) (by exact ⟨rfl,rfl⟩)
theorem oN(v:Value)(p:Int)(rs:List AQ)(s:List AU)(hv:Nv v p rs s)(hs:BJ rs)(hn:rs.length≤2000)(hok:∀r∈rs,r.ok)(t c0 lo hi:Int)(ht:0≤t∧t≤3)(hc:0≤c0∧c0≤3)(hlh:lo≤hi)(Tg:TypeId)(zg:Nat×Nat)(bs bo:Nat){Z:List RPZ}{g:Option Addr}{c:Nat}{so:List AU}(hso:BZ 9 49 (.slice g Z.length c) Z.length (Z.flatMap Gp) so)(hZ:Z.length≤1000000):CQ Tryz.prog 50 #[.agg #[I4 t,I4 c0,I4 lo,I4 hi],I5 bs,I5 bo] [[(1,.cells (DC.map Bp).toArray Tg zg)],s,[(bs,.cells #[v] 33 (0,0))],[(bo,.cells #[.slice g Z.length c] 40 (0,0))],so] (fun r H'=>r=undef∧∃(z:RPZ) (mem:List AU) (g:Option Addr) (c:Nat) (so:List AU),z.x=EQ rs t.toNat c0.toNat lo hi∧z.ok mem∧BZ 9 49 (.slice g (Z.length+1) c) (Z.length+1) ((Z++[z]).flatMap Gp) so∧H'=[mem,so,[(1,.cells (DC.map Bp).toArray Tg zg)],s,[(bs,.cells #[v] 33 (0,0))],[(bo,.cells #[.slice g (Z.length+1) c] 40 (0,0))]]):=by
 have hml:=mL;obtain ⟨sp,mb,es,ck,lm,rfl,hst9⟩:=id hv;refine Se func50 ntmps50 [0,1,2] ?_;intro u R;refine Zq<|Zg<|Ze (Bx #[_,_,_,_]) ?_;rintro _ _ ⟨bx,rfl,rfl⟩;refine Z0<|Zx<|Zq<|Zg<|Zl isAgg33 Y ?_;refine Zh 0 underlying106 rfl rfl sizeOf3 Y<|Zl isAgg3 Y ?_;refine Zh 1 underlying106 rfl rfl sizeOf3 Y<|Zl isAgg3 Y ?_;refine Zh 2 underlying106 rfl rfl sizeOf3 Y<|Zl isAgg3 Y ?_;refine Zh 3 underlying106 rfl rfl sizeOf3 Y<|Zl isAgg3 Y ?_;refine Zc [_,_,_,_,_] Y call51 Y rfl (mo _ p rs s hv hs hn hok t c0 lo hi ht hc hlh Tg zg) ?_;rintro _ _ ⟨_,⟨z,mem,hzx,hzo,rfl,rfl⟩,rfl⟩;refine Zm Y<|Zd Y rfl<|Zd Y rfl<|Ze (Al zeroValue49 #[_,_,_,_,_,_,_,_,_]) ?_;rintro _ _ ⟨bp,rfl,rfl⟩;refine Xe (Xw sizeOf49 #[I4 z.x.tb,I4 z.x.cl,I4 z.x.lo,I4 z.x.hi,I4 z.x.ct,I4 z.x.fi,.slice z.qr z.x.rows.length z.cr,.slice z.qp z.x.paths.length z.cp,.slice z.qt z.x.roots.length z.ct]) ?_;refine Za Y<|Z0<|Zn [2,4] ?_;refine Zx<|Zg<|Zl isAgg40 Y ?_;refine Zo Wh (Pa #[_,_,_,_,_,_,_,_,_] isAgg49 sizeOf49 Y) ?_;refine Ze (Af (vs:=[_]) (cs:=[_,_,_,_,_,_,_,_,_]) underlying40 sizeOf49 zeroValue49 Y rfl rfl rfl rfl rfl) ?_;rintro _ _ ⟨gb,rfl,rfl⟩;refine Ze (BR (by_:=120) (sz:=9) underlying40 (rfl:Tryz.prog.info? 49=some Tryz.t49) rfl rfl rfl rfl Y (hso) Y (Da 9 gb 1 1 49 (0,0) (Gp z) rfl) Wo Wo (by have:=oK [z];simpa using this) (by omega) (by omega)) ?_;rintro _ _ ⟨sw5,hrw5,rfl⟩;obtain ⟨gw5,cw5,rfl⟩:=hrw5.form;refine Xe (Zs sizeOf40 Y Y rfl (hi:=by first|omega|decide|(simp;done))) ?_;refine Z0 ?_;refine He rfl results50 (by exact ⟨rfl,z,mem,gw5,cw5,sw5,hzx,hzo,BP hrw5 rfl (by rw [wG];simp),rfl⟩)
set_option maxHeartbeats 1000000 in
theorem qD(v:Value)(p:Int)(rs:List AQ)(s:List AU)(hv:Nv v p rs s)(hs:BJ rs)(hn:rs.length≤2000)(hok:∀r∈rs,r.ok)(q:QM)(hq:BN q)(hl:(CK rs q).length≤100)(Tg:TypeId)(zg:Nat×Nat):CQ Tryz.prog 15 #[v,.agg #[I4 q.kd,I4 q.tb,I4 q.cl,I4 q.lo,I4 q.hi,I4 q.bq,I4 q.ot]] [[(1,.cells (DC.map Bp).toArray Tg zg)],s] (fun w H'=>∃vo mem,w= .tuple #[vo,I4 0]∧H7 mem vo (Ew rs q)∧H'=[mem,[(1,.cells (DC.map Bp).toArray Tg zg)],s]):=by
 have hml:=mL;obtain ⟨sp,mb,es,ck,lm,rfl,hst9⟩:=id hv;have hcl:=hq.2.1
 have hr1:=@J8 rs q.tb q.cl.toNat q.lo q.hi;have hq5:0≤q.bq∧q.bq≤3:=by have:=hq.2.2.2;omega
 have hq6:0≤q.ot∧q.ot≤3:=by have:=hq.2.2.2;omega
 refine Se func15 ntmps15 [0,1] ?_;intro u R;refine Zq<|Zg<|Ze (Bx #[_]) ?_;rintro _ _ ⟨bs,rfl,rfl⟩;refine Ze (Bx #[I4 q.kd,I4 q.tb,I4 q.cl,I4 q.lo,I4 q.hi,I4 q.bq,I4 q.ot]) ?_;rintro _ _ ⟨bq,rfl,rfl⟩;refine Za Y<|Za Y<|Z0<|Zx<|Zq<|AR<|Zq<|Zg<|Zl isAgg33 Y ?_;refine Zv (EI underlying33 Y Y)<|Za Y<|Z0<|Zx ?_;refine Ag Y (fun hb0=>?_) (fun hb0=>?_)
 ·
  cases hb0
 refine Zq<|Zg<|Zo Wh (Pa #[_,_,_,_,_,_,_] isAgg30 sizeOf30 Y) ?_;refine Xr [_] Y call49 Y rfl (KI q) ?_;refine Zv (CL Y)<|Za Y<|Z0<|Zx ?_;refine Ag Y (fun hb1=>?_) (fun hb1=>?_)
 ·
  exfalso;simp [hq]at hb1
 refine AB<|A8<|Zx<|Zq<|Zg<|Ze (Al zeroValue40 #[_]) ?_;rintro _ _ ⟨bo,rfl,rfl⟩;refine Z0<|Zx<|Zq<|Zg<|Zv (Bt (vs:=[]) (us:=[_,_]) Y Y) ?_;refine Za Y<|Z0<|Zn [2,3,6,7] ?_;refine Zx<|Zq<|Zg<|Zo Wh (Pa #[_,_,_,_,_,_,_] isAgg30 sizeOf30 Y) ?_;refine Xr [_] Y call52 Y rfl (rP q hq) ?_;refine Ze (Al zeroValue106 #[_,_,_,_]) ?_;rintro _ _ ⟨bx,rfl,rfl⟩;refine Xe (Xw sizeOf106 #[I4 q.tb,I4 q.cl,I4 q.lo,I4 q.hi]) ?_;refine Z0<|Zx<|Zq<|Zg<|Zl isAgg33 Y ?_;refine Zh 0 underlying106 rfl rfl sizeOf3 Y<|Zl isAgg3 Y ?_;refine Zh 1 underlying106 rfl rfl sizeOf3 Y<|Zl isAgg3 Y ?_;refine Zh 2 underlying106 rfl rfl sizeOf3 Y<|Zl isAgg3 Y ?_;refine Zh 3 underlying106 rfl rfl sizeOf3 Y<|Zl isAgg3 Y ?_;refine Zc [_,_,_,_,_] Y call53 Y rfl (Sn _ p rs s hv q.tb q.cl q.lo q.hi hcl) ?_;rintro _ _ ⟨_,⟨s1,h1,rfl⟩,rfl⟩;rw [show Cn rs q.tb q.cl.toNat q.lo q.hi=CK rs q from rfl]at h1 hr1;obtain ⟨p1,c1,rfl⟩:=h1.form;obtain ⟨p7,cap7,e7,⟨hl7,hlc7⟩,hgr⟩:=id (Cz h1 (by omega));injection e7 with e71 e72 e73
 subst e71 e73;refine Za Y<|Z0<|Zn [3,6,7,8,9] ?_;refine Zx<|Zq<|Zq<|Zg<|Zm Y<|Zv (AV underlying45 Y)<|Zv (DU (n:=100) Y Y)<|Z0<|Zx ?_;refine Aq Y (fun hb2=>?_) (fun hb2=>?_)
 ·
  exfalso;omega
 refine AB<|Zx<|Zq<|Bf ?_;refine Zg<|Zm Y<|Zo Wh (Pa #[_,_,_,_] isAgg106 sizeOf106 Y) ?_;refine Zc [_] Y call50 Y rfl (oN _ p rs s hv hs hn hok q.tb q.cl q.lo q.hi hq.1 hcl hq.2.2.1.2.1 Tg zg bs bo (Z:=[]) (Ba 9 _) (uK _)) ?_;rintro _ _ ⟨_,⟨rfl,z0,mem0,g0,c0,so0,hz0,hzo0,hso0,rfl⟩,rfl⟩;refine Z0<|Zx<|Zb [3,7,9,6] ?_;refine CU (e0:=[(3,_),(7,_),(9,_)]) (H0:=[[(bo,.cells #[.slice g0 (([]:List RPZ).length+1) c0] 40 (0,0))],so0,mem0]) (fun e H=>∃(Z:List RPZ) (g:Option Addr) (c:Nat) (so mm:List AU),(Z.map RPZ.x=Ew rs q∧(∀z∈Z,z.ok mm)∧BZ 9 49 (.slice g Z.length c) Z.length (Z.flatMap Gp) so∧Z.length≤1000)∧e=[]∧H=[[(bo,.cells #[.slice g Z.length c] 40 (0,0))],so,mm]) Wp ?hx_1 ?hy_1
 case hx_1=>
  refine Zq<|Zg<|Zh 0 underlying30 rfl rfl sizeOf3 Y<|Zl isAgg3 Y ?_;refine Zv (CO Y Y)<|Z0<|Zx ?_;refine Aq Y (fun hb3=>?_) (fun hb3=>?_)
  ·
   refine Zq<|Zg<|Zm Y<|Zv (AV underlying45 Y)<|Zm Y<|Z0<|Zx<|AR<|Zb [43,3,6,7,41,42] ?_;refine BB (e0:=[(43,_)]) (fun m e H=>∃(k:Nat) (Z:List RPZ) (g:Option Addr) (c:Nat) (so mm:List AU),m=(CK rs q).length -k∧(k≤(CK rs q).length∧Z.map RPZ.x=EQ rs q.tb.toNat q.cl.toNat q.lo q.hi::((CK rs q).take k).map (fun r=>EQ rs q.ot.toNat 0 (Bg r q.bq) (Bg r q.bq))∧(∀z∈Z,z.ok mm)∧Z.length=k+1∧BZ 9 49 (.slice g Z.length c) Z.length (Z.flatMap Gp) so)∧e=[(43,I4 (k:Int))]∧H=[[(bo,.cells #[.slice g Z.length c] 40 (0,0))],so,mm]) (by exact ⟨0,[z0],g0,c0,so0,mem0,rfl,⟨uK _,by rw [vI,wZ,vZ,hz0],fun z hz=>by rw [uL.1 hz];exact hzo0,rfl,hso0⟩,rfl,rfl⟩) Wp ?_;rintro _ _ _ ⟨k,Z,g,c,so,mm,rfl,⟨hk,hZx,hZo,hZl,hso⟩,rfl,rfl⟩;refine Zq<|Zg<|Zv (Av Y Y)<|Z0<|Zx<|Zq ?_;refine Aq Y (fun hlt=>?_) (fun hlt=>?_)
   ·
    obtain ⟨r9,hr9⟩:∃r9,(CK rs q)[k]?=some r9:=⟨_,tq hlt⟩;obtain ⟨g8,off,cur,T,zz,rfl,hm9,hsz9,hex9⟩:=hgr k r9 hr9;refine AB<|Zx<|Zq<|AR<|Zq<|Zg ?_;refine BO (Ac underlying45 sizeOf113 Y Y (by first|omega|decide|(simp;done))) ?_;refine Cm (cs:=[(g8,.cells cur T zz)]) (by simp [hm9]) (AZ (cs:=#[I4 r9.t,I4 r9.k,I4 r9.v.a,I4 r9.v.b,I4 r9.v.c]) isAgg113 sizeOf113 Y (by omega) hex9) rfl rfl ?_;refine Ze (Al zeroValue113 #[_,_,_,_,_]) ?_;rintro _ _ ⟨bx,rfl,rfl⟩;refine Xe (Xw sizeOf113 #[I4 r9.t,I4 r9.k,I4 r9.v.a,I4 r9.v.b,I4 r9.v.c]) ?_;refine Z0<|Zx<|Zg<|Zm Y<|Zo Wh (Pa #[_,_,_,_,_,_,_] isAgg30 sizeOf30 Y) ?_;refine Zo Wh (Pa #[_,_,_,_,_] isAgg113 sizeOf113 Y) ?_;refine Xr [_,_] Y call54 Y rfl (Qc q hq5 r9) ?_;refine Zc [_] Y call50 Y rfl (oN _ p rs s hv hs hn hok q.ot 0 (Bg r9 q.bq) (Bg r9 q.bq) hq6 (by omega) (AA3 _) Tg zg bs bo hso (by omega)) ?_;rintro _ _ ⟨_,⟨rfl,z5,mem5,g5,c5,so5,hz5,hzo5,hso5,rfl⟩,rfl⟩;refine Z0<|A8<|Zx<|Ki (s1:=mem5) (s2:=mm) Wo Wo ?_;refine Zg<|Ya (n:=1) Y Y<|Zm Y<|Z0<|Zn [43,3,6,7,41,42] ?_;refine Aa (e':=[(43,_)]) (by exact ⟨k+1,Z++[z5],g5,c5,so5,mem5++mm,rfl,⟨by omega,by rw [uW,hZx,Bu hr9,uW,vZ,hz5];rfl,fun z hz=>by rcases uQ.1 hz with h9|h9;exact (hZo z h9).mono (fun c hc=>uN _ hc);rw [uL.1 h9];exact hzo5.mono (fun c hc=>uZ _ hc),by rw [u6,hZl];rfl,by rw [u6];exact hso5⟩,rfl,by rw [u6]⟩)
   have ek:k=(CK rs q).length:=by omega
   subst ek;rw [ug]at hZx;refine Aw<|Zt<|Zt<|AP<|Zn [6] ?_;refine BA (e':=[]) (by exact ⟨Z,_,_,so,mm,⟨by unfold Ew;rw [if_pos hb3];exact hZx,hZo,hso,by omega⟩,rfl,rfl⟩)
  refine AB<|Zn [6] ?_;refine BA (e':=[]) (by exact ⟨[z0],g0,c0,so0,mem0,⟨by unfold Ew;rw [if_neg hb3,vZ,hz0],fun z hz=>by rw [uL.1 hz];exact hzo0,hso0,by simp⟩,rfl,rfl⟩)
 rintro _ _ ⟨Z,g,c,so,mm,⟨hZx,hZo,hso,hZl⟩,rfl,rfl⟩;refine Zq<|Ki (s1:=so) (s2:=mm) Wo Wo ?_;refine Zg<|Zl isAgg40 Y ?_;refine Za Y<|Za Y<|Z0<|Zx<|AA ?_;refine Dh rfl results15 Y Y (by exact ⟨.slice g Z.length c,so++mm,rfl,by rw [←hZx];exact iM hso (by omega) hZo,rfl⟩)
theorem jZ{sp:Nat}{s:List AU}(q:QM)(hq:¬BN q):Az Tryz.prog 15 #[I5 sp,.agg #[I4 q.kd,I4 q.tb,I4 q.cl,I4 q.lo,I4 q.hi,I4 q.bq,I4 q.ot]] [] (.tuple #[.slice none 0 0,I4 50]):=by
 refine Se func15 ntmps15 [0,1] ?_;intro u R;refine Zq<|Zg<|Ze (Bx #[_]) ?_;rintro _ _ ⟨bs,rfl,rfl⟩;refine Ze (Bx #[I4 q.kd,I4 q.tb,I4 q.cl,I4 q.lo,I4 q.hi,I4 q.bq,I4 q.ot]) ?_;rintro _ _ ⟨bq,rfl,rfl⟩;refine Za Y<|Za Y<|Z0<|Zx<|Zq<|AR<|Zq<|Zg<|Zl isAgg33 Y ?_;refine Zv (EI underlying33 Y Y)<|Za Y<|Z0<|Zx ?_;refine Ag Y (fun hb0=>?_) (fun hb0=>?_)
 ·
  cases hb0
 refine Zq<|Zg<|Zo Wh (Pa #[_,_,_,_,_,_,_] isAgg30 sizeOf30 Y) ?_;refine Xr [_] Y call49 Y rfl (KI q) ?_;refine Zv (CL Y)<|Za Y<|Z0<|Zx ?_;refine Ag Y (fun hb1=>?_) (fun hb1=>?_)
 ·
  refine Zq<|Zg<|Za Y<|Za Y<|Z0<|Zn [4,5] ?_;refine Zx<|AA<|AX<|Zt ?_;refine Dh rfl results15 Y Y (by exact ⟨rfl,rfl⟩)
 exfalso;simp [hq]at hb1
set_option maxHeartbeats 1000000 in
theorem iU{M:List AU}{p9:Option Addr}{cap9:Nat}{x:RP}{L:List RP}(hL:H7 M (.slice p9 (L.length+1) cap9) (x::L))(hcomp:GA x){t c lo hi:Int}(hsc:x.scan=(t,c,lo,hi))(br:Nat):CQ Tryz.prog 71 #[I5 br,.agg #[I4 t,I4 c,I4 lo,I4 hi]] [[(br,.cells #[.slice p9 (L.length+1) cap9] 133 (0,0))],M] (fun r H'=>∃sr,BZ 5 113 r (EH x).length (Ae (EH x)) sr∧H'=[sr,[(br,.cells #[.slice (EX p9 1 cap9 9) L.length (cap9 -1)] 133 (0,0))],M]):=by
 have hml:=mL;obtain ⟨p8,cap8,e9,hl9,hlc9⟩:=hL.form;injection e9 with e91 e92 e93
 subst e91 e93;rw [uJ]at hl9 hlc9;obtain ⟨z,hzx,hzo,g,off,cur,T,zz,rfl,hm9,hsz9,hex9⟩:=hL.at (i:=0) rfl;subst hzx;unfold RP.scan at hsc;injection hsc with hd1 hsc
 injection hsc with hd2 hsc
 injection hsc with hd3 hd4
 refine Se func71 ntmps71 [0,1] ?_;intro u R;refine Zq<|Zg<|Ze (Bx #[_,_,_,_]) ?_;rintro _ _ ⟨bx,rfl,rfl⟩;refine Za Y<|Z0<|Zx<|Zq<|Zg<|Zm Y<|Zp Y rfl<|Zh 0 underlying133 rfl rfl sizeOf40 Y<|Zl isAgg40 Y ?_;refine Zv (AV underlying40 Y)<|Zv (DU (n:=0) Y Y) ?_;rw [decide_eq_true (show(0:Nat)<L.length+1 by omega)];refine Xr [_] Y call70 Y rfl (KA) ?_;refine Z0<|Zx<|Zq<|Zg<|Zm Y<|Zp Y rfl<|Zh 0 underlying133 rfl rfl sizeOf40 Y<|Zl isAgg40 Y ?_;refine BO (Ac (j:=0) underlying40 sizeOf49 Y Y (by first|omega|decide|(simp;done))) ?_;refine Cm (cs:=[(g,.cells cur T zz)]) (by simp [hm9]) (AZ (cs:=#[I4 z.x.tb,I4 z.x.cl,I4 z.x.lo,I4 z.x.hi,I4 z.x.ct,I4 z.x.fi,.slice z.qr z.x.rows.length z.cr,.slice z.qp z.x.paths.length z.cp,.slice z.qt z.x.roots.length z.ct]) isAgg49 sizeOf49 Y (by omega) hex9) rfl rfl ?_;refine Ze (Al zeroValue49 #[_,_,_,_,_,_,_,_,_]) ?_;rintro _ _ ⟨bp,rfl,rfl⟩;refine Xe (Xw sizeOf49 #[I4 z.x.tb,I4 z.x.cl,I4 z.x.lo,I4 z.x.hi,I4 z.x.ct,I4 z.x.fi,.slice z.qr z.x.rows.length z.cr,.slice z.qp z.x.paths.length z.cp,.slice z.qt z.x.roots.length z.ct]) ?_;refine Z0<|Zn [0,3,5] ?_;refine Zx<|Zq<|Zg<|Zm Y<|Zm Y<|Zp Y rfl<|Zh 0 underlying133 rfl rfl sizeOf40 Y<|Zl isAgg40 Y ?_;refine BO (CE (l:=1) underlying40 sizeOf49 Y Y (by first|omega|decide|(simp;done))) ?_;refine Zp Y rfl<|Zh 0 underlying133 rfl rfl sizeOf40 Y<|Xe (Zs sizeOf40 Y Y rfl (hi:=by first|omega|decide|(simp;done))) ?_;refine Z0<|Zx<|Zq<|Zg<|Zh 0 underlying49 rfl rfl sizeOf3 Y<|Zl isAgg3 Y (hv:=by exact (rfl:_=some (Value.int .i64 z.x.tb))) ?_;refine Zh 1 underlying49 rfl rfl sizeOf3 Y<|Zl isAgg3 Y (hv:=by exact (rfl:_=some (Value.int .i64 z.x.cl))) ?_;refine Zh 2 underlying49 rfl rfl sizeOf3 Y<|Zl isAgg3 Y (hv:=by exact (rfl:_=some (Value.int .i64 z.x.lo))) ?_;refine Zh 3 underlying49 rfl rfl sizeOf3 Y<|Zl isAgg3 Y (hv:=by exact (rfl:_=some (Value.int .i64 z.x.hi))) ?_
 refine Zv (BL (vs:=[(0,I4 z.x.tb),(1,I4 z.x.cl),(2,I4 z.x.lo),(3,I4 z.x.hi)]) (cs:=#[I4 z.x.tb,I4 z.x.cl,I4 z.x.lo,I4 z.x.hi]) Y (Ab (pl:=#[(0,1),(1,1),(2,1),(3,1)]) zeroValue106 underlying106 (fun _=>by kernel_rfl) (by kernel_rfl))) ?_;refine Zo Wh (Pa #[I4 t,I4 c,I4 lo,I4 hi] isAgg106 sizeOf106 Y) ?_;refine Zv (WH (by kernel_rfl) underlying106 (by kernel_rfl) (by decide) (by decide) (by decide) (by decide) underlying3 isAgg3 Y Y) ?_;rw [decide_eq_true (show z.x.tb=t∧z.x.cl=c∧z.x.lo=lo∧z.x.hi=hi from⟨hd1,hd2,hd3,hd4⟩)];refine Xr [_] Y call70 Y rfl (KA) ?_;refine Z0<|Zn [5] ?_;refine Zx<|Zq<|Zg<|Zo Wh (Pa #[I4 z.x.tb,I4 z.x.cl,I4 z.x.lo,I4 z.x.hi,I4 z.x.ct,I4 z.x.fi,.slice z.qr z.x.rows.length z.cr,.slice z.qp z.x.paths.length z.cp,.slice z.qt z.x.roots.length z.ct] isAgg49 sizeOf49 Y) ?_;refine Zc [_] Y call37 Y rfl (pW hzo.rp hcomp rfl) ?_;rintro _ _ ⟨_,⟨vr,sr,rfl,hr9,rfl⟩,rfl⟩;obtain ⟨gr,c9,rfl⟩:=hr9.form;refine Zm Y<|Zd Y rfl<|Zd Y rfl<|Za Y<|Za Y<|Z0<|Zx<|Zq<|Zg<|Zm Y<|Xr [_] Y call70 Y rfl (KA) ?_;refine Z0<|Zx<|Zq<|Zg<|Zm Y<|Za Y<|Z0<|Zx<|AA ?_;refine AJ rfl results71 Y (by exact ⟨sr,hr9,rfl⟩)
theorem NM{x:RP}(h:GA x):(EH x).length≤2000∧∀r∈EH x,r.ok:=by
 have h1:=h.ct;have h2:=h.fi
 have h3:=h.n;rw [Xn h];refine ⟨by have:=wK (inB x) x.rows;omega,fun r hr=>?_⟩;obtain ⟨j,hj⟩:=uq (wF.1 hr).1;exact (h.all j r hj).1.1
theorem Yq{α:Type}{l:List α}{k:Nat}{x:α}(h:l[k]?=some x):l.drop k=x::l.drop (k+1):=by
 obtain ⟨h1,rfl⟩:=tu.1 h;exact vY h1
set_option maxHeartbeats 1000000 in
theorem mM{M:List AU}{v:Value}{L:List RP}(hL:H7 M v L)(q:QM){r:CJ}(hr:Fz q L=some r):CQ Tryz.prog 23 #[.agg #[I4 q.kd,I4 q.tb,I4 q.cl,I4 q.lo,I4 q.hi,I4 q.bq,I4 q.ot],v] [M] (fun w H'=>∃rv sr,w= .tuple #[.agg #[rv,I4 r.val,.bool r.fnd],.bool true]∧BZ 5 113 rv r.rows.length (Ae r.rows) sr∧H'=[sr,M]):=by
 have hml:=mL;obtain ⟨x,L2,rfl,hq,hsc,hcomp,hl100,hcase⟩:=Ot hr;obtain ⟨pv,cv,rfl,_⟩:=hL.form;rw [uJ]at hL;rw [uJ];have hT:=hL.tail
 rw [wJ]at hT;have hq5:0≤q.bq∧q.bq≤3:=by have:=hq.2.2.2;omega
 refine GJ func23 rfl ntmps23 rfl ?_;intro u R;refine Zb [0,1] ?_;refine Zq<|Zg<|Ze (Bx #[I4 q.kd,I4 q.tb,I4 q.cl,I4 q.lo,I4 q.hi,I4 q.bq,I4 q.ot]) ?_;rintro _ _ ⟨bq,rfl,rfl⟩;refine Ze (Al zeroValue51 #[_,_,_]) ?_;rintro _ _ ⟨bo,rfl,rfl⟩;refine Ze (Al zeroValue4 #[_]) ?_;rintro _ _ ⟨bk,rfl,rfl⟩;refine Z0<|Zx<|Zq<|Zg<|Zv (Bt (vs:=[]) (us:=[_,_]) Y Y) ?_;refine dO rfl Y ?_;refine Z0<|Zx<|Zq<|Zg<|Xe (Zs sizeOf4 Y Y rfl (hi:=by first|omega|decide|(simp;done))) ?_;refine Z0<|Zx<|Zq<|Zg<|YE rfl Y ?_;refine Z0<|Zx<|Zq<|Zg<|Zo Wh (Pa #[_,_,_,_,_,_,_] isAgg30 sizeOf30 Y) ?_;refine Xr [_] Y call49 Y rfl (KI q) ?_;rw [decide_eq_true hq];refine Xr [_] Y call70 Y rfl (KA) ?_;refine Z0<|Zx<|Zq<|Zg<|Zm Y<|Zv (BL (vs:=[(0,_)]) (cs:=#[_]) Y (Ab (pl:=#[(0,1)]) zeroValue133 underlying133 (fun _=>by kernel_rfl) rfl)) ?_;refine Ze (Bx #[_]) ?_;rintro _ _ ⟨br,rfl,rfl⟩;refine Za Y<|Z0<|Zn [2,4,5,6] ?_;refine Zx<|Zq<|Zg<|Zm Y<|Zo Wh (Pa #[_,_,_,_,_,_,_] isAgg30 sizeOf30 Y) ?_;refine Xr [_] Y call52 Y rfl (rP q hq) ?_;refine Zc [_,_] Y call71 Y rfl (iU hL hcomp hsc br) ?_;rintro _ _ ⟨_,⟨sr,hsr,rfl⟩,rfl⟩;obtain ⟨gr,cr9,rfl⟩:=hsr.form;have hUr:=Cz hsr (by omega)
 obtain ⟨p7,cap7,e7,⟨hl7,hlc7⟩,hgr⟩:=id hUr;injection e7 with e71 e72 e73
 subst e71 e73;refine Za Y<|Z0<|Zx<|Zq<|Zg<|Zm Y<|Zv (AV underlying45 Y)<|Zv (dJ (n:=100) Y Y) ?_;rw [decide_eq_true (show(EH x).length≤100 by omega)];refine Xr [_] Y call70 Y rfl (KA) ?_;refine Z0<|Zx<|Zq<|Bf ?_;refine Zg<|Za Y<|Z0<|Zx<|Zb [8,2,4,5,6,7] ?_;refine CU (e0:=[(8,_)]) (H0:=[[(br,.cells #[_] 133 (0,0))],[]]) (fun e H=>∃(o:List AQ) (vo:Value) (so:List AU) (pr:Option Addr) (cr:Nat),(r=F3 q (EH x) o∧BZ 5 113 vo o.length (Ae o) so∧o.length≤200000)∧e=[(8,vo)]∧H=[[(br,.cells #[.slice pr 0 cr] 133 (0,0))],so]) Wp ?hx_1 ?hy_1
 case hx_1=>
  refine Zq<|Zg<|Zh 0 underlying30 rfl rfl sizeOf3 Y<|Zl isAgg3 Y ?_;refine Zv (CO Y Y)<|Z0<|Zx ?_;refine Aq Y (fun hb3=>?_) (fun hb3=>?_)
  ·
   obtain ⟨oall,hall,hrj0⟩:∃o,Ec q (EH x) L2=some (o,[])∧r=F3 q (EH x) o:=by rcases hcase with⟨h9,_⟩|⟨_,h9⟩;exact absurd hb3 h9;exact h9
   refine Zq<|Zg<|Zm Y<|Zv (AV underlying45 Y)<|Zm Y<|Z0<|Zx<|AR<|Zb [8,31,2,4,5,6,7,29,30] ?_;refine BB (e0:=[(8,_),(31,_)]) (fun m e H=>∃(k:Nat) (o:List AQ) (l9:List RP) (vo:Value) (so:List AU) (pr:Option Addr) (cr:Nat),m=(EH x).length -k∧(k≤(EH x).length∧Ec q ((EH x).take k) L2=some (o,l9)∧BZ 5 113 vo o.length (Ae o) so∧H7 M (.slice pr l9.length cr) l9∧o.length≤2000*k)∧e=[(8,vo),(31,I4 (k:Int))]∧H=[[(br,.cells #[.slice pr l9.length cr] 133 (0,0))],so]) (by exact ⟨0,[],L2,.slice none 0 0,[],_,_,rfl,⟨uK _,rfl,Ba 5 _,hT,uK _⟩,rfl,rfl⟩) Wp ?_;rintro _ _ _ ⟨k,o,l9,vo,so,pr,cr,rfl,⟨hk,hrd,hso,hPk,hok⟩,rfl,rfl⟩;obtain ⟨go,co,rfl⟩:=hso.form;refine Zq<|Zg<|Zv (Av Y Y)<|Z0<|Zx<|Zq ?_;refine Aq Y (fun hlt=>?_) (fun hlt=>?_)
   ·
    obtain ⟨r9,hr9⟩:∃r9,(EH x)[k]?=some r9:=⟨_,tq hlt⟩;obtain ⟨g,off,cur,T,zz,rfl,hm9,hsz9,hex9⟩:=hgr k r9 hr9;obtain ⟨o8,l8,h81,o9,h82,_⟩:=NP (EH x) k L2 (oall,[]) (by omega) hall;rw [hrd]at h81;injection h81 with h81
    injection h81 with h83 h84
    subst h83 h84;rw [Yq hr9]at h82;obtain ⟨a9,c9,h85,_,_⟩:=L6 h82;obtain ⟨x2,hl2,hsc2,hcomp2,ha2⟩:=QS h85;have hlen2:=(NM hcomp2).1
    have hsn:=P9 (EH x) k r9 L2 _ _ a9 hr9 hrd h85;rw [hl2,uJ];rw [hl2,uJ]at hPk;refine AB<|Zx<|Zq<|AR<|Zq<|Zg ?_;refine BO (Ac underlying45 sizeOf113 Y Y (by first|omega|decide|(simp;done))) ?_;refine Cm (cs:=[(g,.cells cur T zz)]) (by simp [hm9]) (AZ (cs:=#[I4 r9.t,I4 r9.k,I4 r9.v.a,I4 r9.v.b,I4 r9.v.c]) isAgg113 sizeOf113 Y (by omega) hex9) rfl rfl ?_;refine Ze (Al zeroValue113 #[_,_,_,_,_]) ?_;rintro _ _ ⟨bx,rfl,rfl⟩;refine Xe (Xw sizeOf113 #[I4 r9.t,I4 r9.k,I4 r9.v.a,I4 r9.v.b,I4 r9.v.c]) ?_;refine Z0<|Zx<|Zg<|Zm Y<|Zm Y<|Zo Wh (Pa #[_,_,_,_,_,_,_] isAgg30 sizeOf30 Y) ?_;refine Zo Wh (Pa #[_,_,_,_,_] isAgg113 sizeOf113 Y) ?_;refine Xr [_,_] Y call54 Y rfl (Qc q hq5 r9) ?_;refine Zc [_,_] Y call71 Y rfl (iU hPk hcomp2 hsc2 br) ?_;rintro _ _ ⟨_,⟨s5,h5,rfl⟩,rfl⟩;rw [←ha2]at h5;obtain ⟨g5,c5,rfl⟩:=h5.form;refine Ze (BR (by_:=40) (sz:=5) underlying45 (rfl:Tryz.prog.info? 113=some Tryz.t113) rfl rfl rfl rfl Y (hso) Y (UM h5) Wo Wo (by exact CS _) (by rw [ha2];omega) (by rw [ha2];omega)) ?_;rintro _ _ ⟨sa9,hra9,rfl⟩;obtain ⟨ga9,ca9,rfl⟩:=hra9.form;refine Za Y<|Z0<|Zn [2,4,5,6,7,8,29,30,31] ?_;refine A8<|Zx<|Zg<|Ya (n:=1) Y Y<|Zm Y<|Z0<|Zn [8,31,2,4,5,6,7,29,30] ?_;refine Aa (e':=[(8,_),(31,_)]) (by exact ⟨k+1,o++a9.1,a9.2,_,_,_,_,rfl,⟨by omega,hsn,BP hra9 (by rw [u6]) (by rw [Bb]),hPk.tail,by rw [u6,ha2];omega⟩,rfl,rfl⟩)
   have ek:k=(EH x).length:=by omega
   subst ek;rw [ug,hall]at hrd;injection hrd with hrd
   injection hrd with hrd1 hrd2
   subst hrd1 hrd2;have hrj:=hrj0
   refine Aw<|Zt<|Zt<|AP<|Zn [8,2,4,5,6,7] ?_;refine BA (e':=[(8,_)]) (by exact ⟨oall,.slice go oall.length co,so,pr,cr,⟨hrj0,hso,by omega⟩,rfl,rfl⟩)
  obtain ⟨hL2,hrn⟩:L2=[]∧r=F3 q (EH x) []:=by rcases hcase with⟨_,h9⟩|⟨h9,_⟩;exact h9;exact absurd h9 hb3
  subst hL2;refine AB<|Zn [8,2,4,5,6,7] ?_;refine BA (e':=[(8,_)]) (by exact ⟨[],.slice none 0 0,[],EX pv 1 cv 9,cv -1,⟨hrn,Ba 5 _,uK _⟩,rfl,rfl⟩)
 rintro _ _ ⟨o,vo,so,pr,cr,⟨hr8,hso,hol⟩,rfl,rfl⟩;obtain ⟨go,co,rfl⟩:=hso.form;have hUo:=Cz hso (by omega)
 refine Zq<|Zg<|Zm Y<|Zp Y rfl<|Zh 0 underlying133 rfl rfl sizeOf40 Y<|Zl isAgg40 Y ?_;refine Zv (AV underlying40 Y)<|Zv (CF (n:=0) Y Y) ?_;rw [decide_eq_true (show(0:Nat)=0 from rfl)];refine Xr [_] Y call70 Y rfl (KA) ?_;refine Z0<|Zx<|Zq<|Zg<|Zo Wh (Pa #[_,_,_,_,_,_,_] isAgg30 sizeOf30 Y) ?_;refine Zm Y<|Zm Y<|Zc [_,_,_] Y call72 Y rfl (Wt hUr hUo q (by omega) (fun _ r hr=>NC ((NM hcomp).2 r hr) q.bq)) ?_;rintro _ _ ⟨_,⟨rv3,s3,rfl,h3,rfl⟩,rfl⟩;rw [MK hq,←hr8]at h3⊢;obtain ⟨p3,c3,rfl⟩:=h3.form;refine Xe (Xw sizeOf51 #[.slice p3 r.rows.length c3,I4 r.val,.bool r.fnd]) ?_;refine Xe (Zs sizeOf4 Y Y rfl (hi:=by first|omega|decide|(simp;done))) ?_;refine Z0<|Zn [4,5] ?_;refine Zx<|AA<|jR rfl rfl call69 (oD _) rfl call68 (pI bk _) Wp ?_;rintro _ rfl;refine ⟨_,[s3,M],fun a w hf hs=>Ro results23 ((Bz a _ hf 4).trans rfl) (Ah isAgg51 sizeOf51 (by first|decide|exact uG _|(simp;done)) (cs:=#[.slice p3 r.rows.length c3,I4 r.val,.bool r.fnd]) (Ay rfl) w (Wl (b:=bo) Wh hs)) ((Bz a _ hf 5).trans rfl) (WR isAgg4 (v:= .bool true) (i:=0) rfl w (Wl (b:=bk) Wh hs)),⟨_,s3,rfl,h3,rfl⟩,Sub.amid (by repeat(first|exact Sub.refl _|exact Sub.nil _|(apply Sub.cons;(focus (repeat(first|exact One.here _ _|apply One.there))))|refine Sub.drop _ ?_))⟩
end Go.Proofs.YtkdgffcfmgmemaaGreatDoor
