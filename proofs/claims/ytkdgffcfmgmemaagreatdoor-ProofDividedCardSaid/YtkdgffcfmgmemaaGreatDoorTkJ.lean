/- The law ProofLater. -/
/- The law ProofDivided. -/
/- A case of chapter 11 as an argument. -/
/- ProofDivided as its card wants it. -/
/- The facts that a card wants, one by one. -/
import Derived.Test.YtkdgffcfmgmemaaGreatDoorEz
import Derived.Test.YtkdgffcfmgmemaaGreatDoorPz4
import Derived.Test.YtkdgffcfmgmemaaGreatDoorTk1
import Derived.JoinedOf
set_option linter.unusedVariables false
set_option linter.unusedSimpArgs false
namespace Go.Proofs.YtkdgffcfmgmemaaGreatDoor
open Go.Proofs.Tryz
open Go Go.RowKit Gw
set_option maxRecDepth 100000
attribute [local irreducible] Gw.At Gw.Nx Gw.Ops
theorem U0{A B:List AU}{va vb:Value}{x y:CJ}(ha:E5 A va x.rows)(hb:E5 B vb y.rows):Az Tryz.prog 31 #[.agg #[va,I4 x.val,.bool x.fnd],.agg #[vb,I4 y.val,.bool y.fnd]] [A,B] (.bool (decide (x=y))):=
 U3 (RN (ha.mono (fun c hc=>uZ B hc)) (hb.mono (fun c hc=>uN A hc)))
theorem PI{l:List Bq}{a k b:Nat}(hak:a≤k)(hkb:k≤b):CX l a b=CX l a k++CX l k b:=by
 unfold CX;rw [show b -a=(k -a)+(b -k) by omega,List.take_add,yK,show a+(k -a)=k by omega]
theorem Ou{q:QM}{l:List Bq}{a k b:Nat}{s s2:Int}(hak:a≤k)(hkb:k≤b)(h:La q l a (b -a) s)(h2:La q l k (b -k) s2):s2=max s (k:Int):=by
 obtain ⟨⟨a1,a2⟩,a3,a4⟩:=h;obtain ⟨⟨b1,b2⟩,b3,b4⟩:=h2;have hs:∀j:Nat,(j:Int)+1=s→(a:Int)≠s→s2≤(j:Int)→False:=fun j hj hne hle=>by
  obtain ⟨j2,x,e1,e2,e3⟩:=a3 (fun h=>hne h.symm);obtain rfl:j2=j:=by omega
  have:=b4 j2 x hle (by omega) e2;rw [e3]at this;cases this
 have hs2:(k:Int)≠s2→s2≤s:=fun hne=>by
  obtain ⟨j,x,e1,e2,e3⟩:=b3 (fun h=>hne h.symm);rcases zq (j:Int) s with h9|h9
  · omega
  · have:=a4 j x h9 (by omega) e2
    rw [e3]at this;cases this
 have hs3:(k:Int)<s→s≤s2:=fun hlt=>by
  rcases zq s2 s with h9|h9
  · exact (hs (s -1).toNat (by omega) (by omega) (by omega)).elim
  · exact h9
 rcases zq (k:Int) s with h9|h9
 · have:=hs3 h9
   have:=hs2 (by omega);omega
 · rcases zq (k:Int) s2 with h8|h8
   · have:=hs2 (by omega);omega
   · omega
theorem bN{q:QM}(hq:BN q){l:List Bq}(hl:DY l){a k b:Nat}(hak:a≤k)(hkb:k≤b)(hb:b≤l.length){st:CJ×Int}(h:En q (a:Int) 0 (CV (BU (l.take a)) q,(a:Int)) (CX l a b)=some st):∃st1 st2,En q (a:Int) 0 (CV (BU (l.take a)) q,(a:Int)) (CX l a k)=some st1∧En q (k:Int) 0 (CV (BU (l.take k)) q,(k:Int)) (CX l k b)=some st2∧st1.1=CV (BU (l.take k)) q∧st2.1=st.1∧La q l a (k -a) st1.2∧La q l k (b -k) st2.2:=by
 rw [PI hak hkb,Kv]at h;cases h1:En q (a:Int) 0 (CV (BU (l.take a)) q,(a:Int)) (CX l a k)with
 |none=>rw [h1]at h;cases h
 |some st1=>
  rw [h1]at h;have h:En q (a:Int) (0+(CX l a k).length) st1 (CX l k b)=some st:=h
  obtain ⟨e1,e2⟩:=Iq hq hl (by omega:a≤l.length) (k -a) (by omega) st1 h1;rw [show a+(k -a)=k by omega]at e1;have hs:=KH (q:=q) (base:=(a:Int)) (b:=(k:Int)) (CX l k b) (0+(CX l a k).length) 0 st1.1 st1.2 (k:Int) (by rw [FD (by omega)];omega)
  rw [show(st1.1,st1.2)=st1 from rfl,h,e1]at hs;have hs:En q (k:Int) 0 (CV (BU (l.take k)) q,(k:Int)) (CX l k b)=some (st.1,if(CX l k b).any (J3 q)then st.2 else(k:Int)):=hs
  obtain ⟨e3,e4⟩:=Iq hq hl (by omega:k≤l.length) (b -k) (by omega) _ hs;exact ⟨st1,_,rfl,hs,e1,rfl,e2,e4⟩
theorem Gd(rs:List AQ)(q:QM):(CV rs q).rows.length≤2*rs.length:=by
 have h1:(CK rs q).length≤rs.length:=(@J8 rs q.tb q.cl.toNat q.lo q.hi).1;have h2:=R5 q (CK rs q) (FN rs q.ot)
 unfold CV F3;split
 · simp
 · split
   · simp
   · split
     · rw [show(EC (fun a b=>decide (a<b)) (Cb q (CK rs q))).rows=[] from M5 (fun a b=>decide (a<b)) (Cb q (CK rs q)) CJ.none];simp
     · split
       · rw [show(EC (fun a b=>decide (b<a)) (Cb q (CK rs q))).rows=[] from M5 (fun a b=>decide (b<a)) (Cb q (CK rs q)) CJ.none];simp
       · split<;>(simp only;omega)
theorem K7{rs:List AQ}(hn:rs.length≤2000)(hok:∀r∈rs,r.ok)(q:QM):-1000000000000000000≤(CV rs q).val∧(CV rs q).val≤1000000000000000000:=by
 have h0:=@J8 rs q.tb q.cl.toNat q.lo q.hi;have hm:=Uk (q:=q) (rows:=CK rs q) (fun r hr=>NC (hok r (h0.2 r hr)) q.bq)
 have hl:(Cb q (CK rs q)).length≤1000000000:=by rw [JD];exact y7 h0.1 (by omega)
 have hx:∀(lt:Int→Int→Bool) (hlt:∀a b c,lt b a=false→lt c b=false→lt c a=false) (hirr:∀a,lt a a=false) (hasy:∀a b,lt a b=true→lt b a=false),-1000000000000000000≤(EC lt (Cb q (CK rs q))).val∧(EC lt (Cb q (CK rs q))).val≤1000000000000000000:=fun lt a1 a2 a3=>by
  cases hms:Cb q (CK rs q)with
  |nil=>exact ⟨by show(_:Int)≤0;decide,by show(0:Int)≤_;decide⟩
  |cons z ms=>
   obtain ⟨x,hx1,_,hx2⟩:=Iy lt a1 a2 a3 z ms;rw [hx2];rw [hms]at hm;have:=hm x hx1
   exact ⟨by show _≤x;omega,by show x≤_;omega⟩
 have hsum:=UL hm hl (Cb q (CK rs q)).length;rw [ug]at hsum;have hc:(CK rs q).length≤rs.length:=h0.1
 unfold CV F3;split
 · exact ⟨by simp only;omega,by simp only;omega⟩
 · split
   · exact hsum
   · split
     · exact hx _ (fun a b c h1 h2=>by simp only [decide_eq_false_iff_not]at*;omega) (fun a=>by simp) (fun a b h=>by simp only [decide_eq_true_eq,decide_eq_false_iff_not]at*;omega)
     · split
       · exact hx _ (fun a b c h1 h2=>by simp only [decide_eq_false_iff_not]at*;omega) (fun a=>by simp) (fun a b h=>by simp only [decide_eq_true_eq,decide_eq_false_iff_not]at*;omega)
       · split<;>exact ⟨by show(_:Int)≤0;decide,by show(0:Int)≤_;decide⟩
theorem Xh{q:QM}{l:List Bq}{a k b:Nat}{s:Int}(hkb:k≤b)(hak:a≤k)(h:La q l a (b -a) s)(hs:s≤(k:Int)):La q l a (k -a) s:=⟨⟨h.le.1,by omega⟩,h.at_,fun j x h1 h2 h3=>h.no j x h1 (by omega) h3⟩
theorem Xu{q:QM}{r:CJ}{base:Int}{l:List Bq}(h:(Br q r base l).2.2=true):∃st,En q base 0 (r,base) l=some st∧Br q r base l=(st.1,st.2,true):=by
 unfold Br at*;split at h
 · rename_i st e;exact ⟨st,e,rfl⟩
 · cases h
theorem OE{q:QM}{r:CJ}{base:Int}{l:List Bq}{st:CJ×Int}(h:En q base 0 (r,base) l=some st):Br q r base l=(st.1,st.2,true):=by unfold Br;rw [h]
theorem SC{q:QM}(hq:BN q){l:List Bq}(hl:DY l){a k b:Nat}(hak:a≤k)(hkb:k≤b)(hb:b≤l.length){A B:CJ×Int×Bool}(hA:A=Br q (CV (BU (l.take a)) q) (a:Int) (CX l a b))(hB:B=Br q (CV (BU (l.take a)) q) (a:Int) (CX l a k)):(B.2.2=false→A.2.2=false)∧(B.2.2=true→B.1=CV (BU (l.take k)) q∧(Br q B.1 (k:Int) (CX l k b)).2.2=A.2.2∧(A.2.2=true→A.1=(Br q B.1 (k:Int) (CX l k b)).1∧A.1=CV (BU (l.take b)) q∧((k:Int)<(Br q B.1 (k:Int) (CX l k b)).2.1→A.2.1=(Br q B.1 (k:Int) (CX l k b)).2.1)∧(¬(k:Int)<(Br q B.1 (k:Int) (CX l k b)).2.1→A.2.1=B.2.1))):=by
 subst hA hB;cases h0:En q (a:Int) 0 (CV (BU (l.take a)) q,(a:Int)) (CX l a b)with
 |some st=>
  obtain ⟨st1,st2,h1,h2,h3,h4,h5,h6⟩:=bN hq hl hak hkb hb h0;obtain ⟨h8,h7⟩:=Iq hq hl (by omega:a≤l.length) (b -a) (by omega) st h0;rw [OE h0,OE h1];refine ⟨fun h=>(by cases h),fun _=>⟨h3,?_⟩⟩;rw [show((st1.1,st1.2,true):CJ×Int×Bool).1=CV (BU (l.take k)) q from h3,OE h2];have e:=Ou hak hkb h7 h6
  refine ⟨rfl,fun _=>⟨h4.symm,by rw [show a+(b -a)=b by omega]at h8;exact h8,fun h9=>?_,fun h9=>?_⟩⟩
  · simp only at h9⊢;omega
  · simp only at h9⊢
    have h8:=Ou (uG a) hak (Xh hkb hak h7 (by omega)) h5;have:=h7.le
    omega
 |none=>
  have e0:Br q (CV (BU (l.take a)) q) (a:Int) (CX l a b)=(CJ.none,0,false):=by unfold Br;rw [h0]
  rw [e0];refine ⟨fun _=>rfl,fun h=>?_⟩;obtain ⟨st1,h1,e1⟩:=Xu h;obtain ⟨e2,_⟩:=Iq hq hl (by omega:a≤l.length) (k -a) (by omega) st1 h1;rw [show a+(k -a)=k by omega]at e2;rw [e1];refine ⟨e2,?_,fun h=>by exact absurd h (by decide)⟩;have hs:=KH (q:=q) (base:=(a:Int)) (b:=(k:Int)) (CX l k b) (0+(CX l a k).length) 0 st1.1 st1.2 (k:Int) (by rw [FD (by omega)];omega)
  rw [PI hak hkb,Kv,h1]at h0;rw [show(st1.1,st1.2)=st1 from rfl,(show En q (a:Int) (0+(CX l a k).length) st1 (CX l k b)=none from h0)]at hs;unfold Br;simp only [hs,Option.map_none]
set_option maxHeartbeats 2000000 in
theorem fM{M:List AU}{v:Value}{xs:List (List Int)}(hX:Nw M v xs)(q0 q1 q2 q3 q4 cb cu:Int)(hq01:-9223372036854775808≤q0)(hq02:q0≤9223372036854775807)(hq11:-9223372036854775808≤q1)(hq12:q1≤9223372036854775807)(hq21:-9223372036854775808≤q2)(hq22:q2≤9223372036854775807)(hq31:-9223372036854775808≤q3)(hq32:q3≤9223372036854775807)(hq41:-9223372036854775808≤q4)(hq42:q4≤9223372036854775807)(hcb1:-9223372036854775808≤cb)(hcb2:cb≤9223372036854775807)(hcu1:-9223372036854775808≤cu)(hcu2:cu≤9223372036854775807)(tw:Value)(w:Int)(hw1:-9223372036854775808≤w)(hw2:w≤9223372036854775807)(Tg:TypeId)(zg:Nat×Nat):Az Tryz.prog 9 #[.agg #[v,I4 q0,I4 q1,I4 q2,I4 q3,I4 q4,I4 cb,I4 cu,tw],I4 w] [[(1,.cells (DC.map Bp).toArray Tg zg)],M] (.bool true):=by
 have hml:=mL;refine Se func9 ntmps9 [0,1] ?_;intro u R;refine Zq<|Zg<|Ze (Bx #[v,I4 q0,I4 q1,I4 q2,I4 q3,I4 q4,I4 cb,I4 cu,tw]) ?_;rintro _ _ ⟨bc,rfl,rfl⟩;refine Za Y<|Z0<|Zx<|Zq<|Zg<|Xr [] Y call11 Y rfl (pO Tg zg) ?_;refine Za Y<|Z0<|Zx<|Zq<|Zg<|Zo Wh (AZ (cs:=#[_,_,_,_,_,_,_,_,_]) isAgg26 sizeOf26 Y (by exact uG _) (by exact Ay rfl)) ?_;refine Zc [_] Y call12 Y rfl (W9 hX q0 q1 q2 q3 q4 cb cu hq01 hq02 hq11 hq12 hq21 hq22 hq31 hq32 hq41 hq42 hcb1 hcb2 hcu1 hcu2 tw) ?_;rintro _ _ ⟨_,⟨l,p,cap,s,q,a,b,hlog,hll,hRI,hq,hab,hb,rfl,rfl⟩,rfl⟩;obtain ⟨p9,cap9,e9,⟨hl1,hl2⟩,hgl⟩:=id hRI;injection e9 with e91 e92 e93
 subst e91 e93;refine Zm Y<|Zd Y rfl<|Zd Y rfl<|Zd Y rfl<|Zd Y rfl<|Ze (Al zeroValue30 #[_,_,_,_,_,_,_]) ?_;rintro _ _ ⟨bq,rfl,rfl⟩;refine Za Y<|Xe (Xw sizeOf30 #[I4 q.kd,I4 q.tb,I4 q.cl,I4 q.lo,I4 q.hi,I4 q.bq,I4 q.ot]) ?_;refine Za Y<|Za Y<|Z0<|Zn [1,5,6,7,8,9] ?_;refine Zx<|Zq<|Zg<|Zm Y<|Zm Y<|Zc [_,_] Y call13 Y rfl (om hRI hlog (by omega) a (by omega)) ?_;rintro _ _ ⟨_,⟨vs,ss,rfl,hS,rfl⟩,rfl⟩;refine Zm Y<|Zd Y rfl<|Zd Y rfl<|Za Y<|Za Y<|Z0<|Zx<|Zq<|Zg<|Zm Y<|Zo Wh (AZ (cs:=#[_,_,_,_,_,_,_]) isAgg30 sizeOf30 Y (by exact uG _) (by exact Ay rfl)) ?_;refine Zc [_,_] Y call33 Y rfl (nD _ _ _ _ hS (hlog.rowsOk a (by omega)) q hq) ?_;rintro _ _ ⟨_,⟨w4,m4,rfl,r4,rfl⟩,rfl⟩;obtain ⟨E9,hE9⟩:∃x,x=CV (BU (l.take a)) q:=⟨_,rfl⟩;rw [←hE9]at r4⊢;obtain ⟨g4,c4,rfl⟩:=r4.form;have hU4:=Cz r4 (by rw [hE9];have:=Gd (BU (l.take a)) q;have:=(hlog.rows a (by omega)).2;omega)
 refine Zm Y<|Zd Y rfl<|Zd Y rfl<|Ze (Al zeroValue51 #[_,_,_]) ?_;rintro _ _ ⟨b4,rfl,rfl⟩;refine Xe (Xw sizeOf51 #[.slice g4 E9.rows.length c4,I4 E9.val,.bool E9.fnd]) ?_;refine Za Y<|Z0<|Zn [1,5,6,7,8,9,11,12,13] ?_;refine Zx<|Zq<|Zq<|Zg<|Zm Y<|Zv (Dj (n:=0) Y Y)<|Zm Y ?_;refine Aj (t:=46) Y rfl (fun k1=>?_) (fun k1=>?_)
 ·
  exact absurd rfl k1
 refine Zf Y Y<|Yg (Dj (n:=0) Y Y)<|Zv (AC Y Y)<|Z0<|Zx ?_;refine Aq Y (fun k2=>?_) (fun k2=>?_)
 ·
  exact absurd rfl k2
 refine AB<|Zx<|Zq<|Zg<|Zm Y<|Zm Y<|Zm Y<|Zm Y<|Yb Y Y<|Ya (n:=1) Y Y<|Xr [_,_] Y call32 Y rfl (Y2 w (b -a+1) (by omega) (by omega) hw1 hw2) ?_;obtain ⟨d,hdd⟩:∃d,d=CG w (b -a+1):=⟨_,rfl⟩;rw [←hdd];have hld:=F9 w (b -a+1) (by omega)
 rw [←hdd]at hld;obtain ⟨A9,hA9⟩:∃x,x=Br q E9 (a:Int) (CX l a b):=⟨_,rfl⟩;obtain ⟨B9,hB9⟩:∃x,x=Br q E9 (a:Int) (CX l a (a+d)):=⟨_,rfl⟩;obtain ⟨C9,hC9⟩:∃x,x=Br q B9.1 ((a+d:Nat):Int) (CX l (a+d) b):=⟨_,rfl⟩;refine Ya Y Y<|Za Y<|Z0<|Zn [5,6,7,8,9,12,14] ?_;refine Zx<|Zb [5,6,7,8,9,12,14] ?_;refine CU (e0:=[]) (H0:=[]) (fun e H=>∃(b5:Nat) (g5:Option Addr) (c5:Nat) (m5:List AU),(BZ 5 113 (.slice g5 A9.1.rows.length c5) A9.1.rows.length (Ae A9.1.rows) m5)∧e=[(15,I5 b5),(16,I4 A9.2.1),(17,.bool A9.2.2)]∧H=[[(b5,.cells #[.slice g5 A9.1.rows.length c5,I4 A9.1.val,.bool A9.1.fnd] 51 (0,0))],m5]) Wp ?hx_1 ?hy_1
 case hx_1=>
  refine BK (n:=16) (0::0::0::0::0::0::56::127::255::511::511::511::0::5119::14335::32767::[]) 12416 (by kernel_rfl) (by kernel_rfl) rfl ?_;refine D9 (D':=1) 0 rfl rfl rfl Wh (AZ (cs:=#[_,_,_,_,_,_,_]) isAgg30 sizeOf30 Y (by exact uG _) (by exact Ay rfl)) ?_;refine D9 (D':=3) 1 rfl rfl rfl Wh (AZ (cs:=#[_,_,_]) isAgg51 sizeOf51 Y (by exact uG _) (by exact Ay rfl)) ?_;refine Zi 7 2 rfl (AL Y)<|Zi 15 3 rfl (AL Y)<|Zi 31 4 rfl (AL Y)<|Zi 63 5 rfl (AL Y) ?_
  (refine Dz (D':=127) 6 (Fq underlying28 sizeOf73 Y Y Y ?_ ?_) ?_;(focus (omega));(focus (omega)))
  refine Zz (l:=[7,12]) ?_;refine Zy 127 255 [1,0] [false,false] [] rfl Y rfl rfl rfl rfl (Zw [_,_,_,_] Y call36 Y rfl (FQ q hq (a:Int) (by omega) (show DW s _ (CX l a b) from Fp hRI (by omega) (by omega)) (by rw [FD (by omega)];omega) (FU hlog _ _) hU4 (by rw [hE9];have:=Gd (BU (l.take a)) q;have:=(hlog.rows a (by omega)).2;omega) (by rw [hE9];exact K7 (hlog.rows a (by omega)).2 (hlog.rowsOk a (by omega)) q))) ?hk_2 Cj ?hl_2
  case hk_2=>
   rintro _ _ ⟨_,⟨w5,m5,rfl,r5,rfl⟩,rfl⟩;refine ⟨Ad,?_⟩;rw [←hA9]at r5⊢;obtain ⟨g5,c5,rfl⟩:=r5.form;refine Zi 511 8 rfl (AL Y)<|Zi 1023 9 rfl (Bd Y rfl)<|Zi 2047 10 rfl (Bd Y rfl)<|Zi 4095 11 rfl (Bd Y rfl)<|Zz (l:=[12]) ?_;refine Zy 0 8191 [] [] [] rfl Y rfl rfl rfl rfl (Al zeroValue51 #[_,_,_]) ?hk_3 (fun _ _ h=>h.elim) ?hl_3
   case hk_3=>
    rintro _ _ ⟨b5,rfl,rfl⟩;refine ⟨Ad,?_⟩;refine Yw 13 16383 rfl (Xw sizeOf51 #[.slice g5 A9.1.rows.length c5,I4 A9.1.val,.bool A9.1.fnd]) ?_;rintro _ _ ⟨rfl,rfl⟩;refine Zi 32767 14 rfl (Au Y)<|Zi 65535 15 rfl (Au Y)<|Ao ?_;refine Zn [15,16,17,5,6,7,8,9,12,14] ?_;refine BA (e':=[(15,_),(16,_),(17,_)]) (by exact ⟨b5,g5,c5,m5,r5,rfl,rfl⟩)
   exact Ap
  refine Zy 0 4223 [1,0] [true,true] [(1,(_,_)),(0,(_,_))] rfl Y rfl rfl rfl rfl (Al zeroValue51 #[_,_,_]) ?hk_6 (fun _ _ h=>h.elim) ?hl_6
  case hk_6=>
   rintro _ _ ⟨b5,rfl,rfl⟩;refine ⟨Zk (Zk (Ad)),?_⟩;refine Zz (l:=[7]) ?_;refine Zy 127 4351 [1,0] [false,false] [] rfl Y rfl rfl rfl rfl (Zw [_,_,_,_] Y call36 Y rfl (FQ q hq (a:Int) (by omega) (show DW s _ (CX l a b) from Fp hRI (by omega) (by omega)) (by rw [FD (by omega)];omega) (FU hlog _ _) hU4 (by rw [hE9];have:=Gd (BU (l.take a)) q;have:=(hlog.rows a (by omega)).2;omega) (by rw [hE9];exact K7 (hlog.rows a (by omega)).2 (hlog.rowsOk a (by omega)) q))) ?hk_7 Cj ?hl_7
   case hk_7=>
    rintro _ _ ⟨_,⟨w5,m5,rfl,r5,rfl⟩,rfl⟩;refine ⟨Ad,?_⟩;rw [←hA9]at r5⊢;obtain ⟨g5,c5,rfl⟩:=r5.form;refine Zi 4607 8 rfl (AL Y)<|Zi 5119 9 rfl (Bd Y rfl)<|Zi 6143 10 rfl (Bd Y rfl)<|Zi 8191 11 rfl (Bd Y rfl)<|Zz (l:=[13]) ?_;refine Zy 5119 16383 [] [] [] rfl Y rfl rfl rfl rfl (Xw sizeOf51 #[.slice g5 A9.1.rows.length c5,I4 A9.1.val,.bool A9.1.fnd]) ?hk_8 (fun _ _ h=>h.elim) ?hl_8
    case hk_8=>
     rintro _ _ ⟨rfl,rfl⟩;refine ⟨Ad,?_⟩;refine Zi 32767 14 rfl (Au Y)<|Zi 65535 15 rfl (Au Y)<|Ao ?_;refine Zn [15,16,17,5,6,7,8,9,12,14] ?_;refine BA (e':=[(15,_),(16,_),(17,_)]) (by exact ⟨b5,g5,c5,m5,r5,rfl,rfl⟩)
    exact Ap
   exact Ap
  exact Ap
 rintro _ _ ⟨b5,g5,c5,m5,r5,rfl,rfl⟩;refine Zb [8,12,5,6,7,9,14,15,16,17] ?_;refine CU (e0:=[(8,_),(12,_)]) (H0:=[]) (fun e H=>∃(b6:Nat) (g6:Option Addr) (c6:Nat) (m6:List AU),(BZ 5 113 (.slice g6 B9.1.rows.length c6) B9.1.rows.length (Ae B9.1.rows) m6)∧e=[(18,I5 b6),(19,I4 B9.2.1),(20,.bool B9.2.2)]∧H=[[(b6,.cells #[.slice g6 B9.1.rows.length c6,I4 B9.1.val,.bool B9.1.fnd] 51 (0,0))],m6]) Wp ?hx_10 ?hy_10
 case hx_10=>
  refine BK (n:=16) (0::0::0::0::0::0::56::127::255::511::511::511::0::5119::14335::32767::[]) 12416 (by kernel_rfl) (by kernel_rfl) rfl ?_;refine D9 (D':=1) 0 rfl rfl rfl Wh (AZ (cs:=#[_,_,_,_,_,_,_]) isAgg30 sizeOf30 Y (by exact uG _) (by exact Ay rfl)) ?_;refine D9 (D':=3) 1 rfl rfl rfl Wh (AZ (cs:=#[_,_,_]) isAgg51 sizeOf51 Y (by exact uG _) (by exact Ay rfl)) ?_;refine Zi 7 2 rfl (AL Y)<|Zi 15 3 rfl (AL Y)<|Zi 31 4 rfl (AL Y)<|Zi 63 5 rfl (AL Y) ?_
  (refine Dz (D':=127) 6 (Fq underlying28 sizeOf73 Y Y Y ?_ ?_) ?_;(focus (omega));(focus (omega)))
  refine Zz (l:=[7,12]) ?_;refine Zy 127 255 [1,0] [false,false] [] rfl Y rfl rfl rfl rfl (Zw [_,_,_,_] Y call36 Y rfl (FQ q hq (a:Int) (by omega) (show DW s _ (CX l a (a+d)) from Fp hRI (by omega) (by omega)) (by rw [FD (by omega)];omega) (FU hlog _ _) hU4 (by rw [hE9];have:=Gd (BU (l.take a)) q;have:=(hlog.rows a (by omega)).2;omega) (by rw [hE9];exact K7 (hlog.rows a (by omega)).2 (hlog.rowsOk a (by omega)) q))) ?hk_11 Cj ?hl_11
  case hk_11=>
   rintro _ _ ⟨_,⟨w6,m6,rfl,r6,rfl⟩,rfl⟩;refine ⟨Ad,?_⟩;rw [←hB9]at r6⊢;obtain ⟨g6,c6,rfl⟩:=r6.form;refine Zi 511 8 rfl (AL Y)<|Zi 1023 9 rfl (Bd Y rfl)<|Zi 2047 10 rfl (Bd Y rfl)<|Zi 4095 11 rfl (Bd Y rfl)<|Zz (l:=[12]) ?_;refine Zy 0 8191 [] [] [] rfl Y rfl rfl rfl rfl (Al zeroValue51 #[_,_,_]) ?hk_12 (fun _ _ h=>h.elim) ?hl_12
   case hk_12=>
    rintro _ _ ⟨b6,rfl,rfl⟩;refine ⟨Ad,?_⟩;refine Yw 13 16383 rfl (Xw sizeOf51 #[.slice g6 B9.1.rows.length c6,I4 B9.1.val,.bool B9.1.fnd]) ?_;rintro _ _ ⟨rfl,rfl⟩;refine Zi 32767 14 rfl (Au Y)<|Zi 65535 15 rfl (Au Y)<|Ao ?_;refine Zn [18,19,20,5,6,7,9,14,15,16,17] ?_;refine BA (e':=[(18,_),(19,_),(20,_)]) (by exact ⟨b6,g6,c6,m6,r6,rfl,rfl⟩)
   exact Ap
  refine Zy 0 4223 [1,0] [true,true] [(1,(_,_)),(0,(_,_))] rfl Y rfl rfl rfl rfl (Al zeroValue51 #[_,_,_]) ?hk_15 (fun _ _ h=>h.elim) ?hl_15
  case hk_15=>
   rintro _ _ ⟨b6,rfl,rfl⟩;refine ⟨Zk (Zk (Ad)),?_⟩;refine Zz (l:=[7]) ?_;refine Zy 127 4351 [1,0] [false,false] [] rfl Y rfl rfl rfl rfl (Zw [_,_,_,_] Y call36 Y rfl (FQ q hq (a:Int) (by omega) (show DW s _ (CX l a (a+d)) from Fp hRI (by omega) (by omega)) (by rw [FD (by omega)];omega) (FU hlog _ _) hU4 (by rw [hE9];have:=Gd (BU (l.take a)) q;have:=(hlog.rows a (by omega)).2;omega) (by rw [hE9];exact K7 (hlog.rows a (by omega)).2 (hlog.rowsOk a (by omega)) q))) ?hk_16 Cj ?hl_16
   case hk_16=>
    rintro _ _ ⟨_,⟨w6,m6,rfl,r6,rfl⟩,rfl⟩;refine ⟨Ad,?_⟩;rw [←hB9]at r6⊢;obtain ⟨g6,c6,rfl⟩:=r6.form;refine Zi 4607 8 rfl (AL Y)<|Zi 5119 9 rfl (Bd Y rfl)<|Zi 6143 10 rfl (Bd Y rfl)<|Zi 8191 11 rfl (Bd Y rfl)<|Zz (l:=[13]) ?_;refine Zy 5119 16383 [] [] [] rfl Y rfl rfl rfl rfl (Xw sizeOf51 #[.slice g6 B9.1.rows.length c6,I4 B9.1.val,.bool B9.1.fnd]) ?hk_17 (fun _ _ h=>h.elim) ?hl_17
    case hk_17=>
     rintro _ _ ⟨rfl,rfl⟩;refine ⟨Ad,?_⟩;refine Zi 32767 14 rfl (Au Y)<|Zi 65535 15 rfl (Au Y)<|Ao ?_;refine Zn [18,19,20,5,6,7,9,14,15,16,17] ?_;refine BA (e':=[(18,_),(19,_),(20,_)]) (by exact ⟨b6,g6,c6,m6,r6,rfl,rfl⟩)
    exact Ap
   exact Ap
  exact Ap
 rintro _ _ ⟨b6,g6,c6,m6,r6,rfl,rfl⟩;obtain ⟨f1,f2⟩:=SC hq hlog (by omega:a≤a+d) (by omega) hb (hE9▸hA9) (hE9▸hB9);refine Zq<|Zq<|Zg<|Zm Y<|Zv (Cg Y)<|Z0<|Zx ?_;refine Ag Y (fun k3=>?_) (fun k3=>?_)
 ·
  have f3:=f1 (by simpa using k3);refine Zq<|Zg<|Zm Y<|Zm Y ?_;refine Ak (t:=85) Y rfl (fun k4=>?_) (fun k4=>?_)
  ·
   refine Zf Y Y<|Yg (Cg Y)<|Zv (AO Y Y)<|Za Y<|Z0<|Zx<|AA<|Zt ?_;refine AJ rfl results9 Y (by exact ⟨by rw [f3];rfl,rfl⟩)
  cases k4
 obtain ⟨f4,f5,f6⟩:=f2 (by simpa using k3);have hU6:=Cz r6 (by rw [f4];have:=Gd (BU (l.take (a+d))) q;have:=(hlog.rows (a+d) (by omega)).2;omega)
 refine AB<|Zx<|Zb [6,7,9,18,5,14,15,16,17,19] ?_;refine CU (e0:=[(6,_),(7,_),(9,_),(18,_)]) (H0:=[]) (fun e H=>∃(b8:Nat) (g8:Option Addr) (c8:Nat) (m8:List AU),(BZ 5 113 (.slice g8 C9.1.rows.length c8) C9.1.rows.length (Ae C9.1.rows) m8)∧e=[(21,I5 b8),(22,I4 C9.2.1),(23,.bool C9.2.2)]∧H=[[(b8,.cells #[.slice g8 C9.1.rows.length c8,I4 C9.1.val,.bool C9.1.fnd] 51 (0,0))],m8]) Wp ?hx_20 ?hy_20
 case hx_20=>
  refine BK (n:=16) (0::0::0::0::0::0::56::127::255::511::511::511::0::5119::14335::32767::[]) 12416 (by kernel_rfl) (by kernel_rfl) rfl ?_;refine D9 (D':=1) 0 rfl rfl rfl Wh (AZ (cs:=#[_,_,_,_,_,_,_]) isAgg30 sizeOf30 Y (by exact uG _) (by exact Ay rfl)) ?_;refine D9 (D':=3) 1 rfl rfl rfl Wh (AZ (cs:=#[_,_,_]) isAgg51 sizeOf51 Y (by exact uG _) (by exact Ay rfl)) ?_;refine Zi 7 2 rfl (AL Y)<|Zi 15 3 rfl (AL Y)<|Zi 31 4 rfl (AL Y)<|Zi 63 5 rfl (AL Y) ?_
  (refine Dz (D':=127) 6 (Fq underlying28 sizeOf73 Y Y Y ?_ ?_) ?_;(focus (omega));(focus (omega)))
  refine Zz (l:=[7,12]) ?_;refine Zy 127 255 [1,0] [false,false] [] rfl Y rfl rfl rfl rfl (Zw [_,_,_,_] Y call36 Y rfl (FQ q hq ((a+d:Nat):Int) (by omega) (show DW s _ (CX l (a+d) b) from Fp hRI (by omega) (by omega)) (by rw [FD (by omega)];omega) (FU hlog _ _) hU6 (by rw [f4];have:=Gd (BU (l.take (a+d))) q;have:=(hlog.rows (a+d) (by omega)).2;omega) (by rw [f4];exact K7 (hlog.rows (a+d) (by omega)).2 (hlog.rowsOk (a+d) (by omega)) q))) ?hk_21 Cj ?hl_21
  case hk_21=>
   rintro _ _ ⟨_,⟨w8,m8,rfl,r8,rfl⟩,rfl⟩;refine ⟨Ad,?_⟩;rw [←hC9]at r8⊢;obtain ⟨g8,c8,rfl⟩:=r8.form;refine Zi 511 8 rfl (AL Y)<|Zi 1023 9 rfl (Bd Y rfl)<|Zi 2047 10 rfl (Bd Y rfl)<|Zi 4095 11 rfl (Bd Y rfl)<|Zz (l:=[12]) ?_;refine Zy 0 8191 [] [] [] rfl Y rfl rfl rfl rfl (Al zeroValue51 #[_,_,_]) ?hk_22 (fun _ _ h=>h.elim) ?hl_22
   case hk_22=>
    rintro _ _ ⟨b8,rfl,rfl⟩;refine ⟨Ad,?_⟩;refine Yw 13 16383 rfl (Xw sizeOf51 #[.slice g8 C9.1.rows.length c8,I4 C9.1.val,.bool C9.1.fnd]) ?_;rintro _ _ ⟨rfl,rfl⟩;refine Zi 32767 14 rfl (Au Y)<|Zi 65535 15 rfl (Au Y)<|Ao ?_;refine Zn [21,22,23,5,14,15,16,17,19] ?_;refine BA (e':=[(21,_),(22,_),(23,_)]) (by exact ⟨b8,g8,c8,m8,r8,rfl,rfl⟩)
   exact Ap
  refine Zy 0 4223 [1,0] [true,true] [(1,(_,_)),(0,(_,_))] rfl Y rfl rfl rfl rfl (Al zeroValue51 #[_,_,_]) ?hk_25 (fun _ _ h=>h.elim) ?hl_25
  case hk_25=>
   rintro _ _ ⟨b8,rfl,rfl⟩;refine ⟨Zk (Zk (Ad)),?_⟩;refine Zz (l:=[7]) ?_;refine Zy 127 4351 [1,0] [false,false] [] rfl Y rfl rfl rfl rfl (Zw [_,_,_,_] Y call36 Y rfl (FQ q hq ((a+d:Nat):Int) (by omega) (show DW s _ (CX l (a+d) b) from Fp hRI (by omega) (by omega)) (by rw [FD (by omega)];omega) (FU hlog _ _) hU6 (by rw [f4];have:=Gd (BU (l.take (a+d))) q;have:=(hlog.rows (a+d) (by omega)).2;omega) (by rw [f4];exact K7 (hlog.rows (a+d) (by omega)).2 (hlog.rowsOk (a+d) (by omega)) q))) ?hk_26 Cj ?hl_26
   case hk_26=>
    rintro _ _ ⟨_,⟨w8,m8,rfl,r8,rfl⟩,rfl⟩;refine ⟨Ad,?_⟩;rw [←hC9]at r8⊢;obtain ⟨g8,c8,rfl⟩:=r8.form;refine Zi 4607 8 rfl (AL Y)<|Zi 5119 9 rfl (Bd Y rfl)<|Zi 6143 10 rfl (Bd Y rfl)<|Zi 8191 11 rfl (Bd Y rfl)<|Zz (l:=[13]) ?_;refine Zy 5119 16383 [] [] [] rfl Y rfl rfl rfl rfl (Xw sizeOf51 #[.slice g8 C9.1.rows.length c8,I4 C9.1.val,.bool C9.1.fnd]) ?hk_27 (fun _ _ h=>h.elim) ?hl_27
    case hk_27=>
     rintro _ _ ⟨rfl,rfl⟩;refine ⟨Ad,?_⟩;refine Zi 32767 14 rfl (Au Y)<|Zi 65535 15 rfl (Au Y)<|Ao ?_;refine Zn [21,22,23,5,14,15,16,17,19] ?_;refine BA (e':=[(21,_),(22,_),(23,_)]) (by exact ⟨b8,g8,c8,m8,r8,rfl,rfl⟩)
    exact Ap
   exact Ap
  exact Ap
 rintro _ _ ⟨b8,g8,c8,m8,r8,rfl,rfl⟩;rw [←hC9]at f5 f6;refine Zq<|Zq<|Zg<|Zm Y<|Zm Y<|Zv (JA underlying4 Y Y)<|Z0<|Zx ?_;refine Ag Y (fun k5=>?_) (fun k5=>?_)
 ·
  rw [f5]at k5;simp at k5
 refine AB<|Zx<|Zq<|Zq<|Zg<|Zm Y<|Zv (Cg Y)<|Z0<|Zx ?_;refine Ag Y (fun k6=>?_) (fun k6=>?_)
 ·
  refine Zq<|Zg<|Zm Y<|Za Y<|Z0<|Zx<|AA<|Zt ?_;refine AJ rfl results9 Y (by exact ⟨rfl,rfl⟩)
 obtain ⟨j1,j0,j2,j3⟩:=f6 (by simpa using k6);have j5:=Gd (BU (l.take b)) q
 have j6:=(hlog.rows b (by omega)).2;have hU5:=Cz r5 (by rw [j0];omega)
 have hU8:=Cz r8 (by rw [←j1,j0];omega);refine AB<|Zx<|Zq<|Zq<|Zg<|Zm Y<|Zm Y<|Zv (Eu Y Y)<|Z0<|Zx ?_;refine Aq Y (fun k7=>?_) (fun k7=>?_)
 ·
  have j4:=j2 k7;refine Zg<|Zm Y<|Za Y<|Z0<|Zx<|Zq<|Zg<|Zm Y<|Zm Y ?_;refine Ak (t:=112) Y rfl (fun k8=>?_) (fun k8=>?_)
  ·
   refine D8 Y Wh (AZ (cs:=#[_,_,_]) isAgg51 sizeOf51 Y (by exact uG _) (by exact Ay rfl)) rfl rfl ?_;refine D8 Y Wh (AZ (cs:=#[_,_,_]) isAgg51 sizeOf51 Y (by exact uG _) (by exact Ay rfl)) rfl rfl ?_;refine Xr [_,_] Y call31 Y rfl (U0 hU5 hU8) ?_;rw [decide_eq_true j1];refine Zv (AO Y Y)<|Zm Y ?_;refine Ak (t:=117) Y rfl (fun k8=>?_) (fun k8=>?_)
   ·
    refine Zf Y Y<|Zf Y Y<|Yg (CO Y Y)<|Zv (AO Y Y)<|Za Y<|Z0<|Zn [4] ?_;refine Zx<|AA ?_;refine AJ rfl results9 Y (by exact ⟨by rw [decide_eq_true j4],rfl⟩)
   cases k8
  cases k8
 have j4:=j3 k7;refine AB<|Zx<|Zq<|Zg<|Zm Y<|Zm Y ?_;refine Ak (t:=112) Y rfl (fun k8=>?_) (fun k8=>?_)
 ·
  refine D8 Y Wh (AZ (cs:=#[_,_,_]) isAgg51 sizeOf51 Y (by exact uG _) (by exact Ay rfl)) rfl rfl ?_;refine D8 Y Wh (AZ (cs:=#[_,_,_]) isAgg51 sizeOf51 Y (by exact uG _) (by exact Ay rfl)) rfl rfl ?_;refine Xr [_,_] Y call31 Y rfl (U0 hU5 hU8) ?_;rw [decide_eq_true j1];refine Zv (AO Y Y)<|Zm Y ?_;refine Ak (t:=117) Y rfl (fun k8=>?_) (fun k8=>?_)
  ·
   refine Zf Y Y<|Zf Y Y<|Yg (CO Y Y)<|Zv (AO Y Y)<|Za Y<|Z0<|Zn [4] ?_;refine Zx<|AA ?_;refine AJ rfl results9 Y (by exact ⟨by rw [decide_eq_true j4],rfl⟩)
  cases k8
 cases k8
end Go.Proofs.YtkdgffcfmgmemaaGreatDoor
namespace Go.Proofs.YtkdgffcfmgmemaaGreatDoor
open Go.Proofs.Tryz
open Go Go.RowKit Gw
set_option maxRecDepth 100000
attribute [local irreducible] Gw.At Gw.Nx Gw.Ops
open Go.ChangeShapes Go.WideShapes Go.Deep
theorem dZ{l:List Value}(h:l.length=5):∃a b c d e,l=[a,b,c,d,e]:=by
 match l,h with
 |[a,b,c,d,e],_=>exact ⟨a,b,c,d,e,rfl⟩
theorem dP{H:Type}{enc:TypeId×Value→H}{W:World}{base:Nat}{held:Bool}{fuel:Nat}{l:List Value}{x:DataW H×List MemPlace}(h:DataW.trod enc Tryz.prog W base (fun _=>true) held fuel 23 l=some x)(hl:l.length=5):
 ∃a b c d e:Int,l=[I4 a,I4 b,I4 c,I4 d,I4 e]∧(-9223372036854775808≤a∧a≤9223372036854775807)∧(-9223372036854775808≤b∧b≤9223372036854775807)∧(-9223372036854775808≤c∧c≤9223372036854775807)∧(-9223372036854775808≤d∧d≤9223372036854775807)∧(-9223372036854775808≤e∧e≤9223372036854775807):=by
 obtain ⟨ys,m,_,_,_,hyl,hf⟩:=DataW.trod_array underlying23 h;have hj:∀j,j<5→∃n:Int,l[j]?=some (I4 n)∧-9223372036854775808≤n∧n≤9223372036854775807:=fun j hj=>by
  have f:=hf j hj;rw [sG,xB,tq (by omega)]at f;have hj2:j<l.length:=by omega
  have e:(l.drop j).take 1=[l[j]]:=by rw [vY hj2];rfl
  rw [e]at f;obtain ⟨k,hk,_,hkw⟩:=DataW.trod_int underlying3 f;injection hk with hk _
  exact ⟨k,by rw [tq hj2,hk],bounds_i64 hkw⟩
 obtain ⟨v0,v1,v2,v3,v4,rfl⟩:=dZ hl;obtain ⟨a,ha,ha2⟩:=hj 0 (by decide);obtain ⟨b,hb,hb2⟩:=hj 1 (by decide);obtain ⟨c,hc,hc2⟩:=hj 2 (by decide);obtain ⟨d,hd,hd2⟩:=hj 3 (by decide);obtain ⟨e,he,he2⟩:=hj 4 (by decide);simp at ha hb hc hd he;subst ha hb hc hd he;exact ⟨a,b,c,d,e,rfl,ha2,hb2,hc2,hd2,he2⟩
theorem YI{P:Program}{w:World}{r:Reach}{base:Nat}{t:TypeId}{fs:Array Field}{v:Value}(hu:P.underlying t=some (.struct fs))(h:Value.okWide P w r base t v):∃cs,v= .agg cs∧cs.size=P.cellsOf t:=by
 unfold Value.okWide at h;rw [hu]at h;obtain ⟨cs,rfl,h1,_⟩:=h;exact ⟨cs,rfl,h1⟩
theorem qO:Tryz.prog.cellsOf 26=9:=by kernel_rfl
open Go.ChangeShapes Go.WideShapes Go.Deep
section
variable{H:Type}{enc:TypeId×Value→H}{W:World}{base:Nat}{held:Bool}
theorem YH{Tg:TypeId}{zg:Nat×Nat}(h4:W.heap[1]?=some (.cells (DC.map Bp).toArray Tg zg)){fuel:Nat}{cs:List Value}{x:DataW H×List MemPlace}(h:DataW.trod enc Tryz.prog W base (fun _=>true) held fuel 26 cs=some x)(hl:cs.length=9):
 ∃(p:Option Addr) (cap:Nat) (ys:List (List Int)) (n0 n1 n2 n3 n4 n5 n6:Int) (tw:Value),cs=[.slice p ys.length cap,I4 n0,I4 n1,I4 n2,I4 n3,I4 n4,I4 n5,I4 n6,tw]∧Nw (P8 W [1]) (.slice p ys.length cap) ys∧(-9223372036854775808≤n0∧n0≤9223372036854775807)∧(-9223372036854775808≤n1∧n1≤9223372036854775807)∧(-9223372036854775808≤n2∧n2≤9223372036854775807)∧(-9223372036854775808≤n3∧n3≤9223372036854775807)∧(-9223372036854775808≤n4∧n4≤9223372036854775807)∧(-9223372036854775808≤n5∧n5≤9223372036854775807)∧(-9223372036854775808≤n6∧n6≤9223372036854775807):=by
 obtain ⟨xs,m,_,hx,hcl,hxl,hf⟩:=DataW.trod_struct underlying26 h
 match cs,hl with
 |[a0,a1,a2,a3,a4,a5,a6,a7,a8],_=>
  have hy:∀i,i<5→∃y,xs[i]?=some y:=fun i hi=>⟨_,tq (by rw [hxl];exact hi)⟩;obtain ⟨y0,hy0⟩:=hy 0 (by decide);obtain ⟨y1,hy1⟩:=hy 1 (by decide);obtain ⟨y2,hy2⟩:=hy 2 (by decide);obtain ⟨y3,hy3⟩:=hy 3 (by decide);obtain ⟨u,g,hu,hm⟩:=WN h4 ((hf 0 _ rfl).trans hy0);obtain ⟨n0,n1,n2,n3,n4,e1,b0,b1,b2,b3,b4⟩:=dP ((hf 1 _ rfl).trans hy1) rfl;obtain ⟨n5,e5,_,b5⟩:=DataW.trod_int underlying3 ((hf 2 _ rfl).trans hy2);obtain ⟨n6,e6,_,b6⟩:=DataW.trod_int underlying3 ((hf 3 _ rfl).trans hy3);obtain ⟨p,cap,e,hz⟩:=id hm;subst e;change [a0]=[_]at hu;change [a1,a2,a3,a4,a5]=[_,_,_,_,_]at e1;change [a6]=[_]at e5;change [a7]=[_]at e6;injection hu with hu
  injection e1 with e1 e2
  injection e2 with e2 e3
  injection e3 with e3 e4
  injection e4 with e4 e7
  injection e7 with e7
  injection e5 with e5
  injection e6 with e6
  subst hu e1 e2 e3 e4 e7 e5 e6;exact ⟨p,cap,g,n0,n1,n2,n3,n4,n5,n6,a8,rfl,hm,b0,b1,b2,b3,b4,bounds_i64 b5,bounds_i64 b6⟩
end
end Go.Proofs.YtkdgffcfmgmemaaGreatDoor
namespace Go.Proofs.YtkdgffcfmgmemaaGreatDoor
open Go.Proofs.Tryz
open Go Go.RowKit Gw
set_option maxRecDepth 100000
attribute [local irreducible] Gw.At Gw.Nx Gw.Ops
theorem Uz(p:Option Addr)(cap:Nat)(ys:List (List Int))(M:List AU)(hX:Nw M (.slice p ys.length cap) ys)(n0 n1 n2 n3 n4 n5 n6:Int)(hn0:-9223372036854775808≤n0∧n0≤9223372036854775807)(hn1:-9223372036854775808≤n1∧n1≤9223372036854775807)(hn2:-9223372036854775808≤n2∧n2≤9223372036854775807)(hn3:-9223372036854775808≤n3∧n3≤9223372036854775807)(hn4:-9223372036854775808≤n4∧n4≤9223372036854775807)(hn5:-9223372036854775808≤n5∧n5≤9223372036854775807)(hn6:-9223372036854775808≤n6∧n6≤9223372036854775807)(tw:Value)(w:Int)(w1:-9223372036854775808≤w)(w2:w≤9223372036854775807)(Tg:TypeId)(zg:Nat×Nat):Az Tryz.prog 9 #[.agg #[.slice p ys.length cap,I4 n0,I4 n1,I4 n2,I4 n3,I4 n4,I4 n5,I4 n6,tw],I4 w] [[(1,.cells (DC.map Bp).toArray Tg zg)],M] (.bool true):=fM hX n0 n1 n2 n3 n4 n5 n6 hn0.1 hn0.2 hn1.1 hn1.2 hn2.1 hn2.2 hn3.1 hn3.2 hn4.1 hn4.2 hn5.1 hn5.2 hn6.1 hn6.2 tw w w1 w2 Tg zg
end Go.Proofs.YtkdgffcfmgmemaaGreatDoor
namespace Go.Proofs.YtkdgffcfmgmemaaGreatDoor
open Go.Proofs.Tryz
open Go Go.RowKit Gw
set_option maxRecDepth 100000
attribute [local irreducible] Gw.At Gw.Nx Gw.Ops
open Go.ChangeShapes Go.WideShapes Go.ChangeAt
theorem Uq{P:Program}{f:FuncId}{fn:Func}{s:ChangeSpec}{c:OpenClaim}(h0:c.wf (OpenSpec.ofChange s)=true)(h1:laidOutB P=true)(h2:mapsRowed P=true)(h3:fn.params.all (P.readableRec ·)=true)(h4:namedTie P c.named s.vars=true)(h5:(c.stops== [])=true)(h6:(P.stops== [])=true)(h7:(c.knobs== [])=true)(h8:(P.stopKnobs== [])=true)(h9:(c.inPlace==P.inPlace f)=true)(h10:(c.unfollowed==P.unfollowed f)=true)(h11:(c.recurses==P.recurses f)=true)(h12:(c.named==P.varsNamed f)=true)(h13:(c.maps==(fn.params.toList++s.plain.varTypes P).any (P.mapsRec ·))=true)(h14:(c.ifaces==(fn.params.toList++s.plain.varTypes P).any (P.ifacesRec ·))=true)(h15:(c.mapsOut==P.mapsAmong fn.resultTypes.toList)=true)(h16:(c.loops==(fn.params.toList++s.plain.varTypes P).any (P.loopsFrom ·))=true)(h17:(c.wideKeys==(fn.params.toList++s.plain.varTypes P++fn.resultTypes.toList).any (P.wideKeysFrom ·))=true)(h18:s.vars.all (P.varReadable ·)=true)(h19:fn.resultTypes.all (fun t=>P.readableRec t&&decide (t<P.types.size))=true)(h20:(c.ifacesOut==fn.resultTypes.toList.any (P.ifacesRec ·))=true)(h21:(c.loopsOut==fn.resultTypes.toList.any (P.loopsFrom ·))=true)(h22:(c.plainKeys==P.plainKeys)=true)(h23:c.shortTexts.isNone=true)(h24:P.stopsHeard=true)(h25:P.mayEnter=true)(h26:(c.lifted==P.liftsFinal)=true)(h27:(P.make==some c.make)=true)(h28:(c.kinds==(if c.domain.isEmpty then []else fn.params.toList.map fun t=>match P.underlying t with|some (.int k)=>some k|_=>none))=true)(h29:(c.pinned==c.pinnedBy)=true)(h30:(c.veiled==(fn.params.toList++s.plain.varTypes P++fn.resultTypes.toList).any (P.veiledRec ·))=true)(h31:c.veiledFits P fn.params.toList (fn.params.toList++s.plain.varTypes P++fn.resultTypes.toList)=true):joinedFacts P f fn s c=true:=by
 unfold joinedFacts;simp only [uP];exact ⟨⟨⟨⟨⟨⟨⟨⟨⟨⟨⟨⟨⟨⟨⟨⟨⟨⟨⟨⟨⟨⟨⟨⟨⟨⟨⟨⟨⟨⟨⟨h0,h1⟩,h2⟩,h3⟩,h4⟩,h5⟩,h6⟩,h7⟩,h8⟩,h9⟩,h10⟩,h11⟩,h12⟩,h13⟩,h14⟩,h15⟩,h16⟩,h17⟩,h18⟩,h19⟩,h20⟩,h21⟩,h22⟩,h23⟩,h24⟩,h25⟩,h26⟩,h27⟩,h28⟩,h29⟩,h30⟩,h31⟩
end Go.Proofs.YtkdgffcfmgmemaaGreatDoor
