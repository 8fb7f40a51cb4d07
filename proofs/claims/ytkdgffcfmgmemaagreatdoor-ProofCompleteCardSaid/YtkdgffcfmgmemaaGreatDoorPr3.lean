/- eval: From, Of, Same. -/
/- eval: Same, Of. -/
/- The patches of a result. -/
/- The patches of the kinds of queries (not joins). -/
import Derived.Test.YtkdgffcfmgmemaaGreatDoorEz
import Derived.Test.YtkdgffcfmgmemaaGreatDoorQe6
import Derived.Test.YtkdgffcfmgmemaaGreatDoorQe1
set_option linter.unusedVariables false
set_option linter.unusedSimpArgs false
namespace Go.Proofs.YtkdgffcfmgmemaaGreatDoor
open Go.Proofs.Tryz
open Go Go.RowKit Gw
set_option maxRecDepth 100000
attribute [local irreducible] Gw.At Gw.Nx Gw.Ops
def Gb(q:QM)(rows others:List AP):CO:=if BN q then F8 q rows others else CO.none
theorem oK{q:QM}{rows others:List AP}(h:¬BN q):Gb q rows others=⟨[],0,false⟩:=if_neg h
theorem M9{q:QM}{rows others:List AP}(h:BN q):Gb q rows others=F8 q rows others:=if_pos h
theorem rO{q:QM}{rows others:List AP}(h:BN q)(k:q.kd=3):Gb q rows others=⟨[],rows.length,false⟩:=by rw [M9 h];unfold F8;rw [if_pos k]
theorem rM{q:QM}{rows others:List AP}(h:BN q)(k:q.kd=4):Gb q rows others=⟨[],Ki (Ce q rows),false⟩:=by rw [M9 h];unfold F8;rw [if_neg (by omega),if_pos k]
theorem rJ{q:QM}{rows others:List AP}(h:BN q)(k:q.kd=5):Gb q rows others=EJ (fun a b=>decide (a<b)) (Ce q rows):=by rw [M9 h];unfold F8;rw [if_neg (by omega),if_neg (by omega),if_pos k]
theorem rH{q:QM}{rows others:List AP}(h:BN q)(k:q.kd=6):Gb q rows others=EJ (fun a b=>decide (b<a)) (Ce q rows):=by rw [M9 h];unfold F8;rw [if_neg (by omega),if_neg (by omega),if_neg (by omega),if_pos k]
theorem rG{q:QM}{rows others:List AP}(h:BN q)(k:q.kd=7):Gb q rows others=⟨IL q rows others,0,false⟩:=by rw [M9 h];unfold F8;rw [if_neg (by omega),if_neg (by omega),if_neg (by omega),if_neg (by omega),if_pos k]
theorem rP{q:QM}{rows others:List AP}(h:BN q)(k3:¬q.kd=3)(k4:¬q.kd=4)(k5:¬q.kd=5)(k6:¬q.kd=6)(k7:¬q.kd=7):Gb q rows others=⟨rows,0,false⟩:=by rw [M9 h];unfold F8;rw [if_neg k3,if_neg k4,if_neg k5,if_neg k6,if_neg k7]
theorem aj{ms:List Int}{i:Nat}{x:Int}(h:ms[i]?=some x):Ki (ms.take (i+1))=Ki (ms.take i)+x:=by unfold Ki;rw [Bp h,wJ];rfl
theorem Po(B:Int):∀(ms:List Int),(∀m∈ms,-B≤m∧m≤B)→-(ms.length*B)≤JU ms∧JU ms≤ms.length*B
 |[],_=>by simp [JU]
 |m::ms,h=>by
  have h1:=h m (by simp);have h2:=Po B ms (fun y hy=>h y (ug _ hy))
  have h3:((m::ms).length:Int)*B=ms.length*B+B:=by rw [tX];push_cast;rw [Int.add_mul,Int.one_mul]
  simp only [JU];omega
theorem ZK{ms:List Int}(h:∀m∈ms,-1000000000≤m∧m≤1000000000)(hl:ms.length≤1000000000)(i:Nat):-1000000000000000000≤Ki (ms.take i)∧Ki (ms.take i)≤1000000000000000000:=by
 have h1:=Po 1000000000 (ms.take i) (fun m hm=>h m (vC hm));have h2:(ms.take i).length≤1000000000:=by rw [tL];omega
 unfold Ki;rw [Lr];omega
theorem eU{lt:Int→Int→Bool}{ms:List Int}{i:Nat}{x:Int}(h:ms[i]?=some x):EJ lt (ms.take (i+1))=⟨(EJ lt (ms.take i)).rows,if !(EJ lt (ms.take i)).fnd||lt x (EJ lt (ms.take i)).val then x else(EJ lt (ms.take i)).val,true⟩:=by unfold EJ;rw [Bp h,wJ];rfl
theorem Ls(lt:Int→Int→Bool)(ms:List Int):∀r:CO,(ms.foldl (fun r n=>⟨r.rows,if !r.fnd||lt n r.val then n else r.val,true⟩:CO→Int→CO) r).rows=r.rows:=by
 induction ms with
 |nil=>intro r;rfl
 |cons m ms ih=>intro r;rw [xD,ih]
theorem YW{M:List AR}{v:Value}{rows:List AP}(hv:Dn M v rows)(hb:rows.length≤1000000000):Aw Tryz.prog 138 #[v,.agg #[.slice none 0 0,I4 0,.bool false],.func (.func 139) #[] #[]] [M] (.agg #[.slice none 0 0,I4 (rows.length:Int),.bool false]):=
 YP hv (fun i=>((i:Int),false)) rfl 139 [] call139 (fun i r hr=>by
  have hlt:=(tH.1 hr).1;have:=YO (i:Int) false r (by omega)
  exact LD this)
theorem gJ{s:List AR}{p:Option Addr}{cap:Nat}{ms:List Int}(hc:Fe s p (ms.map ivQ))(hl:ms.length≤1000000000)(hlc:ms.length≤cap)(hm:∀m∈ms,-1000000000≤m∧m≤1000000000):Aw Tryz.prog 140 #[.slice p ms.length cap,.agg #[.slice none 0 0,I4 0,.bool false],.func (.func 142) #[] #[]] [s] (.agg #[.slice none 0 0,I4 (Ki ms),.bool false]):=by
 have hml:=mL;have h:=Qx hc (by omega) hlc (fun i=>(Ki (ms.take i),false)) rfl 142 [] call142 (fun i x hx=>by
  have h1:=ZK hm hl i;have h2:=hm x (tV hx)
  have h3:=YN (Ki (ms.take i)) x false (by omega);show Aw _ _ _ _ (.agg #[.slice none 0 0,I4 (Ki (ms.take (i+1))),.bool false])
  rw [aj hx];exact LD h3)
 rwa [uQ]at h
theorem Wl{s:List AR}{p:Option Addr}{cap:Nat}{ms:List Int}(hc:Fe s p (ms.map ivQ))(hl:ms.length≤1000000000)(hlc:ms.length≤cap)(b fid:Nat)(lt:Int→Int→Bool)(hcf:∀(args:Array Value) (w:World),(callFunc fid args).run Tryz.prog w= .ok (.enter fid args) w)(hlt:∀x y:Int,Aw Tryz.prog fid #[I4 x,I4 y] [] (.bool (lt x y))):Aw Tryz.prog 140 #[.slice p ms.length cap,.agg #[.slice none 0 0,I4 0,.bool false],.func (.func 221) #[] #[I5 b]] [s,[(b,.cells #[.func (.func fid) #[] #[]] 185 (0,0))]] (.agg #[.slice none 0 0,I4 (EJ lt ms).val,.bool (EJ lt ms).fnd]):=by
 have hml:=mL;refine Tq ?_;have h:=Qx (M:=s++[(b,.cells #[.func (.func fid) #[] #[]] 185 (0,0))]) (ms:=ms) (p:=p) (fun j u hu=>by
  obtain ⟨g,o,c,T,z,h1,h2,h3⟩:=hc j u hu;exact ⟨g,o,c,T,z,h1,u6 _ h2,h3⟩) (by omega) hlc (fun i=>((EJ lt (ms.take i)).val,(EJ lt (ms.take i)).fnd)) rfl 221 [I5 b] call221 (fun i x hx=>by
  show Aw _ _ _ _ (.agg #[.slice none 0 0,I4 (EJ lt (ms.take (i+1))).val,.bool (EJ lt (ms.take (i+1))).fnd]);rw [eU hx];exact X4 (eX (EJ lt (ms.take i)).val x (EJ lt (ms.take i)).fnd b fid lt hcf hlt))
 rwa [uQ]at h
theorem aC{q:QM}{rows:List AP}(h:∀r∈rows,-1000000000≤Bf r q.bq∧Bf r q.bq≤1000000000):∀m∈Ce q rows,-1000000000≤m∧m≤1000000000:=by
 intro m hm;obtain ⟨r,hr,rfl⟩:=uh.1 hm;exact h r hr
set_option maxHeartbeats 1000000 in
theorem eF{M:List AR}{v vo:Value}{rows others:List AP}(hv:Dn M v rows)(ho:Dn M vo others)(q:QM)(hb:rows.length≤1000000000)(hm:BN q→∀r∈rows,-1000000000≤Bf r q.bq∧Bf r q.bq≤1000000000):CF Tryz.prog 72 #[.agg #[I4 q.kd,I4 q.tb,I4 q.cl,I4 q.lo,I4 q.hi,I4 q.bq,I4 q.ot],v,vo] [M] (fun w H'=>∃rv s,w= .agg #[rv,I4 (Gb q rows others).val,.bool (Gb q rows others).fnd]∧BV 5 113 rv (Gb q rows others).rows.length (Ac (Gb q rows others).rows) s∧H'=[s,M]):=by
 have hml:=mL;refine Se func72 ntmps72 [0,1,2] ?_;intro u R;refine Zq<|Zg<|Ze (Bx #[_,_,_,_,_,_,_]) ?_;rintro _ _ ⟨bq,rfl,rfl⟩;refine Ze (Al zeroValue51 #[_,_,_]) ?_;rintro _ _ ⟨br,rfl,rfl⟩;refine Z0<|Zx<|Zq<|Zq<|Zg<|Zo Wh (Pa #[_,_,_,_,_,_,_] isAgg30 sizeOf30 Y) ?_;refine Xr [_] Y call49 Y rfl (K9 q) ?_;refine Zv (CB Y)<|Z0<|Zx ?_;refine Af Y (fun hq=>?_) (fun hq=>?_)
 ·
  have hq9:¬BN q:=by simpa using hq
  refine Zq<|Bd ?_;refine Zg<|Zv (BK (vs:=[]) (cs:=#[_,_,_]) Y (Aa (pl:=#[(0,1),(1,1),(2,1)]) zeroValue51 underlying51 (fun _=>by kernel_rfl) rfl)) ?_;refine Xe (Xw sizeOf51 _) ?_;refine Z0<|Zx<|A9<|Zt ?_;refine DD rfl results72 Y Wh (Ah isAgg51 sizeOf51 Wn (rfl)) (by exact ⟨.slice none 0 0,[],by rw [oK hq9];rfl,by rw [oK hq9];exact BX 5 _,rfl⟩)
 have hq9:BN q:=by simpa using hq
 have hbq9:0≤q.bq∧q.bq≤3:=by have:=hq9.2.2.2;omega
 have hm9:=aC (hm hq9);refine AB<|Zx<|Zq<|Zg<|Ze (Al zeroValue51 #[_,_,_]) ?_;rintro _ _ ⟨bn,rfl,rfl⟩;refine Z0<|Zx<|Zq<|Zq<|Zg<|Zh 0 underlying30 rfl rfl sizeOf3 Y<|Zl isAgg3 Y ?_;refine Z0<|Zx<|AQ<|Zq<|Zg<|Zv (CG Y Y)<|Za Y<|Z0<|Zx ?_;refine Ao Y (fun k3=>?_) (fun k3=>?_)
 ·
  refine Zq<|Bd ?_;refine Zg<|Zm Y<|Zo Wh (Pa #[_,_,_] isAgg51 sizeOf51 Y) ?_;refine Xr [_,_,_] Y call138 Y rfl (YW hv hb) ?_;refine Xe (Xw sizeOf51 _) ?_;refine Z0<|Zn [6] ?_;refine Zx<|A9<|AV<|Zt ?_;refine DD rfl results72 Y Wh (Ah isAgg51 sizeOf51 Wn (rfl)) (by exact ⟨.slice none 0 0,[],by rw [rO hq9 k3];rfl,by rw [rO hq9 k3];exact BX 5 _,rfl⟩)
 refine Zq<|Zg<|Zv (CG Y Y)<|Za Y<|Z0<|Zx ?_;refine Ao Y (fun k4=>?_) (fun k4=>?_)
 ·
  refine Zq<|Bd ?_;refine BJ (n:=6) (0::0::3::0::15::31::[]) 52 (by kernel_rfl) (by kernel_rfl) rfl ?_;refine DU (D':=1) 0 rfl rfl rfl Wh (Pa #[_,_,_,_,_,_,_] isAgg30 sizeOf30 Y) ?_;refine Zi 3 1 rfl (AJ Y)<|DU (D':=11) 3 rfl rfl rfl Wh (Pa #[_,_,_] isAgg51 sizeOf51 Y) ?_;refine Zz (l:=[2]) ?_;refine Zy 3 15 [3,0] [true,false] [(3,(_,_))] rfl Y rfl rfl rfl rfl (Zw [_,_] Y call141 Y rfl (Ll hv q hbq9 (by omega))) ?hk_3 Ck ?hl_3
  case hk_3=>
   rintro _ _ ⟨_,⟨sm,hrm,rfl⟩,rfl⟩;refine ⟨Zk (Ad),?_⟩;obtain ⟨gm,cm,rfl⟩:=hrm.form;have hcs:Fe sm gm ((Ce q rows).map ivQ):=KY hrm
   have hml2:=Jo q rows;have hcm2:=FI hrm
   refine Yw 4 31 rfl (Zu [_,_,_] Y call140 Y rfl (gJ hcs (by omega) (by omega) hm9)) ?_;rintro _ _ ⟨rfl,rfl⟩;refine Yw 5 63 rfl (Xw sizeOf51 _) ?_;rintro _ _ ⟨rfl,rfl⟩;refine Am ?_;refine Zn [6] ?_;refine Zx<|A9<|AV<|Zt ?_;refine DD rfl results72 Y Wh (Ah isAgg51 sizeOf51 Wn (rfl)) (by exact ⟨.slice none 0 0,[],by rw [rM hq9 k4];rfl,by rw [rM hq9 k4];exact BX 5 _,rfl⟩)
  exact Ar
 refine Zq<|Zg<|Zv (CG Y Y)<|Za Y<|Z0<|Zn [1,2,3,6,7,13,26] ?_;refine Zx ?_;refine Ao Y (fun k5=>?_) (fun k5=>?_)
 ·
  refine Zq<|Bd ?_;refine BJ (n:=7) (0::0::3::0::7::31::63::[]) 116 (by kernel_rfl) (by kernel_rfl) rfl ?_;refine DU (D':=1) 0 rfl rfl rfl Wh (Pa #[_,_,_,_,_,_,_] isAgg30 sizeOf30 Y) ?_;refine Zi 3 1 rfl (AJ Y)<|DU (D':=11) 3 rfl rfl rfl Wh (Pa #[_,_,_] isAgg51 sizeOf51 Y) ?_;refine Zz (l:=[2]) ?_;refine Zy 3 15 [3,0] [true,false] [(3,(_,_))] rfl Y rfl rfl rfl rfl (Zw [_,_] Y call141 Y rfl (Ll hv q hbq9 (by omega))) ?hk_7 Ck ?hl_7
  case hk_7=>
   rintro _ _ ⟨_,⟨sm,hrm,rfl⟩,rfl⟩;refine ⟨Zk (Ad),?_⟩;obtain ⟨gm,cm,rfl⟩:=hrm.form;have hcs:Fe sm gm ((Ce q rows).map ivQ):=KY hrm
   have hml2:=Jo q rows;have hcm2:=FI hrm
   refine Zz (l:=[4]) ?_;refine Zy 7 31 [3] [true] [(3,(_,_))] rfl Y rfl rfl rfl rfl (Zw [_] Y call143 Y rfl (MB (.func (.func 144) #[] #[]) rfl rfl)) ?hk_8 Ck ?hl_8
   case hk_8=>
    rintro _ _ ⟨_,⟨b9,rfl,rfl⟩,rfl⟩;refine ⟨Zk (Ad),?_⟩;refine Yw 5 63 rfl (Zu [_,_,_] Y call140 Y rfl (Wl hcs (by omega) (by omega) b9 144 _ call144 YM)) ?_;rintro _ _ ⟨rfl,rfl⟩;refine Yw 6 127 rfl (Xw sizeOf51 _) ?_;rintro _ _ ⟨rfl,rfl⟩;refine Am ?_;refine Zx<|A9<|AV<|Zt ?_;refine DD rfl results72 Y Wh (Ah isAgg51 sizeOf51 Wn (rfl)) (by
     have e8:=Ls (fun a b=>decide (a<b)) (Ce q rows) CO.none;exact ⟨.slice none 0 0,[],by rw [rJ hq9 k5];rfl,by rw [rJ hq9 k5];rw [show(EJ (fun a b=>decide (a<b)) (Ce q rows)).rows=[] from e8];exact BX 5 _,rfl⟩)
   exact Ar
  exact Ar
 refine Zq<|Zg<|Zv (CG Y Y)<|Za Y<|Z0<|Zx ?_;refine Ao Y (fun k6=>?_) (fun k6=>?_)
 ·
  refine Zq<|Bd ?_;refine BJ (n:=7) (0::0::3::0::7::31::63::[]) 116 (by kernel_rfl) (by kernel_rfl) rfl ?_;refine DU (D':=1) 0 rfl rfl rfl Wh (Pa #[_,_,_,_,_,_,_] isAgg30 sizeOf30 Y) ?_;refine Zi 3 1 rfl (AJ Y)<|DU (D':=11) 3 rfl rfl rfl Wh (Pa #[_,_,_] isAgg51 sizeOf51 Y) ?_;refine Zz (l:=[2]) ?_;refine Zy 3 15 [3,0] [true,false] [(3,(_,_))] rfl Y rfl rfl rfl rfl (Zw [_,_] Y call141 Y rfl (Ll hv q hbq9 (by omega))) ?hk_12 Ck ?hl_12
  case hk_12=>
   rintro _ _ ⟨_,⟨sm,hrm,rfl⟩,rfl⟩;refine ⟨Zk (Ad),?_⟩;obtain ⟨gm,cm,rfl⟩:=hrm.form;have hcs:Fe sm gm ((Ce q rows).map ivQ):=KY hrm
   have hml2:=Jo q rows;have hcm2:=FI hrm
   refine Zz (l:=[4]) ?_;refine Zy 7 31 [3] [true] [(3,(_,_))] rfl Y rfl rfl rfl rfl (Zw [_] Y call143 Y rfl (MB (.func (.func 145) #[] #[]) rfl rfl)) ?hk_13 Ck ?hl_13
   case hk_13=>
    rintro _ _ ⟨_,⟨b9,rfl,rfl⟩,rfl⟩;refine ⟨Zk (Ad),?_⟩;refine Yw 5 63 rfl (Zu [_,_,_] Y call140 Y rfl (Wl hcs (by omega) (by omega) b9 145 _ call145 YL)) ?_;rintro _ _ ⟨rfl,rfl⟩;refine Yw 6 127 rfl (Xw sizeOf51 _) ?_;rintro _ _ ⟨rfl,rfl⟩;refine Am ?_;refine Zx<|A9<|AV<|Zt ?_;refine DD rfl results72 Y Wh (Ah isAgg51 sizeOf51 Wn (rfl)) (by
     have e8:=Ls (fun a b=>decide (b<a)) (Ce q rows) CO.none;exact ⟨.slice none 0 0,[],by rw [rH hq9 k6];rfl,by rw [rH hq9 k6];rw [show(EJ (fun a b=>decide (b<a)) (Ce q rows)).rows=[] from e8];exact BX 5 _,rfl⟩)
   exact Ar
  exact Ar
 refine Zq<|Zg<|Zv (CG Y Y)<|Za Y<|Z0<|Zx ?_;refine Ao Y (fun k7=>?_) (fun k7=>?_)
 ·
  refine Zq<|Zg<|Zo Wh (Pa #[_,_,_,_,_,_,_] isAgg30 sizeOf30 Y) ?_;refine Zm Y<|Zm Y<|Zc [_,_,_] Y call146 Y rfl (WK hv ho q hbq9 (by omega)) ?_;rintro _ _ ⟨_,⟨sj,hrj,rfl⟩,rfl⟩;obtain ⟨gj,cj,rfl⟩:=hrj.form;refine Zv (BK (vs:=[(0,_)]) (cs:=#[_,_,_]) Y (Aa (pl:=#[(0,1),(1,1),(2,1)]) zeroValue51 underlying51 (fun _=>by kernel_rfl) rfl)) ?_;refine Xe (BP sizeOf51 Y Y (by(simp [Value.oneCell',Value.cells];done)) Wu (by rfl) (by first|rfl|(simp;done)) Wb (by exact BR _)) ?_;refine Z0<|Zx<|A9<|AV<|Zt ?_;refine DD rfl results72 Y Wh (Ah isAgg51 sizeOf51 Wn (rfl)) (by exact ⟨.slice gj _ cj,sj,by rw [rG hq9 k7];rfl,by rw [rG hq9 k7];exact hrj,rfl⟩)
 refine AB<|A8<|Zx<|Zq<|Zg<|Zm Y<|Zc [_] Y call94 Y rfl (He hv (by omega)) ?_;rintro _ _ ⟨_,⟨sj,hrj,rfl⟩,rfl⟩;obtain ⟨gj,cj,rfl⟩:=hrj.form;refine Zv (BK (vs:=[(0,_)]) (cs:=#[_,_,_]) Y (Aa (pl:=#[(0,1),(1,1),(2,1)]) zeroValue51 underlying51 (fun _=>by kernel_rfl) rfl)) ?_;refine Xe (BP sizeOf51 Y Y (by(simp [Value.oneCell',Value.cells];done)) Wu (by rfl) (by first|rfl|(simp;done)) Wb (by exact BR _)) ?_;refine Z0<|Zx<|A9 ?_;refine DD rfl results72 Y Wh (Ah isAgg51 sizeOf51 Wn (rfl)) (by exact ⟨.slice gj _ cj,sj,by rw [rP hq9 k3 k4 k5 k6 k7];rfl,by rw [rP hq9 k3 k4 k5 k6 k7];exact hrj,rfl⟩)
theorem UK{x y:CO}:x=y↔x.val=y.val∧x.fnd=y.fnd∧x.rows=y.rows:=by
 obtain ⟨a,b,c⟩:=x;obtain ⟨d,e,f⟩:=y;simp only [CO.mk.injEq];constructor
 · rintro ⟨h1,h2,h3⟩;exact ⟨h2,h3,h1⟩
 · rintro ⟨h1,h2,h3⟩;exact ⟨h3,h1,h2⟩
theorem PT{r:AP}(h:r.ok)(c:Int):-1000000000≤Bf r c∧Bf r c≤1000000000:=by
 obtain ⟨⟨h1,h2,h3⟩,h4,h5⟩:=h;unfold inV at h1 h2 h3;unfold Bf;split
 · omega
 · split
   · omega
   · split
     · omega
     · split<;>omega
theorem WW{A B:List AR}{v vo:Value}{rows others:List AP}(hv:Dn A v rows)(ho:Dn B vo others)(q:QM)(hb:rows.length≤1000000000)(hm:BN q→∀r∈rows,-1000000000≤Bf r q.bq∧Bf r q.bq≤1000000000):CF Tryz.prog 72 #[.agg #[I4 q.kd,I4 q.tb,I4 q.cl,I4 q.lo,I4 q.hi,I4 q.bq,I4 q.ot],v,vo] [A,B] (fun w H'=>∃rv s,w= .agg #[rv,I4 (Gb q rows others).val,.bool (Gb q rows others).fnd]∧BV 5 113 rv (Gb q rows others).rows.length (Ac (Gb q rows others).rows) s∧H'=[s,A,B]):=by
 refine ED (eF (hv.mono (fun c hc=>u6 B hc)) (ho.mono (fun c hc=>tZ A hc)) q hb hm) (by simp) ?_;rintro r H' ⟨rv,s,rfl,h,rfl⟩;exact ⟨_,⟨rv,s,rfl,h,rfl⟩,by simp⟩
theorem SX(v:Value)(p:Int)(rs:List AP)(s:List AR)(hv:Nj v p rs s)(t c lo hi:Int)(hc:0≤c∧c≤3):CF Tryz.prog 53 #[v,I4 t,I4 c,I4 lo,I4 hi] [s] (fun r H'=>∃so,BV 5 113 r (Ch rs t c.toNat lo hi).length (Ac (Ch rs t c.toNat lo hi)) so∧H'=[so,s]):=by
 have h:=VH v p rs s hv t c.toNat lo hi (by omega);rwa [show((c.toNat:Nat):Int)=c by omega]at h
theorem K8{rs:List AP}{t:Int}{c:Nat}{lo hi:Int}:(Ch rs t c lo hi).length≤rs.length∧∀r∈Ch rs t c lo hi,r∈rs:=by
 have h:=EQ rs t c lo hi;exact ⟨by rw [h.length_eq];exact vg _ _,fun r hr=>(vV.1 (h.mem_iff.1 hr)).1⟩
theorem eZ{rs:List AP}{q:QM}(h:BN q):Gb q (Ch rs q.tb q.cl.toNat q.lo q.hi) (FK rs q.ot)=Cy rs q:=M9 h
theorem Mf{M:List AR}{va vb:Value}{x y:CO}(ha:Dn M va x.rows)(hb:Dn M vb y.rows):Aw Tryz.prog 31 #[.agg #[va,I4 x.val,.bool x.fnd],.agg #[vb,I4 y.val,.bool y.fnd]] [M] (.bool (decide (x=y))):=by
 obtain ⟨pa,ca,rfl,_⟩:=id ha;obtain ⟨pb,cb,rfl,_⟩:=id hb;refine Se func31 ntmps31 [0,1] ?_;intro u R;refine Zq<|Zg<|Ze (Bx #[_,_,_]) ?_;rintro _ _ ⟨b1,rfl,rfl⟩;refine Ze (Bx #[_,_,_]) ?_;rintro _ _ ⟨b2,rfl,rfl⟩;refine Za Y<|Z0<|Zx<|Zq<|Zg<|Zh 1 underlying51 rfl rfl sizeOf3 Y<|Zl isAgg3 Y ?_;refine Zh 1 underlying51 rfl rfl sizeOf3 Y<|Zl isAgg3 Y ?_;refine Zv (CG Y Y)<|Zm Y ?_;refine Ai (t:=10) Y rfl (fun h1=>?_) (fun h1=>?_)
 ·
  refine Yf 2 underlying51 rfl rfl sizeOf4 Y<|Yl isAgg4 Y ?_;refine Yf 2 underlying51 rfl rfl sizeOf4 Y<|Yl isAgg4 Y ?_;refine Yg (Xy underlying4 Y Y)<|Zv (AL Y Y)<|Zm Y ?_;refine Ai (t:=17) Y rfl (fun h2=>?_) (fun h2=>?_)
  ·
   refine Yf 0 underlying51 rfl rfl sizeOf45 Y<|Yl isAgg45 Y ?_;refine Yf 0 underlying51 rfl rfl sizeOf45 Y<|Yl isAgg45 Y ?_;refine Xr [_,_] Y call88 Y rfl (Wv ha hb) ?_;refine Zv (AL Y Y)<|Za Y<|Z0<|Zn [4] ?_;refine Zx<|A9 ?_;refine AC rfl results31 Y (by
    have e9:decide (x=y)=decide (x.val=y.val∧x.fnd=y.fnd∧x.rows=y.rows):=decide_eq_decide.2 UK;exact ⟨congrArg Value.bool (by rw [e9];simp [*]),rfl⟩)
  refine A7 Y rfl<|A7 Y rfl<|A7 Y rfl<|A7 Y rfl<|A7 Y rfl<|Zv (AA Y Y)<|Za Y<|Z0<|Zn [4] ?_;refine Zx<|A9 ?_;refine AC rfl results31 Y (by
   have e9:decide (x=y)=decide (x.val=y.val∧x.fnd=y.fnd∧x.rows=y.rows):=decide_eq_decide.2 UK;exact ⟨congrArg Value.bool (by rw [e9];simp [*]),rfl⟩)
 refine A7 Y rfl<|A7 Y rfl<|A7 Y rfl<|A7 Y rfl<|A7 Y rfl<|Zv (AA Y Y)<|Zm Y<|A7 Y rfl<|A7 Y rfl<|A7 Y rfl<|A7 Y rfl<|A7 Y rfl<|Zv (AA Y Y)<|Za Y<|Z0<|Zn [4] ?_;refine Zx<|A9 ?_;refine AC rfl results31 Y (by
  have e9:decide (x=y)=decide (x.val=y.val∧x.fnd=y.fnd∧x.rows=y.rows):=decide_eq_decide.2 UK;exact ⟨congrArg Value.bool (by rw [e9];simp [*]),rfl⟩)
set_option maxHeartbeats 1000000 in
theorem ZY(v:Value)(p:Int)(rs:List AP)(s:List AR)(hv:Nj v p rs s)(hok:∀r∈rs,r.ok)(q:QM)(hq:BN q):CF Tryz.prog 33 #[v,.agg #[I4 q.kd,I4 q.tb,I4 q.cl,I4 q.lo,I4 q.hi,I4 q.bq,I4 q.ot]] [s] (fun w H'=>∃rv sr,w= .tuple #[.agg #[rv,I4 (Cy rs q).val,.bool (Cy rs q).fnd],I4 0]∧BV 5 113 rv (Cy rs q).rows.length (Ac (Cy rs q).rows) sr∧H'=[sr,s]):=by
 have hcl:=hq.2.1;obtain ⟨sp,mb,es,ck,lm,rfl,hm0,hR0,hs0,hn0,hs9⟩:=id hv;have hr1:=@K8 rs q.tb q.cl.toNat q.lo q.hi
 have hr2:(FK rs q.ot).length≤rs.length:=vg _ _;have hml:=mL
 refine Se func33 ntmps33 [0,1] ?_;intro u R;refine Zq<|Zg<|Ze (Bx #[_,_,_,_,_,_,_]) ?_;rintro _ _ ⟨bq,rfl,rfl⟩;refine Ze (Al zeroValue51 #[_,_,_]) ?_;rintro _ _ ⟨br,rfl,rfl⟩;refine Za Y<|Z0<|Zx<|Zq<|AQ<|Zq<|Zg<|Zm Y<|Zv (EF underlying33 Y Y)<|Za Y<|Z0<|Zx ?_;refine Af Y (fun hb0=>?_) (fun hb0=>?_)
 ·
  cases hb0
 refine Zq<|Zg<|Zo Wh (Pa #[_,_,_,_,_,_,_] isAgg30 sizeOf30 Y) ?_;refine Xr [_] Y call49 Y rfl (K9 q) ?_;refine Zv (CB Y)<|Za Y<|Z0<|Zx ?_;refine Af Y (fun hb1=>?_) (fun hb1=>?_)
 ·
  exfalso;simp [hq]at hb1
 refine AB<|A8<|Zx<|Zq<|BJ (n:=18) (0::0::0::4::0::16::0::64::0::256::1022::0::0::4096::16382::32767::65535::131071::[]) 115712 (by kernel_rfl) (by kernel_rfl) rfl ?_;refine DU (D':=1) 0 rfl rfl rfl Wh (Pa #[_,_,_,_,_,_,_] isAgg30 sizeOf30 Y) ?_;refine Zi 3 1 rfl (AJ Y)<|Zi 7 2 rfl (AX (off:=1) underlying30 rfl rfl sizeOf3 Y)<|Zj 15 3 rfl isAgg3 Y ?_;refine Zi 31 4 rfl (AX (off:=2) underlying30 rfl rfl sizeOf3 Y)<|Zj 63 5 rfl isAgg3 Y ?_;refine Zi 127 6 rfl (AX (off:=3) underlying30 rfl rfl sizeOf3 Y)<|Zj 255 7 rfl isAgg3 Y ?_;refine Zi 511 8 rfl (AX (off:=4) underlying30 rfl rfl sizeOf3 Y)<|Zj 1023 9 rfl isAgg3 Y ?_;refine Zi 3071 11 rfl (AJ Y)<|Zi 7167 12 rfl (AX (off:=6) underlying30 rfl rfl sizeOf3 Y)<|Zj 15359 13 rfl isAgg3 Y ?_;refine Zz (l:=[10]) ?_;refine Zy 1022 16383 [13,9,7,5,3,0] [true,false,false,false,false,true] [(13,(_,_)),(0,(_,_))] rfl Y rfl rfl rfl rfl (Zw [_,_,_,_,_] Y call53 Y rfl (SX _ p rs s hv q.tb q.cl q.lo q.hi hcl)) ?hk_1 Ck ?hl_1
 case hk_1=>
  rintro _ _ ⟨_,⟨s1,h1,rfl⟩,rfl⟩;refine ⟨Zk (Zk (Ad)),?_⟩;obtain ⟨p1,c1,rfl⟩:=h1.form;have hU1:=D5 h1 (by omega)
  refine Zz (l:=[14]) ?_;refine Zy 16382 32767 [13,0] [false,true] [(0,(_,_))] rfl Y rfl rfl rfl rfl (Zw [_,_] Y call89 Y rfl (lu _ p rs s hv q.ot)) ?hk_2 Ck ?hl_2
  case hk_2=>
   rintro _ _ ⟨_,⟨s2,h2,rfl⟩,rfl⟩;refine ⟨Zk (Ad),?_⟩;obtain ⟨p2,c2,rfl⟩:=h2.form;have hU2:=D5 h2 (by omega)
   refine Zz (l:=[15]) ?_;refine Zy 32767 65535 [0] [false] [] rfl Y rfl rfl rfl rfl (Zw [_,_,_] Y call72 Y rfl (WW hU1 hU2 q (by omega) (fun _ r hr=>PT (hok r (hr1.2 r hr)) q.bq))) ?hk_3 Ck ?hl_3
   case hk_3=>
    rintro _ _ ⟨_,⟨rv,s3,rfl,h3,rfl⟩,rfl⟩;refine ⟨Ad,?_⟩;rw [eZ hq]at h3⊢;obtain ⟨p3,c3,rfl⟩:=h3.form;refine Yw 16 131071 rfl (Xw sizeOf51 _) ?_;rintro _ _ ⟨rfl,rfl⟩;refine Zi 262143 17 rfl (Ay Y)<|Am ?_;refine Zn [4,5] ?_;refine Zx<|A9 ?_;refine Bb rfl results33 Y Wh (Ah isAgg51 sizeOf51 Wn (rfl)) Y (by exact ⟨.slice p3 _ c3,s3,rfl,h3,rfl⟩)
   exact Ar
  exact Ar
 exact Ar
def J2(c:Chg)(x:AP):Bool:=decide (x.t=c.t)&&decide (x.k=c.k)
def J6(q:QM)(y x:AP):Bool:=decide (Bf y q.cl<Bf x q.cl)||(decide (Bf x q.cl=Bf y q.cl)&&decide (y.k<x.k))
def PN(pd:AP→Bool)(rows:List AP)(y:AP):List AP:=rows.take ((rows.findIdx? pd).getD rows.length)++[y]++rows.drop ((rows.findIdx? pd).getD rows.length)
def Dq(q:QM)(c:Chg)(rows:List AP):List AP:=match afQ q c with
 |some y=>PN (J6 q y) (rows.filter fun x=>!J2 c x) y
 |none=>rows.filter fun x=>!J2 c x
def Fu(lt:Int→Int→Bool)(b a:Bool)(o n:Int)(r:CO):CO×Bool:=
 if b&&(!r.fnd||!lt r.val o)then(⟨r.rows,n,r.fnd⟩,(a&&r.fnd)&&!lt r.val n)
 else if a then(⟨r.rows,if !r.fnd||lt n r.val then n else r.val,true⟩,true)else(r,true)
theorem jf(pd:AP→Bool)(rows:List AP)(y:AP):(PN pd rows y).length=rows.length+1:=by
 unfold PN;simp only [tJ,tL,tN,tT];omega
theorem Rb(q:QM)(c:Chg)(rows:List AP):(Dq q c rows).length≤rows.length+1:=by
 have h:=vg (fun x=>!J2 c x) rows;unfold Dq;split
 · rw [jf];omega
 · omega
theorem Lt(lt:Int→Int→Bool)(b a:Bool)(o n:Int)(r:CO):(Fu lt b a o n r).1.rows=r.rows:=by
 unfold Fu;split
 · rfl
 · split<;>rfl
theorem nO(pd:AP→Bool)(rows:List AP):(PP pd rows<0∧(rows.findIdx? pd).getD rows.length=rows.length)∨∃i:Nat,i≤rows.length∧PP pd rows=(i:Int)∧(rows.findIdx? pd).getD rows.length=i:=by
 unfold PP;cases h:rows.findIdx? pd with
 |none=>exact .inl ⟨by simp,rfl⟩
 |some i=>
  obtain ⟨h1,_,_⟩:=vE.1 h;exact .inr ⟨i,by omega,rfl,rfl⟩
theorem bX(q:QM)(c:Chg)(p1 p2:Option Addr)(o n:Int)(x:AP)(be:Nat):Aw Tryz.prog 230 #[.agg #[I4 x.t,I4 x.k,I4 x.v.a,I4 x.v.b,I4 x.v.c],I5 be] [[(be,.cells #[I4 q.kd,I4 q.tb,I4 q.cl,I4 q.lo,I4 q.hi,I4 q.bq,I4 q.ot,I4 c.t,I4 c.k,.bool c.had,I4 c.o.a,I4 c.o.b,I4 c.o.c,.bool c.has,I4 c.n.a,I4 c.n.b,I4 c.n.c,.pointer p1,.pointer p2,I4 o,I4 n] 151 (0,0))]] (.bool (J2 c x)):=by
 refine Se func230 ntmps230 [0,1] ?_;intro u R;refine Zq<|Zg<|Ze (Bx #[_,_,_,_,_]) ?_;rintro _ _ ⟨bx,rfl,rfl⟩;refine Za Y<|Z0<|Zx<|Zq<|Zg<|Zh 0 underlying113 rfl rfl sizeOf3 Y<|Zl isAgg3 Y ?_;refine Zh 7 underlying151 rfl rfl sizeOf77 Y<|Zv (BH (off:=0) underlying77 rfl rfl sizeOf3 Y)<|Zl isAgg3 Y ?_;refine Zv (CG Y Y)<|Zm Y ?_;refine Ai (t:=10) Y rfl (fun h1=>?_) (fun h1=>?_)
 ·
  refine Yf 1 underlying113 rfl rfl sizeOf3 Y<|Yl isAgg3 Y ?_;refine Yf 7 underlying151 rfl rfl sizeOf77 Y<|Yg (BH (off:=1) underlying77 rfl rfl sizeOf3 Y)<|Yl isAgg3 Y ?_;refine Yg (CG Y Y)<|Zv (AL Y Y)<|Za Y<|Z0<|Zn [3] ?_;refine Zx<|A9 ?_;refine AC rfl results230 Y (by exact ⟨by first|simp [J2,h1]|(unfold J2;simp [h1]),rfl⟩)
 refine A7 Y rfl<|A7 Y rfl<|A7 Y rfl<|A7 Y rfl<|A7 Y rfl<|A7 Y rfl<|Zv (AA Y Y)<|Za Y<|Z0<|Zn [3] ?_;refine Zx<|A9 ?_;refine AC rfl results230 Y (by exact ⟨by first|simp [J2,h1]|(unfold J2;simp [h1]),rfl⟩)
theorem U3{A B:List AR}{v:Value}{rows:List AP}(hv:Dn A v rows)(hn:rows.length≤1000000000)(fid:Nat)(us:List Value)(pd:AP→Bool)(hcf:∀(args:Array Value) (w:World),(callFunc fid args).run Tryz.prog w= .ok (.enter fid args) w)(hf:∀x:AP,Aw Tryz.prog fid (.agg #[I4 x.t,I4 x.k,I4 x.v.a,I4 x.v.b,I4 x.v.c]::us).toArray [B] (.bool (pd x))):CF Tryz.prog 229 #[v,.func (.func fid) #[] us.toArray] [A,B] (fun r H'=>∃s,BV 5 113 r (rows.filter fun x=>!pd x).length (Ac (rows.filter fun x=>!pd x)) s∧H'=[s,A,B]):=by
 obtain ⟨p,cap,rfl,_⟩:=id hv;refine Se func229 ntmps229 [0,1] ?_;intro u R;refine Zq<|Zg<|Za Y<|Z0<|Zx<|Zq<|Zg<|Zm Y<|Zc [_] Y call94 Y rfl (He hv (by omega)) ?_;rintro _ _ ⟨_,⟨s1,h1,rfl⟩,rfl⟩;obtain ⟨g1,c1,rfl⟩:=h1.form;refine Zm Y<|Zc [_,_] Y call264 Y rfl (X7 h1 hn fid us pd hcf hf) ?_;rintro _ _ ⟨_,⟨s2,h2,rfl⟩,rfl⟩;obtain ⟨g2,c2,rfl⟩:=h2.form;refine Za Y<|Z0<|Zx<|A9 ?_;refine AC rfl results229 Y (by exact ⟨_,h2,rfl⟩)
theorem Rm{s B:List AR}{v:Value}{rows:List AP}(hrow:BV 5 113 v rows.length (Ac rows) s)(hn:rows.length≤1000000000)(y:AP)(fid:Nat)(us:List Value)(pd:AP→Bool)(hcf:∀(args:Array Value) (w:World),(callFunc fid args).run Tryz.prog w= .ok (.enter fid args) w)(hf:∀x:AP,Aw Tryz.prog fid (.agg #[I4 x.t,I4 x.k,I4 x.v.a,I4 x.v.b,I4 x.v.c]::us).toArray [B] (.bool (pd x))):CF Tryz.prog 231 #[v,.agg #[I4 y.t,I4 y.k,I4 y.v.a,I4 y.v.b,I4 y.v.c],.func (.func fid) #[] us.toArray] [s,B] (fun r H'=>∃s' s2,BV 5 113 r (PN pd rows y).length (Ac (PN pd rows y)) s'∧H'=[s',s2,B]):=by
 have hml:=mL;obtain ⟨p,cap,rfl⟩:=hrow.form;have hU:=D5 hrow (by omega)
 refine Se func231 ntmps231 [0,1,2] ?_;intro u R;refine Zq<|Zg<|Ze (Bx #[_,_,_,_,_]) ?_;rintro _ _ ⟨bx,rfl,rfl⟩;refine Za Y<|Z0<|Zx<|Zq<|Zg<|Zm Y<|Zm Y<|Xr [_,_] Y call117 Y rfl (Qu hU fid us pd hcf hf) ?_;obtain ⟨z9,hz9⟩:∃z,z=PP pd rows:=⟨_,rfl⟩;rw [←hz9];have hcs9:=nO pd rows
 rw [←hz9]at hcs9;refine Za Y<|Z0<|Zx<|Zb [7,0,4] ?_;refine CU (e0:=[(7,_)]) (H0:=[]) (fun e H=>∃(i:Nat),(i≤rows.length∧(rows.findIdx? pd).getD rows.length=i)∧e=[(7,I4 (i:Int))]∧H=[]) Wp ?hx_1 ?hy_1
 case hx_1=>
  refine Zq<|Zg<|Zm Y<|Zv (Ee Y Y)<|Z0<|Zx ?_;refine Ao Y (fun hlt=>?_) (fun hlt=>?_)
  ·
   refine Zg<|Zm Y<|Zv (AU underlying45 Y)<|Za Y<|Z0<|Zn [7,0,4] ?_;refine BA (e':=[(7,_)]) (by exact ⟨rows.length,⟨tQ _,by rcases hcs9 with⟨_,h⟩|⟨i,h1,h2,h3⟩;exact h;omega⟩,rfl,rfl⟩)
  rcases hcs9 with⟨h9,_⟩|⟨i,h1,h2,h3⟩
  · exact absurd h9 hlt
  subst h2;refine AB<|Zn [7,0,4] ?_;refine BA (e':=[(7,_)]) (by exact ⟨i,⟨h1,h3⟩,rfl,rfl⟩)
 rintro _ _ ⟨i,⟨hi,hgi⟩,rfl,rfl⟩;refine Zq<|Zg<|Zm Y<|Zm Y<|Zo Wh (Pa #[_,_,_,_,_] isAgg113 sizeOf113 Y) ?_;refine Ze (Ae (vs:=[_]) (cs:=[_,_,_,_,_]) underlying45 sizeOf113 zeroValue113 Y rfl rfl rfl rfl rfl) ?_;rintro _ _ ⟨gy,rfl,rfl⟩;refine Zc [_,_,_] Y call265 Y rfl (WN hrow hn i hi y gy) ?_;rintro _ _ ⟨_,⟨s3,s4,h3,rfl⟩,rfl⟩;obtain ⟨g3,c3,rfl⟩:=h3.form;refine Za Y<|Z0<|Zx<|A9 ?_;refine AC rfl results231 Y (by exact ⟨_,s4,by unfold PN;rw [hgi];exact h3,rfl⟩)
theorem Uu(q:QM)(hcl:0≤q.cl∧q.cl≤3)(c:Chg)(p1:Option Addr)(o n:Int)(y:AP)(b2:Nat):CF Tryz.prog 232 #[.agg #[I4 q.kd,I4 q.tb,I4 q.cl,I4 q.lo,I4 q.hi,I4 q.bq,I4 q.ot,I4 c.t,I4 c.k,.bool c.had,I4 c.o.a,I4 c.o.b,I4 c.o.c,.bool c.has,I4 c.n.a,I4 c.n.b,I4 c.n.c,.pointer p1,I5 b2,I4 o,I4 n]] [[(b2,.cells #[I4 y.t,I4 y.k,I4 y.v.a,I4 y.v.b,I4 y.v.c] 113 (0,0))]] (fun r H'=>∃be bv,r= .func (.func 266) #[] #[I5 be,I5 bv]∧H'=[[(be,.cells #[I4 q.kd,I4 q.tb,I4 q.cl,I4 q.lo,I4 q.hi,I4 q.bq,I4 q.ot,I4 c.t,I4 c.k,.bool c.had,I4 c.o.a,I4 c.o.b,I4 c.o.c,.bool c.has,I4 c.n.a,I4 c.n.b,I4 c.n.c,.pointer p1,I5 b2,I4 o,I4 n] 151 (0,0))],[(bv,.cells #[I4 (Bf y q.cl)] 3 (0,0))],[(b2,.cells #[I4 y.t,I4 y.k,I4 y.v.a,I4 y.v.b,I4 y.v.c] 113 (0,0))]]):=by
 refine Se func232 ntmps232 [0] ?_;intro u R;refine Zq<|Zg<|Ze (H8 Y (cs:=#[I4 q.kd,I4 q.tb,I4 q.cl,I4 q.lo,I4 q.hi,I4 q.bq,I4 q.ot,I4 c.t,I4 c.k,.bool c.had,I4 c.o.a,I4 c.o.b,I4 c.o.c,.bool c.has,I4 c.n.a,I4 c.n.b,I4 c.n.c,.pointer p1,I5 b2,I4 o,I4 n]) (FZ q c p1 (some ⟨b2,0,none⟩) o n)) ?_;rintro _ _ ⟨be,rfl,rfl⟩;refine Za Y<|Z0<|Zx<|Zq<|BJ (n:=10) (0::1::3::7::0::16::48::127::0::511::[]) 896 (by kernel_rfl) (by kernel_rfl) rfl ?_;refine Zi 1 0 rfl (AX (off:=18) underlying151 rfl rfl sizeOf149 Y)<|Zj 3 1 rfl isAgg149 Y ?_;refine Zi 7 2 rfl (E5 Y rfl)<|DU (D':=15) 3 rfl rfl rfl Wh (Pa #[_,_,_,_,_] isAgg113 sizeOf113 Y) ?_;refine Zi 31 4 rfl (AX (off:=0) underlying151 rfl rfl sizeOf30 Y)<|Zi 63 5 rfl (BH (off:=2) underlying30 rfl rfl sizeOf3 Y)<|Zj 127 6 rfl isAgg3 Y ?_;refine Zz (l:=[7,8]) ?_;refine Zy 127 255 [6,3,1] [false,false,false] [] rfl Y rfl rfl rfl rfl (Zu [_,_] Y call97 Y rfl (FV y q.cl hcl)) ?hk_1 (fun _ _ h=>h.elim) ?hl_1
 case hk_1=>
  rintro _ _ ⟨rfl,rfl⟩;refine ⟨Ad,?_⟩;refine Yw 8 511 rfl (Al zeroValue3 #[_]) ?_;rintro _ _ ⟨bv,rfl,rfl⟩;refine Yw 9 1023 rfl (Zs sizeOf3 Y Y rfl (hi:=by first|omega|decide|(simp;done))) ?_;rintro _ _ ⟨rfl,rfl⟩;refine Am ?_;refine Zx<|Zq<|Zg<|Zv (Bo (vs:=[]) (us:=[_,_]) Y Y) ?_;refine Za Y<|Z0<|Zn [2] ?_;refine Zx<|A9 ?_;refine AC rfl results232 Y (by exact ⟨be,bv,rfl,rfl⟩)
 refine Zy 0 383 [6,3,1] [true,true,true] [(6,(_,_)),(3,(_,_)),(1,(_,_))] rfl Y rfl rfl rfl rfl (Al zeroValue3 #[_]) ?hk_5 (fun _ _ h=>h.elim) ?hl_5
 case hk_5=>
  rintro _ _ ⟨bv,rfl,rfl⟩;refine ⟨Zk (Zk (Zk (Ad))),?_⟩;refine Yw 7 511 rfl (Zu [_,_] Y call97 Y rfl (FV y q.cl hcl)) ?_;rintro _ _ ⟨rfl,rfl⟩;refine Yw 9 1023 rfl (Zs sizeOf3 Y Y rfl (hi:=by first|omega|decide|(simp;done))) ?_;rintro _ _ ⟨rfl,rfl⟩;refine Am ?_;refine Zx<|Zq<|Zg<|Zv (Bo (vs:=[]) (us:=[_,_]) Y Y) ?_;refine Za Y<|Z0<|Zn [2] ?_;refine Zx<|A9 ?_;refine AC rfl results232 Y (by exact ⟨be,bv,rfl,rfl⟩)
 exact Ar
theorem fH(q:QM)(hcl:0≤q.cl∧q.cl≤3)(c:Chg)(p1:Option Addr)(o n:Int)(y:AP)(b2 be bv:Nat)(x:AP):Aw Tryz.prog 266 #[.agg #[I4 x.t,I4 x.k,I4 x.v.a,I4 x.v.b,I4 x.v.c],I5 be,I5 bv] [[(be,.cells #[I4 q.kd,I4 q.tb,I4 q.cl,I4 q.lo,I4 q.hi,I4 q.bq,I4 q.ot,I4 c.t,I4 c.k,.bool c.had,I4 c.o.a,I4 c.o.b,I4 c.o.c,.bool c.has,I4 c.n.a,I4 c.n.b,I4 c.n.c,.pointer p1,I5 b2,I4 o,I4 n] 151 (0,0))],[(bv,.cells #[I4 (Bf y q.cl)] 3 (0,0))],[(b2,.cells #[I4 y.t,I4 y.k,I4 y.v.a,I4 y.v.b,I4 y.v.c] 113 (0,0))]] (.bool (J6 q y x)):=by
 refine Se func266 ntmps266 [0,1,2] ?_;intro u R;refine Zq<|Zg<|Ze (Bx #[_,_,_,_,_]) ?_;rintro _ _ ⟨bx,rfl,rfl⟩;refine Za Y<|Z0<|Zx<|Zq<|Zg<|Zo Wh (Pa #[_,_,_,_,_] isAgg113 sizeOf113 Y) ?_;refine Zh 0 underlying151 rfl rfl sizeOf30 Y<|Zv (BH (off:=2) underlying30 rfl rfl sizeOf3 Y)<|Zl isAgg3 Y ?_;refine Xr [_,_] Y call97 Y rfl (FV x q.cl hcl) ?_;refine Za Y<|Z0<|Zx<|Zq<|BJ (n:=19) (0::0::3::7::15::15::63::127::255::511::255::1279::3327::7423::15615::32767::65535::131071::262143::[]) 0 (by kernel_rfl) (by kernel_rfl) rfl ?_;refine Zi 1 0 rfl (AJ Y)<|Zj 3 1 rfl isAgg3 Y ?_;refine Zi 7 2 rfl (Ey Y Y)<|Zi 15 3 rfl (AJ Y) ?_;refine CR (t:=14) Y (fun h1=>?_) (fun h1=>?_)
 ·
  first|rw [decide_eq_true h1]|rw [h1]|skip
  refine Yk 31 4 rfl<|Yk 63 5 rfl<|Yk 127 6 rfl<|Yk 255 7 rfl<|Yk 511 8 rfl<|Yk 1023 9 rfl<|Yk 2047 10 rfl<|Yk 4095 11 rfl<|Yk 8191 12 rfl<|Yk 16383 13 rfl<|Yk 32767 14 rfl<|Yk 65535 15 rfl<|Yk 131071 16 rfl<|Zi 262143 17 rfl (AL Y Y)<|Zi 524287 18 rfl (Ay Y)<|Am ?_;refine Zn [4] ?_;refine Zx<|A9 ?_;refine AC rfl results266 Y (by exact ⟨by first|simp [J6, *]|(unfold J6;simp [*]),rfl⟩)
 first|rw [decide_eq_false h1]|rw [h1]|skip
 refine Ag (D':=31) 4 Y rfl rfl rfl (AJ Y) ?_;refine Be (D':=63) 5 Y rfl rfl rfl Wh (Bg isAgg3 Y (by rfl)) ?_;refine Ag (D':=127) 6 Y rfl rfl rfl (CG Y Y) ?_;refine Ag (D':=255) 7 Y rfl rfl rfl (AJ Y) ?_;refine CR (t:=18) Y (fun h2=>?_) (fun h2=>?_)
 ·
  first|rw [decide_eq_true h2]|rw [h2]|skip
  refine Ag (D':=511) 8 Y rfl rfl rfl (AX (off:=1) underlying113 rfl rfl sizeOf3 Y) ?_;refine Be (D':=1023) 9 Y rfl rfl rfl Wh (Bg isAgg3 Y (by rfl)) ?_;refine Ag (D':=2047) 10 Y rfl rfl rfl (AX (off:=18) underlying151 rfl rfl sizeOf149 Y) ?_;refine Be (D':=4095) 11 Y rfl rfl rfl Wh (Bg isAgg149 Y (by rfl)) ?_;refine Ag (D':=8191) 12 Y rfl rfl rfl (E5 Y rfl) ?_;refine Ag (D':=16383) 13 Y rfl rfl rfl (AX (off:=1) underlying113 rfl rfl sizeOf3 Y) ?_;refine Be (D':=32767) 14 Y rfl rfl rfl Wh (Bg isAgg3 Y (by rfl)) ?_;refine Ag (D':=65535) 15 Y rfl rfl rfl (Ey Y Y) ?_;refine Ag (D':=131071) 16 Y rfl rfl rfl (AL Y Y) ?_;refine Zi 262143 17 rfl (AA Y Y)<|Zi 524287 18 rfl (Ay Y)<|Am ?_;refine Zn [4] ?_;refine Zx<|A9 ?_;refine AC rfl results266 Y (by exact ⟨by first|simp [J6, *]|(unfold J6;simp [*]),rfl⟩)
 first|rw [decide_eq_false h2]|rw [h2]|skip
 refine Yk 511 8 rfl<|Yk 1023 9 rfl<|Yk 2047 10 rfl<|Yk 4095 11 rfl<|Yk 8191 12 rfl<|Yk 16383 13 rfl<|Yk 32767 14 rfl<|Yk 65535 15 rfl<|Ag (D':=131071) 16 Y rfl rfl rfl (AA Y Y) ?_;refine Zi 262143 17 rfl (AA Y Y)<|Zi 524287 18 rfl (Ay Y)<|Am ?_;refine Zn [4] ?_;refine Zx<|A9 ?_;refine AC rfl results266 Y (by exact ⟨by first|simp [J6, *]|(unfold J6;simp [*]),rfl⟩)
theorem PG(q:QM)(hcl:0≤q.cl∧q.cl≤3)(c:Chg)(p1:Option Addr)(o n:Int)(y:AP)(b2:Nat):CF Tryz.prog 232 #[.agg #[I4 q.kd,I4 q.tb,I4 q.cl,I4 q.lo,I4 q.hi,I4 q.bq,I4 q.ot,I4 c.t,I4 c.k,.bool c.had,I4 c.o.a,I4 c.o.b,I4 c.o.c,.bool c.has,I4 c.n.a,I4 c.n.b,I4 c.n.c,.pointer p1,I5 b2,I4 o,I4 n]] [[(b2,.cells #[I4 y.t,I4 y.k,I4 y.v.a,I4 y.v.b,I4 y.v.c] 113 (0,0))]] (fun r H'=>∃be bv,r= .func (.func 266) #[] ([I5 be,I5 bv]:List Value).toArray∧H'=[[(be,.cells #[I4 q.kd,I4 q.tb,I4 q.cl,I4 q.lo,I4 q.hi,I4 q.bq,I4 q.ot,I4 c.t,I4 c.k,.bool c.had,I4 c.o.a,I4 c.o.b,I4 c.o.c,.bool c.has,I4 c.n.a,I4 c.n.b,I4 c.n.c,.pointer p1,I5 b2,I4 o,I4 n] 151 (0,0))]++[(bv,.cells #[I4 (Bf y q.cl)] 3 (0,0))]++[(b2,.cells #[I4 y.t,I4 y.k,I4 y.v.a,I4 y.v.b,I4 y.v.c] 113 (0,0))]]):=by
 refine ED (Uu q hcl c p1 o n y b2) rfl ?_;rintro r H' ⟨be,bv,rfl,rfl⟩;exact ⟨_,⟨be,bv,rfl,rfl⟩,by simp⟩
theorem XC(q:QM)(hcl:0≤q.cl∧q.cl≤3)(c:Chg)(p1:Option Addr)(o n:Int)(y:AP)(b2 be bv:Nat)(x:AP):Aw Tryz.prog 266 (.agg #[I4 x.t,I4 x.k,I4 x.v.a,I4 x.v.b,I4 x.v.c]::([I5 be,I5 bv]:List Value)).toArray [[(be,.cells #[I4 q.kd,I4 q.tb,I4 q.cl,I4 q.lo,I4 q.hi,I4 q.bq,I4 q.ot,I4 c.t,I4 c.k,.bool c.had,I4 c.o.a,I4 c.o.b,I4 c.o.c,.bool c.has,I4 c.n.a,I4 c.n.b,I4 c.n.c,.pointer p1,I5 b2,I4 o,I4 n] 151 (0,0))]++[(bv,.cells #[I4 (Bf y q.cl)] 3 (0,0))]++[(b2,.cells #[I4 y.t,I4 y.k,I4 y.v.a,I4 y.v.b,I4 y.v.c] 113 (0,0))]] (.bool (J6 q y x)):=by
 refine ED (fH q hcl c p1 o n y b2 be bv x) rfl ?_;rintro r H' ⟨rfl,rfl⟩;exact ⟨_,⟨rfl,rfl⟩,by simp⟩
set_option maxHeartbeats 1000000 in
theorem Xi(q:QM)(c:Chg)(p1 p2:Option Addr)(o n:Int)(hcl:0≤q.cl∧q.cl≤3){r:CO}{rv:Value}{sr:List AR}(hr:BV 5 113 rv r.rows.length (Ac r.rows) sr)(hn:r.rows.length≤100000000){s2:List AR}(h2:IB p2 (afQ q c) s2):CF Tryz.prog 165 #[.agg #[I4 q.kd,I4 q.tb,I4 q.cl,I4 q.lo,I4 q.hi,I4 q.bq,I4 q.ot,I4 c.t,I4 c.k,.bool c.had,I4 c.o.a,I4 c.o.b,I4 c.o.c,.bool c.has,I4 c.n.a,I4 c.n.b,I4 c.n.c,.pointer p1,.pointer p2,I4 o,I4 n],.agg #[rv,I4 r.val,.bool r.fnd]] [sr,s2] (fun w H'=>∃rv' s',w= .tuple #[.agg #[rv',I4 r.val,.bool r.fnd],.bool true]∧BV 5 113 rv' (Dq q c r.rows).length (Ac (Dq q c r.rows)) s'∧H'=[s']):=by
 have hml:=mL;obtain ⟨pv,cv,rfl⟩:=hr.form;have hU:=D5 hr (by omega)
 have hfl:(r.rows.filter fun x=>!J2 c x).length≤r.rows.length:=vg _ _;refine Se func165 ntmps165 [0,1] ?_;intro u R;refine Zq<|Zg<|Ze (H8 Y (cs:=#[I4 q.kd,I4 q.tb,I4 q.cl,I4 q.lo,I4 q.hi,I4 q.bq,I4 q.ot,I4 c.t,I4 c.k,.bool c.had,I4 c.o.a,I4 c.o.b,I4 c.o.c,.bool c.has,I4 c.n.a,I4 c.n.b,I4 c.n.c,.pointer p1,.pointer p2,I4 o,I4 n]) (FZ q c p1 p2 o n)) ?_;rintro _ _ ⟨be,rfl,rfl⟩;refine Ze (Bx #[.slice pv r.rows.length cv,I4 r.val,.bool r.fnd]) ?_;rintro _ _ ⟨br,rfl,rfl⟩;refine Ze (Al zeroValue51 #[_,_,_]) ?_;rintro _ _ ⟨b3,rfl,rfl⟩;refine Za Y<|Z0<|Zx<|Zq<|Zg<|Zh 0 underlying51 rfl rfl sizeOf45 Y<|Zl isAgg45 Y ?_;refine Zv (Bo (vs:=[]) (us:=[_]) Y Y) ?_;refine Zc [_,_] Y call229 Y rfl (U3 (B:=[(be,.cells #[I4 q.kd,I4 q.tb,I4 q.cl,I4 q.lo,I4 q.hi,I4 q.bq,I4 q.ot,I4 c.t,I4 c.k,.bool c.had,I4 c.o.a,I4 c.o.b,I4 c.o.c,.bool c.has,I4 c.n.a,I4 c.n.b,I4 c.n.c,.pointer p1,.pointer p2,I4 o,I4 n] 151 (0,0))]) hU (by omega) 230 [I5 be] (J2 c) call230 (fun x=>bX q c p1 p2 o n x be)) ?_;rintro _ _ ⟨_,⟨s3,h3,rfl⟩,rfl⟩;obtain ⟨g3,c3,rfl⟩:=h3.form;refine Zh 0 underlying51 rfl rfl sizeOf45 Y<|Xe (Zs sizeOf45 Y Y rfl (hi:=by first|omega|decide|(simp;done))) ?_;refine Z0<|Zx<|Zb [2,3,4] ?_;refine CU (e0:=[(2,_)]) (H0:=[[(br,.cells #[.slice g3 (r.rows.filter fun x=>!J2 c x).length c3,I4 r.val,.bool r.fnd] 51 (0,0))],s3,s2]) (fun e H=>∃(w:Value) (s4:List AR),(BV 5 113 w (Dq q c r.rows).length (Ac (Dq q c r.rows)) s4)∧e=[]∧H=[[(br,.cells #[w,I4 r.val,.bool r.fnd] 51 (0,0))],s4]) Wp ?hx_1 ?hy_1
 case hx_1=>
  refine Zq<|Zg<|Zh 18 underlying151 rfl rfl sizeOf149 Y<|Zl isAgg149 Y ?_;refine Zv (Ec underlying149 Y Y)<|Z0<|Zx ?_;refine Af Y (fun hp=>?_) (fun hp=>?_)
  ·
   obtain ⟨y,hy⟩:∃y,afQ q c=some y:=xN.1 (by rw [←h2.some_];exact hp);rw [hy]at h2;obtain ⟨b2,rfl,rfl⟩:=h2;refine BJ (n:=11) (0::1::0::4::12::28::0::64::255::511::1023::[]) 1408 (by kernel_rfl) (by kernel_rfl) rfl ?_;refine Zi 1 0 rfl (AX (off:=0) underlying51 rfl rfl sizeOf45 Y)<|Zj 3 1 rfl isAgg45 Y ?_;refine Zi 7 2 rfl (AX (off:=18) underlying151 rfl rfl sizeOf149 Y)<|Zj 15 3 rfl isAgg149 Y ?_;refine Zi 31 4 rfl (E5 Y rfl)<|Fs (b:=b2) (x:= .cells #[I4 y.t,I4 y.k,I4 y.v.a,I4 y.v.b,I4 y.v.c] 113 (0,0)) (D':=63) 5 rfl rfl rfl (by simp) (AY (cs:=#[I4 y.t,I4 y.k,I4 y.v.a,I4 y.v.b,I4 y.v.c]) isAgg113 sizeOf113 Y (by first|decide|exact tQ _|(simp;done)) (by rfl)) ?_;refine DU (D':=127) 6 rfl rfl rfl Wh (AY isAgg151 sizeOf151 Y Wb (by exact Av rfl)) ?_;refine Zz (l:=[7]) ?_;refine Zy 64 255 [6,5,3,1] [false,true,true,true] [(5,(_,_)),(3,(_,_)),(1,(_,_))] rfl Y rfl rfl rfl rfl (Zw [_] Y call232 Y rfl (PG q hcl c p1 o n y b2)) ?hk_2 Ck ?hl_2
   case hk_2=>
    rintro _ _ ⟨_,⟨b8,b9,rfl,rfl⟩,rfl⟩;refine ⟨KM (by simp [*]) (Zk (Zk (Ad))),?_⟩;refine Zz (l:=[8]) ?_;refine Zy 255 511 [5,3,1] [false,false,false] [] rfl Y rfl rfl rfl rfl (Zw [_,_,_] Y call231 Y rfl (Rm h3 (by omega) y 266 [I5 b8,I5 b9] (J6 q y) call266 (fun x=>XC q hcl c p1 o n y b2 b8 b9 x))) ?hk_3 Ck ?hl_3
    case hk_3=>
     rintro _ _ ⟨_,⟨s5,s6,h5,rfl⟩,rfl⟩;refine ⟨Ad,?_⟩;obtain ⟨g5,c5,rfl⟩:=h5.form;refine Zi 1023 9 rfl (AX (off:=0) underlying51 rfl rfl sizeOf45 Y)<|Zz (l:=[10]) ?_;refine Zy 1023 2047 [] [] [] rfl Y rfl rfl rfl rfl (Zs sizeOf45 Y Y rfl (hi:=by first|omega|decide|(simp;done))) ?hk_4 (fun _ _ h=>h.elim) ?hl_4
     case hk_4=>
      rintro _ _ ⟨rfl,rfl⟩;refine ⟨Ad,?_⟩;refine Am ?_;refine Zn [3,4] ?_;refine BA (e':=[]) (by exact ⟨_,s5,by unfold Dq;rw [hy];exact h5,rfl,rfl⟩)
     exact Ar
    exact Ar
   exact Ar
  have hy:afQ q c=none:=by have h9:=h2.some_;rw [hp]at h9;exact zI.1 (by rw [←h9];decide)
  refine AB<|Zn [3,4] ?_;refine BA (e':=[]) (by exact ⟨_,s3,by unfold Dq;rw [hy];exact h3,rfl,rfl⟩)
 rintro _ _ ⟨w,s4,h4,rfl,rfl⟩;obtain ⟨p4,c4,rfl⟩:=h4.form;refine Zq<|Zg<|Zo Wh (AY (cs:=#[_,_,_]) isAgg51 sizeOf51 Y Wb (by exact Av rfl)) ?_;refine Xe (BP sizeOf51 Y Y (by(simp [Value.oneCell'];done)) Wu (by exact DY rfl) (by first|rfl|(simp;done)) Wb (by exact BR _)) ?_;refine Za Y<|Z0<|Zx<|A9 ?_;refine Bb rfl results165 Y Wh (Ah isAgg51 sizeOf51 Wn (rfl)) Y (by exact ⟨_,s4,rfl,h4,rfl⟩)
theorem Vo(q:QM)(c:Chg)(p1 p2:Option Addr)(o n:Int){r:CO}(pv:Option Addr)(kv cv:Nat)(hv:-4000000000000000000≤r.val∧r.val≤4000000000000000000):Aw Tryz.prog 167 #[.agg #[I4 q.kd,I4 q.tb,I4 q.cl,I4 q.lo,I4 q.hi,I4 q.bq,I4 q.ot,I4 c.t,I4 c.k,.bool c.had,I4 c.o.a,I4 c.o.b,I4 c.o.c,.bool c.has,I4 c.n.a,I4 c.n.b,I4 c.n.c,.pointer p1,.pointer p2,I4 o,I4 n],.agg #[.slice pv kv cv,I4 r.val,.bool r.fnd]] [] (.tuple #[.agg #[.slice pv kv cv,I4 (if p2.isSome then r.val+1 else r.val -1),.bool r.fnd],.bool true]):=by
 refine Se func167 ntmps167 [0,1] ?_;intro u R;refine Zq<|Zg<|Ze (H8 Y (cs:=#[I4 q.kd,I4 q.tb,I4 q.cl,I4 q.lo,I4 q.hi,I4 q.bq,I4 q.ot,I4 c.t,I4 c.k,.bool c.had,I4 c.o.a,I4 c.o.b,I4 c.o.c,.bool c.has,I4 c.n.a,I4 c.n.b,I4 c.n.c,.pointer p1,.pointer p2,I4 o,I4 n]) (FZ q c p1 p2 o n)) ?_;rintro _ _ ⟨be,rfl,rfl⟩;refine Ze (Bx #[.slice pv kv cv,I4 r.val,.bool r.fnd]) ?_;rintro _ _ ⟨br,rfl,rfl⟩;refine Ze (Al zeroValue51 #[_,_,_]) ?_;rintro _ _ ⟨b3,rfl,rfl⟩;refine Za Y<|Z0<|Zx<|Zq<|Zq<|Zg<|Zh 18 underlying151 rfl rfl sizeOf149 Y<|Zl isAgg149 Y ?_;refine Zv (Ec underlying149 Y Y)<|Z0<|Zx ?_;refine Af Y (fun hp=>?_) (fun hp=>?_)
 ·
  refine Zg<|Zh 1 underlying51 rfl rfl sizeOf3 Y<|Zl isAgg3 Y ?_;refine Yi Y Y<|Zh 1 underlying51 rfl rfl sizeOf3 Y<|Xe (Zs sizeOf3 Y Y rfl (hi:=by first|omega|decide|(simp;done))) ?_;refine Z0<|Zx<|Zq<|Zg<|Zo Wh (Pa #[_,_,_] isAgg51 sizeOf51 Y) ?_;refine Xe (Xw sizeOf51 _) ?_;refine Za Y<|Z0<|Zn [4,5] ?_;refine Zx<|A9 ?_;refine Bb rfl results167 Y Wh (Ah isAgg51 sizeOf51 Wn (rfl)) Y (by exact ⟨by rw [hp];rfl,rfl⟩)
 refine Zg<|Zh 1 underlying51 rfl rfl sizeOf3 Y<|Zl isAgg3 Y ?_
 (refine BM (GD Y Y (IntWalk.i64_in _ ?_)) ?_;(focus (omega)))
 refine Zh 1 underlying51 rfl rfl sizeOf3 Y<|Xe (Zs sizeOf3 Y Y rfl (hi:=by first|omega|decide|(simp;done))) ?_;refine Z0<|Zx<|Zq<|Zg<|Zo Wh (Pa #[_,_,_] isAgg51 sizeOf51 Y) ?_;refine Xe (Xw sizeOf51 _) ?_;refine Za Y<|Z0<|Zn [4,5] ?_;refine Zx<|A9 ?_;refine Bb rfl results167 Y Wh (Ah isAgg51 sizeOf51 Wn (rfl)) Y (by exact ⟨by rw [hp];rfl,rfl⟩)
theorem bT(q:QM)(c:Chg)(p1 p2:Option Addr)(o n:Int){r:CO}(pv:Option Addr)(kv cv:Nat)(hv:-4000000000000000000≤r.val∧r.val≤4000000000000000000)(hm:(-1000000000≤o∧o≤1000000000)∧-1000000000≤n∧n≤1000000000):Aw Tryz.prog 169 #[.agg #[I4 q.kd,I4 q.tb,I4 q.cl,I4 q.lo,I4 q.hi,I4 q.bq,I4 q.ot,I4 c.t,I4 c.k,.bool c.had,I4 c.o.a,I4 c.o.b,I4 c.o.c,.bool c.has,I4 c.n.a,I4 c.n.b,I4 c.n.c,.pointer p1,.pointer p2,I4 o,I4 n],.agg #[.slice pv kv cv,I4 r.val,.bool r.fnd]] [] (.tuple #[.agg #[.slice pv kv cv,I4 (r.val+(n -o)),.bool r.fnd],.bool true]):=by
 refine Se func169 ntmps169 [0,1] ?_;intro u R;refine Zq<|Zg<|Ze (H8 Y (cs:=#[I4 q.kd,I4 q.tb,I4 q.cl,I4 q.lo,I4 q.hi,I4 q.bq,I4 q.ot,I4 c.t,I4 c.k,.bool c.had,I4 c.o.a,I4 c.o.b,I4 c.o.c,.bool c.has,I4 c.n.a,I4 c.n.b,I4 c.n.c,.pointer p1,.pointer p2,I4 o,I4 n]) (FZ q c p1 p2 o n)) ?_;rintro _ _ ⟨be,rfl,rfl⟩;refine Ze (Bx #[.slice pv kv cv,I4 r.val,.bool r.fnd]) ?_;rintro _ _ ⟨br,rfl,rfl⟩;refine Ze (Al zeroValue51 #[_,_,_]) ?_;rintro _ _ ⟨b3,rfl,rfl⟩;refine Za Y<|Z0<|Zx<|Zq<|Zg<|Zh 1 underlying51 rfl rfl sizeOf3 Y<|Zl isAgg3 Y ?_;refine Zh 20 underlying151 rfl rfl sizeOf3 Y<|Zl isAgg3 Y ?_;refine Zh 19 underlying151 rfl rfl sizeOf3 Y<|Zl isAgg3 Y ?_
 (refine BM (GD Y Y (IntWalk.i64_in _ ?_)) ?_;(focus (omega)))
 refine Yi Y Y<|Zh 1 underlying51 rfl rfl sizeOf3 Y<|Xe (Zs sizeOf3 Y Y rfl (hi:=by first|omega|decide|(simp;done))) ?_;refine Z0<|Zn [3,4] ?_;refine Zx<|Zq<|Zg<|Zo Wh (Pa #[_,_,_] isAgg51 sizeOf51 Y) ?_;refine Xe (Xw sizeOf51 _) ?_;refine Za Y<|Z0<|Zx<|A9 ?_;refine Bb rfl results169 Y Wh (Ah isAgg51 sizeOf51 Wn (rfl)) Y (by exact ⟨rfl,rfl⟩)
end Go.Proofs.YtkdgffcfmgmemaaGreatDoor
