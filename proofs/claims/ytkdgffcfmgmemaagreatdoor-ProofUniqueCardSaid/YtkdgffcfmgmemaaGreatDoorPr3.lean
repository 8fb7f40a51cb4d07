/- eval: From, Of, Same. -/
/- eval: Same, Of. -/
/- The patches of a result. -/
/- The patches of the kinds of queries (not joins). -/
import Derived.Test.YtkdgffcfmgmemaaGreatDoorEz
import Derived.Test.YtkdgffcfmgmemaaGreatDoorQe6
import Derived.Test.YtkdgffcfmgmemaaGreatDoorQe1
set_option linter.unusedVariables false
set_option linter.unusedSimpArgs false
namespace Go.Proofs.YtkdgffcfmgmemaaGreatDoor
open Go.Proofs.Tryz
open Go Go.RowKit Gw
set_option maxRecDepth 100000
attribute [local irreducible] Gw.At Gw.Nx Gw.Ops
def Hy(q:QM)(rows others:List AP):CG:=if BP q then FE q rows others else CG.none
theorem oG{q:QM}{rows others:List AP}(h:¬BP q):Hy q rows others=⟨[],0,false⟩:=if_neg h
theorem NS{q:QM}{rows others:List AP}(h:BP q):Hy q rows others=FE q rows others:=if_pos h
theorem rJ{q:QM}{rows others:List AP}(h:BP q)(k:q.kd=3):Hy q rows others=⟨[],rows.length,false⟩:=by rw [NS h];unfold FE;rw [if_pos k]
theorem rH{q:QM}{rows others:List AP}(h:BP q)(k:q.kd=4):Hy q rows others=⟨[],Ka (Co q rows),false⟩:=by rw [NS h];unfold FE;rw [if_neg (by omega),if_pos k]
theorem rG{q:QM}{rows others:List AP}(h:BP q)(k:q.kd=5):Hy q rows others=EL (fun a b=>decide (a<b)) (Co q rows):=by rw [NS h];unfold FE;rw [if_neg (by omega),if_neg (by omega),if_pos k]
theorem rF{q:QM}{rows others:List AP}(h:BP q)(k:q.kd=6):Hy q rows others=EL (fun a b=>decide (b<a)) (Co q rows):=by rw [NS h];unfold FE;rw [if_neg (by omega),if_neg (by omega),if_neg (by omega),if_pos k]
theorem rE{q:QM}{rows others:List AP}(h:BP q)(k:q.kd=7):Hy q rows others=⟨IM q rows others,0,false⟩:=by rw [NS h];unfold FE;rw [if_neg (by omega),if_neg (by omega),if_neg (by omega),if_neg (by omega),if_pos k]
theorem rM{q:QM}{rows others:List AP}(h:BP q)(k3:¬q.kd=3)(k4:¬q.kd=4)(k5:¬q.kd=5)(k6:¬q.kd=6)(k7:¬q.kd=7):Hy q rows others=⟨rows,0,false⟩:=by rw [NS h];unfold FE;rw [if_neg k3,if_neg k4,if_neg k5,if_neg k6,if_neg k7]
theorem aa{ms:List Int}{i:Nat}{x:Int}(h:ms[i]?=some x):Ka (ms.take (i+1))=Ka (ms.take i)+x:=by unfold Ka;rw [Bo h,wJ];rfl
theorem Ph(B:Int):∀(ms:List Int),(∀m∈ms,-B≤m∧m≤B)→-(ms.length*B)≤JS ms∧JS ms≤ms.length*B
 |[],_=>by simp [JS]
 |m::ms,h=>by
  have h1:=h m (by simp);have h2:=Ph B ms (fun y hy=>h y (ug _ hy))
  have h3:((m::ms).length:Int)*B=ms.length*B+B:=by rw [tY];push_cast;rw [Int.add_mul,Int.one_mul]
  simp only [JS];omega
theorem ZH{ms:List Int}(h:∀m∈ms,-1000000000≤m∧m≤1000000000)(hl:ms.length≤1000000000)(i:Nat):-1000000000000000000≤Ka (ms.take i)∧Ka (ms.take i)≤1000000000000000000:=by
 have h1:=Ph 1000000000 (ms.take i) (fun m hm=>h m (vD hm));have h2:(ms.take i).length≤1000000000:=by rw [tL];omega
 unfold Ka;rw [Lh];omega
theorem eT{lt:Int→Int→Bool}{ms:List Int}{i:Nat}{x:Int}(h:ms[i]?=some x):EL lt (ms.take (i+1))=⟨(EL lt (ms.take i)).rows,if !(EL lt (ms.take i)).fnd||lt x (EL lt (ms.take i)).val then x else(EL lt (ms.take i)).val,true⟩:=by unfold EL;rw [Bo h,wJ];rfl
theorem Td(lt:Int→Int→Bool)(ms:List Int):∀r:CG,(ms.foldl (fun r n=>⟨r.rows,if !r.fnd||lt n r.val then n else r.val,true⟩:CG→Int→CG) r).rows=r.rows:=by
 induction ms with
 |nil=>intro r;rfl
 |cons m ms ih=>intro r;rw [xD,ih]
theorem YX{M:List AR}{v:Value}{rows:List AP}(hv:DV M v rows)(hb:rows.length≤1000000000):Av Tryz.prog 138 #[v,.agg #[.slice none 0 0,I4 0,.bool false],.func (.func 139) #[] #[]] [M] (.agg #[.slice none 0 0,I4 (rows.length:Int),.bool false]):=
 YQ hv (fun i=>((i:Int),false)) rfl 139 [] call139 (fun i r hr=>by
  have hlt:=(tH.1 hr).1;have:=YP (i:Int) false r (by omega)
  exact L8 this)
theorem gJ{s:List AR}{p:Option Addr}{cap:Nat}{ms:List Int}(hc:Fa s p (ms.map ivQ))(hl:ms.length≤1000000000)(hlc:ms.length≤cap)(hm:∀m∈ms,-1000000000≤m∧m≤1000000000):Av Tryz.prog 140 #[.slice p ms.length cap,.agg #[.slice none 0 0,I4 0,.bool false],.func (.func 142) #[] #[]] [s] (.agg #[.slice none 0 0,I4 (Ka ms),.bool false]):=by
 have hml:=mL;have h:=Qs hc (by omega) hlc (fun i=>(Ka (ms.take i),false)) rfl 142 [] call142 (fun i x hx=>by
  have h1:=ZH hm hl i;have h2:=hm x (tV hx)
  have h3:=YO (Ka (ms.take i)) x false (by omega);show Av _ _ _ _ (.agg #[.slice none 0 0,I4 (Ka (ms.take (i+1))),.bool false])
  rw [aa hx];exact L8 h3)
 rwa [uQ]at h
theorem Wi{s:List AR}{p:Option Addr}{cap:Nat}{ms:List Int}(hc:Fa s p (ms.map ivQ))(hl:ms.length≤1000000000)(hlc:ms.length≤cap)(b fid:Nat)(lt:Int→Int→Bool)(hcf:∀(args:Array Value) (w:World),(callFunc fid args).run Tryz.prog w= .ok (.enter fid args) w)(hlt:∀x y:Int,Av Tryz.prog fid #[I4 x,I4 y] [] (.bool (lt x y))):Av Tryz.prog 140 #[.slice p ms.length cap,.agg #[.slice none 0 0,I4 0,.bool false],.func (.func 221) #[] #[I5 b]] [s,[(b,.cells #[.func (.func fid) #[] #[]] 185 (0,0))]] (.agg #[.slice none 0 0,I4 (EL lt ms).val,.bool (EL lt ms).fnd]):=by
 have hml:=mL;refine eu ?_;have h:=Qs (M:=s++[(b,.cells #[.func (.func fid) #[] #[]] 185 (0,0))]) (ms:=ms) (p:=p) (fun j u hu=>by
  obtain ⟨g,o,c,T,z,h1,h2,h3⟩:=hc j u hu;exact ⟨g,o,c,T,z,h1,u6 _ h2,h3⟩) (by omega) hlc (fun i=>((EL lt (ms.take i)).val,(EL lt (ms.take i)).fnd)) rfl 221 [I5 b] call221 (fun i x hx=>by
  show Av _ _ _ _ (.agg #[.slice none 0 0,I4 (EL lt (ms.take (i+1))).val,.bool (EL lt (ms.take (i+1))).fnd]);rw [eT hx];exact Wz (eU (EL lt (ms.take i)).val x (EL lt (ms.take i)).fnd b fid lt hcf hlt))
 rwa [uQ]at h
theorem ZW{q:QM}{rows:List AP}(h:∀r∈rows,-1000000000≤Be r q.bq∧Be r q.bq≤1000000000):∀m∈Co q rows,-1000000000≤m∧m≤1000000000:=by
 intro m hm;obtain ⟨r,hr,rfl⟩:=uh.1 hm;exact h r hr
set_option maxHeartbeats 1000000 in
theorem eD{M:List AR}{v vo:Value}{rows others:List AP}(hv:DV M v rows)(ho:DV M vo others)(q:QM)(hb:rows.length≤1000000000)(hm:BP q→∀r∈rows,-1000000000≤Be r q.bq∧Be r q.bq≤1000000000):CO Tryz.prog 72 #[.agg #[I4 q.kd,I4 q.tb,I4 q.cl,I4 q.lo,I4 q.hi,I4 q.bq,I4 q.ot],v,vo] [M] (fun w H'=>∃rv s,w= .agg #[rv,I4 (Hy q rows others).val,.bool (Hy q rows others).fnd]∧BX 5 113 rv (Hy q rows others).rows.length (Ac (Hy q rows others).rows) s∧H'=[s,M]):=by
 have hml:=mL;refine Se func72 ntmps72 [0,1,2] ?_;intro u R;refine Zq<|Zg<|Ze (Bx #[_,_,_,_,_,_,_]) ?_;rintro _ _ ⟨bq,rfl,rfl⟩;refine Ze (Al zeroValue51 #[_,_,_]) ?_;rintro _ _ ⟨br,rfl,rfl⟩;refine Z0<|Zx<|Zq<|Zq<|Zg<|Zo Wh (Pa #[_,_,_,_,_,_,_] isAgg30 sizeOf30 Y) ?_;refine Xr [_] Y call49 Y rfl (LY q) ?_;refine Zv (CB Y)<|Z0<|Zx ?_;refine Af Y (fun hq=>?_) (fun hq=>?_)
 ·
  have hq9:¬BP q:=by simpa using hq
  refine Zq<|Bd ?_;refine Zg<|Zv (BK (vs:=[]) (cs:=#[_,_,_]) Y (Aa (pl:=#[(0,1),(1,1),(2,1)]) zeroValue51 underlying51 (fun _=>by kernel_rfl) rfl)) ?_;refine Xe (Xw sizeOf51 _) ?_;refine Z0<|Zx<|A9<|Zt ?_;refine D7 rfl results72 Y Wh (Ah isAgg51 sizeOf51 Wn (rfl)) (by exact ⟨.slice none 0 0,[],by rw [oG hq9];rfl,by rw [oG hq9];exact BV 5 _,rfl⟩)
 have hq9:BP q:=by simpa using hq
 have hbq9:0≤q.bq∧q.bq≤3:=by have:=hq9.2.2.2;omega
 have hm9:=ZW (hm hq9);refine AC<|Zx<|Zq<|Zg<|Ze (Al zeroValue51 #[_,_,_]) ?_;rintro _ _ ⟨bn,rfl,rfl⟩;refine Z0<|Zx<|Zq<|Zq<|Zg<|Zh 0 underlying30 rfl rfl sizeOf3 Y<|Zl isAgg3 Y ?_;refine Z0<|Zx<|AQ<|Zq<|Zg<|Zv (CF Y Y)<|Za Y<|Z0<|Zx ?_;refine Ao Y (fun k3=>?_) (fun k3=>?_)
 ·
  refine Zq<|Bd ?_;refine Zg<|Zm Y<|Zo Wh (Pa #[_,_,_] isAgg51 sizeOf51 Y) ?_;refine Xr [_,_,_] Y call138 Y rfl (YX hv hb) ?_;refine Xe (Xw sizeOf51 _) ?_;refine Z0<|Zn [6] ?_;refine Zx<|A9<|AY<|Zt ?_;refine D7 rfl results72 Y Wh (Ah isAgg51 sizeOf51 Wn (rfl)) (by exact ⟨.slice none 0 0,[],by rw [rJ hq9 k3];rfl,by rw [rJ hq9 k3];exact BV 5 _,rfl⟩)
 refine Zq<|Zg<|Zv (CF Y Y)<|Za Y<|Z0<|Zx ?_;refine Ao Y (fun k4=>?_) (fun k4=>?_)
 ·
  refine Zq<|Bd ?_;refine BI (n:=6) (0::0::3::0::15::31::[]) 52 (by kernel_rfl) (by kernel_rfl) rfl ?_;refine Cj (D':=1) 0 rfl rfl rfl Wh (Pa #[_,_,_,_,_,_,_] isAgg30 sizeOf30 Y) ?_;refine Zi 3 1 rfl (AJ Y)<|Cj (D':=11) 3 rfl rfl rfl Wh (Pa #[_,_,_] isAgg51 sizeOf51 Y) ?_;refine Zz (l:=[2]) ?_;refine Zy 3 15 [3,0] [true,false] [(3,(_,_))] rfl Y rfl rfl rfl rfl (Zw [_,_] Y call141 Y rfl (Ld hv q hbq9 (by omega))) ?hk_3 D9 ?hl_3
  case hk_3=>
   rintro _ _ ⟨_,⟨sm,hrm,rfl⟩,rfl⟩;refine ⟨Zk (Ad),?_⟩;obtain ⟨gm,cm,rfl⟩:=hrm.form;have hcs:Fa sm gm ((Co q rows).map ivQ):=KR hrm
   have hml2:=Jk q rows;have hcm2:=FD hrm
   refine Yw 4 31 rfl (Zu [_,_,_] Y call140 Y rfl (gJ hcs (by omega) (by omega) hm9)) ?_;rintro _ _ ⟨rfl,rfl⟩;refine Yw 5 63 rfl (Xw sizeOf51 _) ?_;rintro _ _ ⟨rfl,rfl⟩;refine Am ?_;refine Zn [6] ?_;refine Zx<|A9<|AY<|Zt ?_;refine D7 rfl results72 Y Wh (Ah isAgg51 sizeOf51 Wn (rfl)) (by exact ⟨.slice none 0 0,[],by rw [rH hq9 k4];rfl,by rw [rH hq9 k4];exact BV 5 _,rfl⟩)
  exact Aw
 refine Zq<|Zg<|Zv (CF Y Y)<|Za Y<|Z0<|Zn [1,2,3,6,7,13,26] ?_;refine Zx ?_;refine Ao Y (fun k5=>?_) (fun k5=>?_)
 ·
  refine Zq<|Bd ?_;refine BI (n:=7) (0::0::3::0::7::31::63::[]) 116 (by kernel_rfl) (by kernel_rfl) rfl ?_;refine Cj (D':=1) 0 rfl rfl rfl Wh (Pa #[_,_,_,_,_,_,_] isAgg30 sizeOf30 Y) ?_;refine Zi 3 1 rfl (AJ Y)<|Cj (D':=11) 3 rfl rfl rfl Wh (Pa #[_,_,_] isAgg51 sizeOf51 Y) ?_;refine Zz (l:=[2]) ?_;refine Zy 3 15 [3,0] [true,false] [(3,(_,_))] rfl Y rfl rfl rfl rfl (Zw [_,_] Y call141 Y rfl (Ld hv q hbq9 (by omega))) ?hk_7 D9 ?hl_7
  case hk_7=>
   rintro _ _ ⟨_,⟨sm,hrm,rfl⟩,rfl⟩;refine ⟨Zk (Ad),?_⟩;obtain ⟨gm,cm,rfl⟩:=hrm.form;have hcs:Fa sm gm ((Co q rows).map ivQ):=KR hrm
   have hml2:=Jk q rows;have hcm2:=FD hrm
   refine Zz (l:=[4]) ?_;refine Zy 7 31 [3] [true] [(3,(_,_))] rfl Y rfl rfl rfl rfl (Zw [_] Y call143 Y rfl (M5 (.func (.func 144) #[] #[]) rfl rfl)) ?hk_8 D9 ?hl_8
   case hk_8=>
    rintro _ _ ⟨_,⟨b9,rfl,rfl⟩,rfl⟩;refine ⟨Zk (Ad),?_⟩;refine Yw 5 63 rfl (Zu [_,_,_] Y call140 Y rfl (Wi hcs (by omega) (by omega) b9 144 _ call144 YN)) ?_;rintro _ _ ⟨rfl,rfl⟩;refine Yw 6 127 rfl (Xw sizeOf51 _) ?_;rintro _ _ ⟨rfl,rfl⟩;refine Am ?_;refine Zx<|A9<|AY<|Zt ?_;refine D7 rfl results72 Y Wh (Ah isAgg51 sizeOf51 Wn (rfl)) (by
     have e8:=Td (fun a b=>decide (a<b)) (Co q rows) CG.none;exact ⟨.slice none 0 0,[],by rw [rG hq9 k5];rfl,by rw [rG hq9 k5];rw [show(EL (fun a b=>decide (a<b)) (Co q rows)).rows=[] from e8];exact BV 5 _,rfl⟩)
   exact Aw
  exact Aw
 refine Zq<|Zg<|Zv (CF Y Y)<|Za Y<|Z0<|Zx ?_;refine Ao Y (fun k6=>?_) (fun k6=>?_)
 ·
  refine Zq<|Bd ?_;refine BI (n:=7) (0::0::3::0::7::31::63::[]) 116 (by kernel_rfl) (by kernel_rfl) rfl ?_;refine Cj (D':=1) 0 rfl rfl rfl Wh (Pa #[_,_,_,_,_,_,_] isAgg30 sizeOf30 Y) ?_;refine Zi 3 1 rfl (AJ Y)<|Cj (D':=11) 3 rfl rfl rfl Wh (Pa #[_,_,_] isAgg51 sizeOf51 Y) ?_;refine Zz (l:=[2]) ?_;refine Zy 3 15 [3,0] [true,false] [(3,(_,_))] rfl Y rfl rfl rfl rfl (Zw [_,_] Y call141 Y rfl (Ld hv q hbq9 (by omega))) ?hk_12 D9 ?hl_12
  case hk_12=>
   rintro _ _ ⟨_,⟨sm,hrm,rfl⟩,rfl⟩;refine ⟨Zk (Ad),?_⟩;obtain ⟨gm,cm,rfl⟩:=hrm.form;have hcs:Fa sm gm ((Co q rows).map ivQ):=KR hrm
   have hml2:=Jk q rows;have hcm2:=FD hrm
   refine Zz (l:=[4]) ?_;refine Zy 7 31 [3] [true] [(3,(_,_))] rfl Y rfl rfl rfl rfl (Zw [_] Y call143 Y rfl (M5 (.func (.func 145) #[] #[]) rfl rfl)) ?hk_13 D9 ?hl_13
   case hk_13=>
    rintro _ _ ⟨_,⟨b9,rfl,rfl⟩,rfl⟩;refine ⟨Zk (Ad),?_⟩;refine Yw 5 63 rfl (Zu [_,_,_] Y call140 Y rfl (Wi hcs (by omega) (by omega) b9 145 _ call145 YM)) ?_;rintro _ _ ⟨rfl,rfl⟩;refine Yw 6 127 rfl (Xw sizeOf51 _) ?_;rintro _ _ ⟨rfl,rfl⟩;refine Am ?_;refine Zx<|A9<|AY<|Zt ?_;refine D7 rfl results72 Y Wh (Ah isAgg51 sizeOf51 Wn (rfl)) (by
     have e8:=Td (fun a b=>decide (b<a)) (Co q rows) CG.none;exact ⟨.slice none 0 0,[],by rw [rF hq9 k6];rfl,by rw [rF hq9 k6];rw [show(EL (fun a b=>decide (b<a)) (Co q rows)).rows=[] from e8];exact BV 5 _,rfl⟩)
   exact Aw
  exact Aw
 refine Zq<|Zg<|Zv (CF Y Y)<|Za Y<|Z0<|Zx ?_;refine Ao Y (fun k7=>?_) (fun k7=>?_)
 ·
  refine Zq<|Zg<|Zo Wh (Pa #[_,_,_,_,_,_,_] isAgg30 sizeOf30 Y) ?_;refine Zm Y<|Zm Y<|Zc [_,_,_] Y call146 Y rfl (WH hv ho q hbq9 (by omega)) ?_;rintro _ _ ⟨_,⟨sj,hrj,rfl⟩,rfl⟩;obtain ⟨gj,cj,rfl⟩:=hrj.form;refine Zv (BK (vs:=[(0,_)]) (cs:=#[_,_,_]) Y (Aa (pl:=#[(0,1),(1,1),(2,1)]) zeroValue51 underlying51 (fun _=>by kernel_rfl) rfl)) ?_;refine Xe (BN sizeOf51 Y Y (by(simp [Value.oneCell',Value.cells];done)) Wu (by rfl) (by first|rfl|(simp;done)) Wb (by exact BQ _)) ?_;refine Z0<|Zx<|A9<|AY<|Zt ?_;refine D7 rfl results72 Y Wh (Ah isAgg51 sizeOf51 Wn (rfl)) (by exact ⟨.slice gj _ cj,sj,by rw [rE hq9 k7];rfl,by rw [rE hq9 k7];exact hrj,rfl⟩)
 refine AC<|A8<|Zx<|Zq<|Zg<|Zm Y<|Zc [_] Y call94 Y rfl (He hv (by omega)) ?_;rintro _ _ ⟨_,⟨sj,hrj,rfl⟩,rfl⟩;obtain ⟨gj,cj,rfl⟩:=hrj.form;refine Zv (BK (vs:=[(0,_)]) (cs:=#[_,_,_]) Y (Aa (pl:=#[(0,1),(1,1),(2,1)]) zeroValue51 underlying51 (fun _=>by kernel_rfl) rfl)) ?_;refine Xe (BN sizeOf51 Y Y (by(simp [Value.oneCell',Value.cells];done)) Wu (by rfl) (by first|rfl|(simp;done)) Wb (by exact BQ _)) ?_;refine Z0<|Zx<|A9 ?_;refine D7 rfl results72 Y Wh (Ah isAgg51 sizeOf51 Wn (rfl)) (by exact ⟨.slice gj _ cj,sj,by rw [rM hq9 k3 k4 k5 k6 k7];rfl,by rw [rM hq9 k3 k4 k5 k6 k7];exact hrj,rfl⟩)
theorem UE{x y:CG}:x=y↔x.val=y.val∧x.fnd=y.fnd∧x.rows=y.rows:=by
 obtain ⟨a,b,c⟩:=x;obtain ⟨d,e,f⟩:=y;simp only [CG.mk.injEq];constructor
 · rintro ⟨h1,h2,h3⟩;exact ⟨h2,h3,h1⟩
 · rintro ⟨h1,h2,h3⟩;exact ⟨h3,h1,h2⟩
theorem U0{r:AP}(h:r.ok)(c:Int):-1000000000≤Be r c∧Be r c≤1000000000:=by
 obtain ⟨⟨h1,h2,h3⟩,h4,h5⟩:=h;unfold inV at h1 h2 h3;unfold Be;split
 · omega
 · split
   · omega
   · split
     · omega
     · split<;>omega
theorem jm{A B:List AR}{v vo:Value}{rows others:List AP}(hv:DV A v rows)(ho:DV B vo others)(q:QM)(hb:rows.length≤1000000000)(hm:BP q→∀r∈rows,-1000000000≤Be r q.bq∧Be r q.bq≤1000000000):CO Tryz.prog 72 #[.agg #[I4 q.kd,I4 q.tb,I4 q.cl,I4 q.lo,I4 q.hi,I4 q.bq,I4 q.ot],v,vo] [A,B] (fun w H'=>∃rv s,w= .agg #[rv,I4 (Hy q rows others).val,.bool (Hy q rows others).fnd]∧BX 5 113 rv (Hy q rows others).rows.length (Ac (Hy q rows others).rows) s∧H'=[s,A,B]):=by
 refine EB (eD (hv.mono (fun c hc=>u6 B hc)) (ho.mono (fun c hc=>tZ A hc)) q hb hm) (by simp) ?_;rintro r H' ⟨rv,s,rfl,h,rfl⟩;exact ⟨_,⟨rv,s,rfl,h,rfl⟩,by simp⟩
theorem ai(v:Value)(p:Int)(rs:List AP)(s:List AR)(hv:PO v p rs s)(t c lo hi:Int)(hc:0≤c∧c≤3):CO Tryz.prog 53 #[v,I4 t,I4 c,I4 lo,I4 hi] [s] (fun r H'=>∃so,BX 5 113 r (Ci rs t c.toNat lo hi).length (Ac (Ci rs t c.toNat lo hi)) so∧H'=[so,s]):=by
 have h:=VE v p rs s hv t c.toNat lo hi (by omega);rwa [show((c.toNat:Nat):Int)=c by omega]at h
theorem QD{rs:List AP}{t:Int}{c:Nat}{lo hi:Int}:(Ci rs t c lo hi).length≤rs.length∧∀r∈Ci rs t c lo hi,r∈rs:=by
 have h:=EO rs t c lo hi;exact ⟨by rw [h.length_eq];exact wG _ _,fun r hr=>(vW.1 (h.mem_iff.1 hr)).1⟩
theorem R3{M:List AR}{va vb:Value}{x y:CG}(ha:DV M va x.rows)(hb:DV M vb y.rows):Av Tryz.prog 31 #[.agg #[va,I4 x.val,.bool x.fnd],.agg #[vb,I4 y.val,.bool y.fnd]] [M] (.bool (decide (x=y))):=by
 obtain ⟨pa,ca,rfl,_⟩:=id ha;obtain ⟨pb,cb,rfl,_⟩:=id hb;refine Se func31 ntmps31 [0,1] ?_;intro u R;refine Zq<|Zg<|Ze (Bx #[_,_,_]) ?_;rintro _ _ ⟨b1,rfl,rfl⟩;refine Ze (Bx #[_,_,_]) ?_;rintro _ _ ⟨b2,rfl,rfl⟩;refine Za Y<|Z0<|Zx<|Zq<|Zg<|Zh 1 underlying51 rfl rfl sizeOf3 Y<|Zl isAgg3 Y ?_;refine Zh 1 underlying51 rfl rfl sizeOf3 Y<|Zl isAgg3 Y ?_;refine Zv (CF Y Y)<|Zm Y ?_;refine Aj (t:=10) Y rfl (fun h1=>?_) (fun h1=>?_)
 ·
  refine Yf 2 underlying51 rfl rfl sizeOf4 Y<|Yl isAgg4 Y ?_;refine Yf 2 underlying51 rfl rfl sizeOf4 Y<|Yl isAgg4 Y ?_;refine Yg (MP underlying4 Y Y)<|Zv (AL Y Y)<|Zm Y ?_;refine Aj (t:=17) Y rfl (fun h2=>?_) (fun h2=>?_)
  ·
   refine Yf 0 underlying51 rfl rfl sizeOf45 Y<|Yl isAgg45 Y ?_;refine Yf 0 underlying51 rfl rfl sizeOf45 Y<|Yl isAgg45 Y ?_;refine Xr [_,_] Y call88 Y rfl (Wq ha hb) ?_;refine Zv (AL Y Y)<|Za Y<|Z0<|Zn [4] ?_;refine Zx<|A9 ?_;refine AB rfl results31 Y (by
    have e9:decide (x=y)=decide (x.val=y.val∧x.fnd=y.fnd∧x.rows=y.rows):=decide_eq_decide.2 UE;exact ⟨congrArg Value.bool (by rw [e9];simp [*]),rfl⟩)
  refine A7 Y rfl<|A7 Y rfl<|A7 Y rfl<|A7 Y rfl<|A7 Y rfl<|Zv (AA Y Y)<|Za Y<|Z0<|Zn [4] ?_;refine Zx<|A9 ?_;refine AB rfl results31 Y (by
   have e9:decide (x=y)=decide (x.val=y.val∧x.fnd=y.fnd∧x.rows=y.rows):=decide_eq_decide.2 UE;exact ⟨congrArg Value.bool (by rw [e9];simp [*]),rfl⟩)
 refine A7 Y rfl<|A7 Y rfl<|A7 Y rfl<|A7 Y rfl<|A7 Y rfl<|Zv (AA Y Y)<|Zm Y<|A7 Y rfl<|A7 Y rfl<|A7 Y rfl<|A7 Y rfl<|A7 Y rfl<|Zv (AA Y Y)<|Za Y<|Z0<|Zn [4] ?_;refine Zx<|A9 ?_;refine AB rfl results31 Y (by
  have e9:decide (x=y)=decide (x.val=y.val∧x.fnd=y.fnd∧x.rows=y.rows):=decide_eq_decide.2 UE;exact ⟨congrArg Value.bool (by rw [e9];simp [*]),rfl⟩)
def Iz(c:Chg)(x:AP):Bool:=decide (x.t=c.t)&&decide (x.k=c.k)
def J5(q:QM)(y x:AP):Bool:=decide (Be y q.cl<Be x q.cl)||(decide (Be x q.cl=Be y q.cl)&&decide (y.k<x.k))
def PK(pd:AP→Bool)(rows:List AP)(y:AP):List AP:=rows.take ((rows.findIdx? pd).getD rows.length)++[y]++rows.drop ((rows.findIdx? pd).getD rows.length)
def Dm(q:QM)(c:Chg)(rows:List AP):List AP:=match afQ q c with
 |some y=>PK (J5 q y) (rows.filter fun x=>!Iz c x) y
 |none=>rows.filter fun x=>!Iz c x
def Fq(lt:Int→Int→Bool)(b a:Bool)(o n:Int)(r:CG):CG×Bool:=
 if b&&(!r.fnd||!lt r.val o)then(⟨r.rows,n,r.fnd⟩,(a&&r.fnd)&&!lt r.val n)
 else if a then(⟨r.rows,if !r.fnd||lt n r.val then n else r.val,true⟩,true)else(r,true)
theorem jc(pd:AP→Bool)(rows:List AP)(y:AP):(PK pd rows y).length=rows.length+1:=by
 unfold PK;simp only [tK,tL,tN,tT];omega
theorem RY(q:QM)(c:Chg)(rows:List AP):(Dm q c rows).length≤rows.length+1:=by
 have h:=wG (fun x=>!Iz c x) rows;unfold Dm;split
 · rw [jc];omega
 · omega
theorem Li(lt:Int→Int→Bool)(b a:Bool)(o n:Int)(r:CG):(Fq lt b a o n r).1.rows=r.rows:=by
 unfold Fq;split
 · rfl
 · split<;>rfl
theorem nJ(pd:AP→Bool)(rows:List AP):(PM pd rows<0∧(rows.findIdx? pd).getD rows.length=rows.length)∨∃i:Nat,i≤rows.length∧PM pd rows=(i:Int)∧(rows.findIdx? pd).getD rows.length=i:=by
 unfold PM;cases h:rows.findIdx? pd with
 |none=>exact .inl ⟨by simp,rfl⟩
 |some i=>
  obtain ⟨h1,_,_⟩:=vF.1 h;exact .inr ⟨i,by omega,rfl,rfl⟩
theorem bT(q:QM)(c:Chg)(p1 p2:Option Addr)(o n:Int)(x:AP)(be:Nat):Av Tryz.prog 230 #[.agg #[I4 x.t,I4 x.k,I4 x.v.a,I4 x.v.b,I4 x.v.c],I5 be] [[(be,.cells #[I4 q.kd,I4 q.tb,I4 q.cl,I4 q.lo,I4 q.hi,I4 q.bq,I4 q.ot,I4 c.t,I4 c.k,.bool c.had,I4 c.o.a,I4 c.o.b,I4 c.o.c,.bool c.has,I4 c.n.a,I4 c.n.b,I4 c.n.c,.pointer p1,.pointer p2,I4 o,I4 n] 151 (0,0))]] (.bool (Iz c x)):=by
 refine Se func230 ntmps230 [0,1] ?_;intro u R;refine Zq<|Zg<|Ze (Bx #[_,_,_,_,_]) ?_;rintro _ _ ⟨bx,rfl,rfl⟩;refine Za Y<|Z0<|Zx<|Zq<|Zg<|Zh 0 underlying113 rfl rfl sizeOf3 Y<|Zl isAgg3 Y ?_;refine Zh 7 underlying151 rfl rfl sizeOf77 Y<|Zv (BH (off:=0) underlying77 rfl rfl sizeOf3 Y)<|Zl isAgg3 Y ?_;refine Zv (CF Y Y)<|Zm Y ?_;refine Aj (t:=10) Y rfl (fun h1=>?_) (fun h1=>?_)
 ·
  refine Yf 1 underlying113 rfl rfl sizeOf3 Y<|Yl isAgg3 Y ?_;refine Yf 7 underlying151 rfl rfl sizeOf77 Y<|Yg (BH (off:=1) underlying77 rfl rfl sizeOf3 Y)<|Yl isAgg3 Y ?_;refine Yg (CF Y Y)<|Zv (AL Y Y)<|Za Y<|Z0<|Zn [3] ?_;refine Zx<|A9 ?_;refine AB rfl results230 Y (by exact ⟨by first|simp [Iz,h1]|(unfold Iz;simp [h1]),rfl⟩)
 refine A7 Y rfl<|A7 Y rfl<|A7 Y rfl<|A7 Y rfl<|A7 Y rfl<|A7 Y rfl<|Zv (AA Y Y)<|Za Y<|Z0<|Zn [3] ?_;refine Zx<|A9 ?_;refine AB rfl results230 Y (by exact ⟨by first|simp [Iz,h1]|(unfold Iz;simp [h1]),rfl⟩)
theorem Tw{A B:List AR}{v:Value}{rows:List AP}(hv:DV A v rows)(hn:rows.length≤1000000000)(fid:Nat)(us:List Value)(pd:AP→Bool)(hcf:∀(args:Array Value) (w:World),(callFunc fid args).run Tryz.prog w= .ok (.enter fid args) w)(hf:∀x:AP,Av Tryz.prog fid (.agg #[I4 x.t,I4 x.k,I4 x.v.a,I4 x.v.b,I4 x.v.c]::us).toArray [B] (.bool (pd x))):CO Tryz.prog 229 #[v,.func (.func fid) #[] us.toArray] [A,B] (fun r H'=>∃s,BX 5 113 r (rows.filter fun x=>!pd x).length (Ac (rows.filter fun x=>!pd x)) s∧H'=[s,A,B]):=by
 obtain ⟨p,cap,rfl,_⟩:=id hv;refine Se func229 ntmps229 [0,1] ?_;intro u R;refine Zq<|Zg<|Za Y<|Z0<|Zx<|Zq<|Zg<|Zm Y<|Zc [_] Y call94 Y rfl (He hv (by omega)) ?_;rintro _ _ ⟨_,⟨s1,h1,rfl⟩,rfl⟩;obtain ⟨g1,c1,rfl⟩:=h1.form;refine Zm Y<|Zc [_,_] Y call264 Y rfl (X4 h1 hn fid us pd hcf hf) ?_;rintro _ _ ⟨_,⟨s2,h2,rfl⟩,rfl⟩;obtain ⟨g2,c2,rfl⟩:=h2.form;refine Za Y<|Z0<|Zx<|A9 ?_;refine AB rfl results229 Y (by exact ⟨_,h2,rfl⟩)
theorem Ri{s B:List AR}{v:Value}{rows:List AP}(hrow:BX 5 113 v rows.length (Ac rows) s)(hn:rows.length≤1000000000)(y:AP)(fid:Nat)(us:List Value)(pd:AP→Bool)(hcf:∀(args:Array Value) (w:World),(callFunc fid args).run Tryz.prog w= .ok (.enter fid args) w)(hf:∀x:AP,Av Tryz.prog fid (.agg #[I4 x.t,I4 x.k,I4 x.v.a,I4 x.v.b,I4 x.v.c]::us).toArray [B] (.bool (pd x))):CO Tryz.prog 231 #[v,.agg #[I4 y.t,I4 y.k,I4 y.v.a,I4 y.v.b,I4 y.v.c],.func (.func fid) #[] us.toArray] [s,B] (fun r H'=>∃s' s2,BX 5 113 r (PK pd rows y).length (Ac (PK pd rows y)) s'∧H'=[s',s2,B]):=by
 have hml:=mL;obtain ⟨p,cap,rfl⟩:=hrow.form;have hU:=Dv hrow (by omega)
 refine Se func231 ntmps231 [0,1,2] ?_;intro u R;refine Zq<|Zg<|Ze (Bx #[_,_,_,_,_]) ?_;rintro _ _ ⟨bx,rfl,rfl⟩;refine Za Y<|Z0<|Zx<|Zq<|Zg<|Zm Y<|Zm Y<|Xr [_,_] Y call117 Y rfl (Qp hU fid us pd hcf hf) ?_;obtain ⟨z9,hz9⟩:∃z,z=PM pd rows:=⟨_,rfl⟩;rw [←hz9];have hcs9:=nJ pd rows
 rw [←hz9]at hcs9;refine Za Y<|Z0<|Zx<|Zb [7,0,4] ?_;refine CW (e0:=[(7,_)]) (H0:=[]) (fun e H=>∃(i:Nat),(i≤rows.length∧(rows.findIdx? pd).getD rows.length=i)∧e=[(7,I4 (i:Int))]∧H=[]) Wp ?hx_1 ?hy_1
 case hx_1=>
  refine Zq<|Zg<|Zm Y<|Zv (Eb Y Y)<|Z0<|Zx ?_;refine Ao Y (fun hlt=>?_) (fun hlt=>?_)
  ·
   refine Zg<|Zm Y<|Zv (AV underlying45 Y)<|Za Y<|Z0<|Zn [7,0,4] ?_;refine BB (e':=[(7,_)]) (by exact ⟨rows.length,⟨tQ _,by rcases hcs9 with⟨_,h⟩|⟨i,h1,h2,h3⟩;exact h;omega⟩,rfl,rfl⟩)
  rcases hcs9 with⟨h9,_⟩|⟨i,h1,h2,h3⟩
  · exact absurd h9 hlt
  subst h2;refine AC<|Zn [7,0,4] ?_;refine BB (e':=[(7,_)]) (by exact ⟨i,⟨h1,h3⟩,rfl,rfl⟩)
 rintro _ _ ⟨i,⟨hi,hgi⟩,rfl,rfl⟩;refine Zq<|Zg<|Zm Y<|Zm Y<|Zo Wh (Pa #[_,_,_,_,_] isAgg113 sizeOf113 Y) ?_;refine Ze (Ae (vs:=[_]) (cs:=[_,_,_,_,_]) underlying45 sizeOf113 zeroValue113 Y rfl rfl rfl rfl rfl) ?_;rintro _ _ ⟨gy,rfl,rfl⟩;refine Zc [_,_,_] Y call265 Y rfl (WL hrow hn i hi y gy) ?_;rintro _ _ ⟨_,⟨s3,s4,h3,rfl⟩,rfl⟩;obtain ⟨g3,c3,rfl⟩:=h3.form;refine Za Y<|Z0<|Zx<|A9 ?_;refine AB rfl results231 Y (by exact ⟨_,s4,by unfold PK;rw [hgi];exact h3,rfl⟩)
theorem Uo(q:QM)(hcl:0≤q.cl∧q.cl≤3)(c:Chg)(p1:Option Addr)(o n:Int)(y:AP)(b2:Nat):CO Tryz.prog 232 #[.agg #[I4 q.kd,I4 q.tb,I4 q.cl,I4 q.lo,I4 q.hi,I4 q.bq,I4 q.ot,I4 c.t,I4 c.k,.bool c.had,I4 c.o.a,I4 c.o.b,I4 c.o.c,.bool c.has,I4 c.n.a,I4 c.n.b,I4 c.n.c,.pointer p1,I5 b2,I4 o,I4 n]] [[(b2,.cells #[I4 y.t,I4 y.k,I4 y.v.a,I4 y.v.b,I4 y.v.c] 113 (0,0))]] (fun r H'=>∃be bv,r= .func (.func 266) #[] #[I5 be,I5 bv]∧H'=[[(be,.cells #[I4 q.kd,I4 q.tb,I4 q.cl,I4 q.lo,I4 q.hi,I4 q.bq,I4 q.ot,I4 c.t,I4 c.k,.bool c.had,I4 c.o.a,I4 c.o.b,I4 c.o.c,.bool c.has,I4 c.n.a,I4 c.n.b,I4 c.n.c,.pointer p1,I5 b2,I4 o,I4 n] 151 (0,0))],[(bv,.cells #[I4 (Be y q.cl)] 3 (0,0))],[(b2,.cells #[I4 y.t,I4 y.k,I4 y.v.a,I4 y.v.b,I4 y.v.c] 113 (0,0))]]):=by
 refine Se func232 ntmps232 [0] ?_;intro u R;refine Zq<|Zg<|Ze (H8 Y (cs:=#[I4 q.kd,I4 q.tb,I4 q.cl,I4 q.lo,I4 q.hi,I4 q.bq,I4 q.ot,I4 c.t,I4 c.k,.bool c.had,I4 c.o.a,I4 c.o.b,I4 c.o.c,.bool c.has,I4 c.n.a,I4 c.n.b,I4 c.n.c,.pointer p1,I5 b2,I4 o,I4 n]) (FW q c p1 (some ⟨b2,0,none⟩) o n)) ?_;rintro _ _ ⟨be,rfl,rfl⟩;refine Za Y<|Z0<|Zx<|Zq<|BI (n:=10) (0::1::3::7::0::16::48::127::0::511::[]) 896 (by kernel_rfl) (by kernel_rfl) rfl ?_;refine Zi 1 0 rfl (AZ (off:=18) underlying151 rfl rfl sizeOf149 Y)<|Zj 3 1 rfl isAgg149 Y ?_;refine Zi 7 2 rfl (Dz Y rfl)<|Cj (D':=15) 3 rfl rfl rfl Wh (Pa #[_,_,_,_,_] isAgg113 sizeOf113 Y) ?_;refine Zi 31 4 rfl (AZ (off:=0) underlying151 rfl rfl sizeOf30 Y)<|Zi 63 5 rfl (BH (off:=2) underlying30 rfl rfl sizeOf3 Y)<|Zj 127 6 rfl isAgg3 Y ?_;refine Zz (l:=[7,8]) ?_;refine Zy 127 255 [6,3,1] [false,false,false] [] rfl Y rfl rfl rfl rfl (Zu [_,_] Y call97 Y rfl (FQ y q.cl hcl)) ?hk_1 (fun _ _ h=>h.elim) ?hl_1
 case hk_1=>
  rintro _ _ ⟨rfl,rfl⟩;refine ⟨Ad,?_⟩;refine Yw 8 511 rfl (Al zeroValue3 #[_]) ?_;rintro _ _ ⟨bv,rfl,rfl⟩;refine Yw 9 1023 rfl (Zs sizeOf3 Y Y rfl (hi:=by first|omega|decide|(simp;done))) ?_;rintro _ _ ⟨rfl,rfl⟩;refine Am ?_;refine Zx<|Zq<|Zg<|Zv (Bt (vs:=[]) (us:=[_,_]) Y Y) ?_;refine Za Y<|Z0<|Zn [2] ?_;refine Zx<|A9 ?_;refine AB rfl results232 Y (by exact ⟨be,bv,rfl,rfl⟩)
 refine Zy 0 383 [6,3,1] [true,true,true] [(6,(_,_)),(3,(_,_)),(1,(_,_))] rfl Y rfl rfl rfl rfl (Al zeroValue3 #[_]) ?hk_5 (fun _ _ h=>h.elim) ?hl_5
 case hk_5=>
  rintro _ _ ⟨bv,rfl,rfl⟩;refine ⟨Zk (Zk (Zk (Ad))),?_⟩;refine Yw 7 511 rfl (Zu [_,_] Y call97 Y rfl (FQ y q.cl hcl)) ?_;rintro _ _ ⟨rfl,rfl⟩;refine Yw 9 1023 rfl (Zs sizeOf3 Y Y rfl (hi:=by first|omega|decide|(simp;done))) ?_;rintro _ _ ⟨rfl,rfl⟩;refine Am ?_;refine Zx<|Zq<|Zg<|Zv (Bt (vs:=[]) (us:=[_,_]) Y Y) ?_;refine Za Y<|Z0<|Zn [2] ?_;refine Zx<|A9 ?_;refine AB rfl results232 Y (by exact ⟨be,bv,rfl,rfl⟩)
 exact Aw
theorem fG(q:QM)(hcl:0≤q.cl∧q.cl≤3)(c:Chg)(p1:Option Addr)(o n:Int)(y:AP)(b2 be bv:Nat)(x:AP):Av Tryz.prog 266 #[.agg #[I4 x.t,I4 x.k,I4 x.v.a,I4 x.v.b,I4 x.v.c],I5 be,I5 bv] [[(be,.cells #[I4 q.kd,I4 q.tb,I4 q.cl,I4 q.lo,I4 q.hi,I4 q.bq,I4 q.ot,I4 c.t,I4 c.k,.bool c.had,I4 c.o.a,I4 c.o.b,I4 c.o.c,.bool c.has,I4 c.n.a,I4 c.n.b,I4 c.n.c,.pointer p1,I5 b2,I4 o,I4 n] 151 (0,0))],[(bv,.cells #[I4 (Be y q.cl)] 3 (0,0))],[(b2,.cells #[I4 y.t,I4 y.k,I4 y.v.a,I4 y.v.b,I4 y.v.c] 113 (0,0))]] (.bool (J5 q y x)):=by
 refine Se func266 ntmps266 [0,1,2] ?_;intro u R;refine Zq<|Zg<|Ze (Bx #[_,_,_,_,_]) ?_;rintro _ _ ⟨bx,rfl,rfl⟩;refine Za Y<|Z0<|Zx<|Zq<|Zg<|Zo Wh (Pa #[_,_,_,_,_] isAgg113 sizeOf113 Y) ?_;refine Zh 0 underlying151 rfl rfl sizeOf30 Y<|Zv (BH (off:=2) underlying30 rfl rfl sizeOf3 Y)<|Zl isAgg3 Y ?_;refine Xr [_,_] Y call97 Y rfl (FQ x q.cl hcl) ?_;refine Za Y<|Z0<|Zx<|Zq<|BI (n:=19) (0::0::3::7::15::15::63::127::255::511::255::1279::3327::7423::15615::32767::65535::131071::262143::[]) 0 (by kernel_rfl) (by kernel_rfl) rfl ?_;refine Zi 1 0 rfl (AJ Y)<|Zj 3 1 rfl isAgg3 Y ?_;refine Zi 7 2 rfl (Es Y Y)<|Zi 15 3 rfl (AJ Y) ?_;refine CS (t:=14) Y (fun h1=>?_) (fun h1=>?_)
 ·
  first|rw [decide_eq_true h1]|rw [h1]|skip
  refine Yk 31 4 rfl<|Yk 63 5 rfl<|Yk 127 6 rfl<|Yk 255 7 rfl<|Yk 511 8 rfl<|Yk 1023 9 rfl<|Yk 2047 10 rfl<|Yk 4095 11 rfl<|Yk 8191 12 rfl<|Yk 16383 13 rfl<|Yk 32767 14 rfl<|Yk 65535 15 rfl<|Yk 131071 16 rfl<|Zi 262143 17 rfl (AL Y Y)<|Zi 524287 18 rfl (Ay Y)<|Am ?_;refine Zn [4] ?_;refine Zx<|A9 ?_;refine AB rfl results266 Y (by exact ⟨by first|simp [J5, *]|(unfold J5;simp [*]),rfl⟩)
 first|rw [decide_eq_false h1]|rw [h1]|skip
 refine Ag (D':=31) 4 Y rfl rfl rfl (AJ Y) ?_;refine Bl (D':=63) 5 Y rfl rfl rfl Wh (Bf isAgg3 Y (by rfl)) ?_;refine Ag (D':=127) 6 Y rfl rfl rfl (CF Y Y) ?_;refine Ag (D':=255) 7 Y rfl rfl rfl (AJ Y) ?_;refine CS (t:=18) Y (fun h2=>?_) (fun h2=>?_)
 ·
  first|rw [decide_eq_true h2]|rw [h2]|skip
  refine Ag (D':=511) 8 Y rfl rfl rfl (AZ (off:=1) underlying113 rfl rfl sizeOf3 Y) ?_;refine Bl (D':=1023) 9 Y rfl rfl rfl Wh (Bf isAgg3 Y (by rfl)) ?_;refine Ag (D':=2047) 10 Y rfl rfl rfl (AZ (off:=18) underlying151 rfl rfl sizeOf149 Y) ?_;refine Bl (D':=4095) 11 Y rfl rfl rfl Wh (Bf isAgg149 Y (by rfl)) ?_;refine Ag (D':=8191) 12 Y rfl rfl rfl (Dz Y rfl) ?_;refine Ag (D':=16383) 13 Y rfl rfl rfl (AZ (off:=1) underlying113 rfl rfl sizeOf3 Y) ?_;refine Bl (D':=32767) 14 Y rfl rfl rfl Wh (Bf isAgg3 Y (by rfl)) ?_;refine Ag (D':=65535) 15 Y rfl rfl rfl (Es Y Y) ?_;refine Ag (D':=131071) 16 Y rfl rfl rfl (AL Y Y) ?_;refine Zi 262143 17 rfl (AA Y Y)<|Zi 524287 18 rfl (Ay Y)<|Am ?_;refine Zn [4] ?_;refine Zx<|A9 ?_;refine AB rfl results266 Y (by exact ⟨by first|simp [J5, *]|(unfold J5;simp [*]),rfl⟩)
 first|rw [decide_eq_false h2]|rw [h2]|skip
 refine Yk 511 8 rfl<|Yk 1023 9 rfl<|Yk 2047 10 rfl<|Yk 4095 11 rfl<|Yk 8191 12 rfl<|Yk 16383 13 rfl<|Yk 32767 14 rfl<|Yk 65535 15 rfl<|Ag (D':=131071) 16 Y rfl rfl rfl (AA Y Y) ?_;refine Zi 262143 17 rfl (AA Y Y)<|Zi 524287 18 rfl (Ay Y)<|Am ?_;refine Zn [4] ?_;refine Zx<|A9 ?_;refine AB rfl results266 Y (by exact ⟨by first|simp [J5, *]|(unfold J5;simp [*]),rfl⟩)
theorem P9(q:QM)(hcl:0≤q.cl∧q.cl≤3)(c:Chg)(p1:Option Addr)(o n:Int)(y:AP)(b2:Nat):CO Tryz.prog 232 #[.agg #[I4 q.kd,I4 q.tb,I4 q.cl,I4 q.lo,I4 q.hi,I4 q.bq,I4 q.ot,I4 c.t,I4 c.k,.bool c.had,I4 c.o.a,I4 c.o.b,I4 c.o.c,.bool c.has,I4 c.n.a,I4 c.n.b,I4 c.n.c,.pointer p1,I5 b2,I4 o,I4 n]] [[(b2,.cells #[I4 y.t,I4 y.k,I4 y.v.a,I4 y.v.b,I4 y.v.c] 113 (0,0))]] (fun r H'=>∃be bv,r= .func (.func 266) #[] ([I5 be,I5 bv]:List Value).toArray∧H'=[[(be,.cells #[I4 q.kd,I4 q.tb,I4 q.cl,I4 q.lo,I4 q.hi,I4 q.bq,I4 q.ot,I4 c.t,I4 c.k,.bool c.had,I4 c.o.a,I4 c.o.b,I4 c.o.c,.bool c.has,I4 c.n.a,I4 c.n.b,I4 c.n.c,.pointer p1,I5 b2,I4 o,I4 n] 151 (0,0))]++[(bv,.cells #[I4 (Be y q.cl)] 3 (0,0))]++[(b2,.cells #[I4 y.t,I4 y.k,I4 y.v.a,I4 y.v.b,I4 y.v.c] 113 (0,0))]]):=by
 refine EB (Uo q hcl c p1 o n y b2) rfl ?_;rintro r H' ⟨be,bv,rfl,rfl⟩;exact ⟨_,⟨be,bv,rfl,rfl⟩,by simp⟩
theorem X8(q:QM)(hcl:0≤q.cl∧q.cl≤3)(c:Chg)(p1:Option Addr)(o n:Int)(y:AP)(b2 be bv:Nat)(x:AP):Av Tryz.prog 266 (.agg #[I4 x.t,I4 x.k,I4 x.v.a,I4 x.v.b,I4 x.v.c]::([I5 be,I5 bv]:List Value)).toArray [[(be,.cells #[I4 q.kd,I4 q.tb,I4 q.cl,I4 q.lo,I4 q.hi,I4 q.bq,I4 q.ot,I4 c.t,I4 c.k,.bool c.had,I4 c.o.a,I4 c.o.b,I4 c.o.c,.bool c.has,I4 c.n.a,I4 c.n.b,I4 c.n.c,.pointer p1,I5 b2,I4 o,I4 n] 151 (0,0))]++[(bv,.cells #[I4 (Be y q.cl)] 3 (0,0))]++[(b2,.cells #[I4 y.t,I4 y.k,I4 y.v.a,I4 y.v.b,I4 y.v.c] 113 (0,0))]] (.bool (J5 q y x)):=by
 refine EB (fG q hcl c p1 o n y b2 be bv x) rfl ?_;rintro r H' ⟨rfl,rfl⟩;exact ⟨_,⟨rfl,rfl⟩,by simp⟩
set_option maxHeartbeats 1000000 in
theorem Xh(q:QM)(c:Chg)(p1 p2:Option Addr)(o n:Int)(hcl:0≤q.cl∧q.cl≤3){r:CG}{rv:Value}{sr:List AR}(hr:BX 5 113 rv r.rows.length (Ac r.rows) sr)(hn:r.rows.length≤100000000){s2:List AR}(h2:IE p2 (afQ q c) s2):CO Tryz.prog 165 #[.agg #[I4 q.kd,I4 q.tb,I4 q.cl,I4 q.lo,I4 q.hi,I4 q.bq,I4 q.ot,I4 c.t,I4 c.k,.bool c.had,I4 c.o.a,I4 c.o.b,I4 c.o.c,.bool c.has,I4 c.n.a,I4 c.n.b,I4 c.n.c,.pointer p1,.pointer p2,I4 o,I4 n],.agg #[rv,I4 r.val,.bool r.fnd]] [sr,s2] (fun w H'=>∃rv' s',w= .tuple #[.agg #[rv',I4 r.val,.bool r.fnd],.bool true]∧BX 5 113 rv' (Dm q c r.rows).length (Ac (Dm q c r.rows)) s'∧H'=[s']):=by
 have hml:=mL;obtain ⟨pv,cv,rfl⟩:=hr.form;have hU:=Dv hr (by omega)
 have hfl:(r.rows.filter fun x=>!Iz c x).length≤r.rows.length:=wG _ _;refine Se func165 ntmps165 [0,1] ?_;intro u R;refine Zq<|Zg<|Ze (H8 Y (cs:=#[I4 q.kd,I4 q.tb,I4 q.cl,I4 q.lo,I4 q.hi,I4 q.bq,I4 q.ot,I4 c.t,I4 c.k,.bool c.had,I4 c.o.a,I4 c.o.b,I4 c.o.c,.bool c.has,I4 c.n.a,I4 c.n.b,I4 c.n.c,.pointer p1,.pointer p2,I4 o,I4 n]) (FW q c p1 p2 o n)) ?_;rintro _ _ ⟨be,rfl,rfl⟩;refine Ze (Bx #[.slice pv r.rows.length cv,I4 r.val,.bool r.fnd]) ?_;rintro _ _ ⟨br,rfl,rfl⟩;refine Ze (Al zeroValue51 #[_,_,_]) ?_;rintro _ _ ⟨b3,rfl,rfl⟩;refine Za Y<|Z0<|Zx<|Zq<|Zg<|Zh 0 underlying51 rfl rfl sizeOf45 Y<|Zl isAgg45 Y ?_;refine Zv (Bt (vs:=[]) (us:=[_]) Y Y) ?_;refine Zc [_,_] Y call229 Y rfl (Tw (B:=[(be,.cells #[I4 q.kd,I4 q.tb,I4 q.cl,I4 q.lo,I4 q.hi,I4 q.bq,I4 q.ot,I4 c.t,I4 c.k,.bool c.had,I4 c.o.a,I4 c.o.b,I4 c.o.c,.bool c.has,I4 c.n.a,I4 c.n.b,I4 c.n.c,.pointer p1,.pointer p2,I4 o,I4 n] 151 (0,0))]) hU (by omega) 230 [I5 be] (Iz c) call230 (fun x=>bT q c p1 p2 o n x be)) ?_;rintro _ _ ⟨_,⟨s3,h3,rfl⟩,rfl⟩;obtain ⟨g3,c3,rfl⟩:=h3.form;refine Zh 0 underlying51 rfl rfl sizeOf45 Y<|Xe (Zs sizeOf45 Y Y rfl (hi:=by first|omega|decide|(simp;done))) ?_;refine Z0<|Zx<|Zb [2,3,4] ?_;refine CW (e0:=[(2,_)]) (H0:=[[(br,.cells #[.slice g3 (r.rows.filter fun x=>!Iz c x).length c3,I4 r.val,.bool r.fnd] 51 (0,0))],s3,s2]) (fun e H=>∃(w:Value) (s4:List AR),(BX 5 113 w (Dm q c r.rows).length (Ac (Dm q c r.rows)) s4)∧e=[]∧H=[[(br,.cells #[w,I4 r.val,.bool r.fnd] 51 (0,0))],s4]) Wp ?hx_1 ?hy_1
 case hx_1=>
  refine Zq<|Zg<|Zh 18 underlying151 rfl rfl sizeOf149 Y<|Zl isAgg149 Y ?_;refine Zv (EZ underlying149 Y Y)<|Z0<|Zx ?_;refine Af Y (fun hp=>?_) (fun hp=>?_)
  ·
   obtain ⟨y,hy⟩:∃y,afQ q c=some y:=xM.1 (by rw [←h2.some_];exact hp);rw [hy]at h2;obtain ⟨b2,rfl,rfl⟩:=h2;refine BI (n:=11) (0::1::0::4::12::28::0::64::255::511::1023::[]) 1408 (by kernel_rfl) (by kernel_rfl) rfl ?_;refine Zi 1 0 rfl (AZ (off:=0) underlying51 rfl rfl sizeOf45 Y)<|Zj 3 1 rfl isAgg45 Y ?_;refine Zi 7 2 rfl (AZ (off:=18) underlying151 rfl rfl sizeOf149 Y)<|Zj 15 3 rfl isAgg149 Y ?_;refine Zi 31 4 rfl (Dz Y rfl)<|Fp (b:=b2) (x:= .cells #[I4 y.t,I4 y.k,I4 y.v.a,I4 y.v.b,I4 y.v.c] 113 (0,0)) (D':=63) 5 rfl rfl rfl (by simp) (AX (cs:=#[I4 y.t,I4 y.k,I4 y.v.a,I4 y.v.b,I4 y.v.c]) isAgg113 sizeOf113 Y (by first|decide|exact tQ _|(simp;done)) (by rfl)) ?_;refine Cj (D':=127) 6 rfl rfl rfl Wh (AX isAgg151 sizeOf151 Y Wb (by exact Au rfl)) ?_;refine Zz (l:=[7]) ?_;refine Zy 64 255 [6,5,3,1] [false,true,true,true] [(5,(_,_)),(3,(_,_)),(1,(_,_))] rfl Y rfl rfl rfl rfl (Zw [_] Y call232 Y rfl (P9 q hcl c p1 o n y b2)) ?hk_2 D9 ?hl_2
   case hk_2=>
    rintro _ _ ⟨_,⟨b8,b9,rfl,rfl⟩,rfl⟩;refine ⟨KE (by simp [*]) (Zk (Zk (Ad))),?_⟩;refine Zz (l:=[8]) ?_;refine Zy 255 511 [5,3,1] [false,false,false] [] rfl Y rfl rfl rfl rfl (Zw [_,_,_] Y call231 Y rfl (Ri h3 (by omega) y 266 [I5 b8,I5 b9] (J5 q y) call266 (fun x=>X8 q hcl c p1 o n y b2 b8 b9 x))) ?hk_3 D9 ?hl_3
    case hk_3=>
     rintro _ _ ⟨_,⟨s5,s6,h5,rfl⟩,rfl⟩;refine ⟨Ad,?_⟩;obtain ⟨g5,c5,rfl⟩:=h5.form;refine Zi 1023 9 rfl (AZ (off:=0) underlying51 rfl rfl sizeOf45 Y)<|Zz (l:=[10]) ?_;refine Zy 1023 2047 [] [] [] rfl Y rfl rfl rfl rfl (Zs sizeOf45 Y Y rfl (hi:=by first|omega|decide|(simp;done))) ?hk_4 (fun _ _ h=>h.elim) ?hl_4
     case hk_4=>
      rintro _ _ ⟨rfl,rfl⟩;refine ⟨Ad,?_⟩;refine Am ?_;refine Zn [3,4] ?_;refine BB (e':=[]) (by exact ⟨_,s5,by unfold Dm;rw [hy];exact h5,rfl,rfl⟩)
     exact Aw
    exact Aw
   exact Aw
  have hy:afQ q c=none:=by have h9:=h2.some_;rw [hp]at h9;exact zI.1 (by rw [←h9];decide)
  refine AC<|Zn [3,4] ?_;refine BB (e':=[]) (by exact ⟨_,s3,by unfold Dm;rw [hy];exact h3,rfl,rfl⟩)
 rintro _ _ ⟨w,s4,h4,rfl,rfl⟩;obtain ⟨p4,c4,rfl⟩:=h4.form;refine Zq<|Zg<|Zo Wh (AX (cs:=#[_,_,_]) isAgg51 sizeOf51 Y Wb (by exact Au rfl)) ?_;refine Xe (BN sizeOf51 Y Y (by(simp [Value.oneCell'];done)) Wu (by exact DU rfl) (by first|rfl|(simp;done)) Wb (by exact BQ _)) ?_;refine Za Y<|Z0<|Zx<|A9 ?_;refine Bb rfl results165 Y Wh (Ah isAgg51 sizeOf51 Wn (rfl)) Y (by exact ⟨_,s4,rfl,h4,rfl⟩)
theorem Vk(q:QM)(c:Chg)(p1 p2:Option Addr)(o n:Int){r:CG}(pv:Option Addr)(kv cv:Nat)(hv:-4000000000000000000≤r.val∧r.val≤4000000000000000000):Av Tryz.prog 167 #[.agg #[I4 q.kd,I4 q.tb,I4 q.cl,I4 q.lo,I4 q.hi,I4 q.bq,I4 q.ot,I4 c.t,I4 c.k,.bool c.had,I4 c.o.a,I4 c.o.b,I4 c.o.c,.bool c.has,I4 c.n.a,I4 c.n.b,I4 c.n.c,.pointer p1,.pointer p2,I4 o,I4 n],.agg #[.slice pv kv cv,I4 r.val,.bool r.fnd]] [] (.tuple #[.agg #[.slice pv kv cv,I4 (if p2.isSome then r.val+1 else r.val -1),.bool r.fnd],.bool true]):=by
 refine Se func167 ntmps167 [0,1] ?_;intro u R;refine Zq<|Zg<|Ze (H8 Y (cs:=#[I4 q.kd,I4 q.tb,I4 q.cl,I4 q.lo,I4 q.hi,I4 q.bq,I4 q.ot,I4 c.t,I4 c.k,.bool c.had,I4 c.o.a,I4 c.o.b,I4 c.o.c,.bool c.has,I4 c.n.a,I4 c.n.b,I4 c.n.c,.pointer p1,.pointer p2,I4 o,I4 n]) (FW q c p1 p2 o n)) ?_;rintro _ _ ⟨be,rfl,rfl⟩;refine Ze (Bx #[.slice pv kv cv,I4 r.val,.bool r.fnd]) ?_;rintro _ _ ⟨br,rfl,rfl⟩;refine Ze (Al zeroValue51 #[_,_,_]) ?_;rintro _ _ ⟨b3,rfl,rfl⟩;refine Za Y<|Z0<|Zx<|Zq<|Zq<|Zg<|Zh 18 underlying151 rfl rfl sizeOf149 Y<|Zl isAgg149 Y ?_;refine Zv (EZ underlying149 Y Y)<|Z0<|Zx ?_;refine Af Y (fun hp=>?_) (fun hp=>?_)
 ·
  refine Zg<|Zh 1 underlying51 rfl rfl sizeOf3 Y<|Zl isAgg3 Y ?_;refine Yi Y Y<|Zh 1 underlying51 rfl rfl sizeOf3 Y<|Xe (Zs sizeOf3 Y Y rfl (hi:=by first|omega|decide|(simp;done))) ?_;refine Z0<|Zx<|Zq<|Zg<|Zo Wh (Pa #[_,_,_] isAgg51 sizeOf51 Y) ?_;refine Xe (Xw sizeOf51 _) ?_;refine Za Y<|Z0<|Zn [4,5] ?_;refine Zx<|A9 ?_;refine Bb rfl results167 Y Wh (Ah isAgg51 sizeOf51 Wn (rfl)) Y (by exact ⟨by rw [hp];rfl,rfl⟩)
 refine Zg<|Zh 1 underlying51 rfl rfl sizeOf3 Y<|Zl isAgg3 Y ?_
 (refine BM (G8 Y Y (IntWalk.i64_in _ ?_)) ?_;(focus (omega)))
 refine Zh 1 underlying51 rfl rfl sizeOf3 Y<|Xe (Zs sizeOf3 Y Y rfl (hi:=by first|omega|decide|(simp;done))) ?_;refine Z0<|Zx<|Zq<|Zg<|Zo Wh (Pa #[_,_,_] isAgg51 sizeOf51 Y) ?_;refine Xe (Xw sizeOf51 _) ?_;refine Za Y<|Z0<|Zn [4,5] ?_;refine Zx<|A9 ?_;refine Bb rfl results167 Y Wh (Ah isAgg51 sizeOf51 Wn (rfl)) Y (by exact ⟨by rw [hp];rfl,rfl⟩)
theorem bP(q:QM)(c:Chg)(p1 p2:Option Addr)(o n:Int){r:CG}(pv:Option Addr)(kv cv:Nat)(hv:-4000000000000000000≤r.val∧r.val≤4000000000000000000)(hm:(-1000000000≤o∧o≤1000000000)∧-1000000000≤n∧n≤1000000000):Av Tryz.prog 169 #[.agg #[I4 q.kd,I4 q.tb,I4 q.cl,I4 q.lo,I4 q.hi,I4 q.bq,I4 q.ot,I4 c.t,I4 c.k,.bool c.had,I4 c.o.a,I4 c.o.b,I4 c.o.c,.bool c.has,I4 c.n.a,I4 c.n.b,I4 c.n.c,.pointer p1,.pointer p2,I4 o,I4 n],.agg #[.slice pv kv cv,I4 r.val,.bool r.fnd]] [] (.tuple #[.agg #[.slice pv kv cv,I4 (r.val+(n -o)),.bool r.fnd],.bool true]):=by
 refine Se func169 ntmps169 [0,1] ?_;intro u R;refine Zq<|Zg<|Ze (H8 Y (cs:=#[I4 q.kd,I4 q.tb,I4 q.cl,I4 q.lo,I4 q.hi,I4 q.bq,I4 q.ot,I4 c.t,I4 c.k,.bool c.had,I4 c.o.a,I4 c.o.b,I4 c.o.c,.bool c.has,I4 c.n.a,I4 c.n.b,I4 c.n.c,.pointer p1,.pointer p2,I4 o,I4 n]) (FW q c p1 p2 o n)) ?_;rintro _ _ ⟨be,rfl,rfl⟩;refine Ze (Bx #[.slice pv kv cv,I4 r.val,.bool r.fnd]) ?_;rintro _ _ ⟨br,rfl,rfl⟩;refine Ze (Al zeroValue51 #[_,_,_]) ?_;rintro _ _ ⟨b3,rfl,rfl⟩;refine Za Y<|Z0<|Zx<|Zq<|Zg<|Zh 1 underlying51 rfl rfl sizeOf3 Y<|Zl isAgg3 Y ?_;refine Zh 20 underlying151 rfl rfl sizeOf3 Y<|Zl isAgg3 Y ?_;refine Zh 19 underlying151 rfl rfl sizeOf3 Y<|Zl isAgg3 Y ?_
 (refine BM (G8 Y Y (IntWalk.i64_in _ ?_)) ?_;(focus (omega)))
 refine Yi Y Y<|Zh 1 underlying51 rfl rfl sizeOf3 Y<|Xe (Zs sizeOf3 Y Y rfl (hi:=by first|omega|decide|(simp;done))) ?_;refine Z0<|Zn [3,4] ?_;refine Zx<|Zq<|Zg<|Zo Wh (Pa #[_,_,_] isAgg51 sizeOf51 Y) ?_;refine Xe (Xw sizeOf51 _) ?_;refine Za Y<|Z0<|Zx<|A9 ?_;refine Bb rfl results169 Y Wh (Ah isAgg51 sizeOf51 Wn (rfl)) Y (by exact ⟨rfl,rfl⟩)
end Go.Proofs.YtkdgffcfmgmemaaGreatDoor
