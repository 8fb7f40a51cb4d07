/- predicate.kinds, Touches. -/
/- eval: folds, measures, joins. -/
/- eval: extreme, the steps of From, joined. -/
import Derived.Test.YtkdgffcfmgmemaaGreatDoorEz
import Derived.Test.YtkdgffcfmgmemaaGreatDoorQe3
set_option linter.unusedVariables false
set_option linter.unusedSimpArgs false
namespace Go.Proofs.YtkdgffcfmgmemaaGreatDoor
open Go.Proofs.Tryz
open Go Go.RowKit Gw
set_option maxRecDepth 100000
attribute [local irreducible] Gw.At Gw.Nx Gw.Ops
def LH(b5 b6:Nat):List (Int×Value):=[(1,.agg #[.func (.func 164) #[] #[],.func (.func 165) #[] #[]]),(2,.agg #[.func (.func 164) #[] #[],.func (.func 165) #[] #[]]),(3,.agg #[.func (.func 166) #[] #[],.func (.func 167) #[] #[]]),(4,.agg #[.func (.func 168) #[] #[],.func (.func 169) #[] #[]]),(5,.agg #[.func (.func 170) #[] #[],.func (.func 233) #[] #[I5 b5]]),(6,.agg #[.func (.func 173) #[] #[],.func (.func 233) #[] #[I5 b6]]),(7,.agg #[.func (.func 175) #[] #[],.func (.func 176) #[] #[]])]
theorem WV{lm:List (Int×Value)}{b5 b6:Nat}(h:∀p,p∈lm↔p∈LH b5 b6)(hn:(lm.map (·.1)).Nodup){k:Int}{v:Value}(hk:(k,v)∈LH b5 b6):Ih k lm=some v:=IA hn ((h _).2 hk)
def Gm(k:Int):Nat:=if k=1 then 164 else if k=2 then 164 else if k=3 then 166 else if k=4 then 168 else if k=5 then 170 else if k=6 then 173 else 175
theorem jh{lm:List (Int×Value)}{b5 b6:Nat}(h:∀p,p∈lm↔p∈LH b5 b6)(hn:(lm.map (·.1)).Nodup){k:Int}(hk:1≤k∧k≤7):∃pf,Ih k lm=some (.agg #[.func (.func (Gm k)) #[] #[],pf]):=by
 obtain h9|h9|h9|h9|h9|h9|h9:k=1∨k=2∨k=3∨k=4∨k=5∨k=6∨k=7:=by omega
 all_goals subst h9
 all_goals exact ⟨_,WV h hn (by simp [LH,Gm];rfl)⟩
theorem Nh(v:Value)(h1:v.oneCell'=true)(hc:v.cells=#[v]):CQ Tryz.prog 171 #[v] [] (fun r H'=>∃b,r= .func (.func 233) #[] #[I5 b]∧H'=[[(b,.cells #[v] 185 (0,0))]]):=by
 refine Se func171 ntmps171 [0] ?_;intro u R;refine Zq<|Zg<|Ze (Ho Y (cs:=#[v]) hc) ?_;rintro _ _ ⟨b,rfl,rfl⟩;refine Za Y<|Z0<|Zx<|Zq<|Zg<|Zv (Bt (vs:=[]) (us:=[_]) Y Y) ?_;refine Za Y<|Z0<|Zx<|AA ?_;refine AJ rfl results171 Y (by exact ⟨b,rfl,rfl⟩)
theorem Mj:CQ Tryz.prog 86 #[] [] (fun v H'=>∃b es ck lm b5 b6,v= .map (some b)∧Ey (fun k:Int=>I4 k) es ck lm∧(∀p,p∈lm↔p∈LH b5 b6)∧H'=[[(b,.map es ck)],[(b5,.cells #[.func (.func 172) #[] #[]] 185 (0,0))],[(b6,.cells #[.func (.func 174) #[] #[]] 185 (0,0))]]):=by
 refine Se func86 ntmps86 [] ?_;intro u R;refine Zq<|Zg<|Za Y<|Z0<|Zx<|Zq<|Zg<|Ze (O3) ?_;rintro _ _ ⟨mb,rfl,rfl⟩;refine Zv (BL (vs:=[(0,.func (.func 164) #[] #[]),(1,.func (.func 165) #[] #[])]) (cs:=#[.func (.func 164) #[] #[],.func (.func 165) #[] #[]]) Y (Ab (pl:=#[(0,1),(1,1)]) zeroValue146 underlying146 (fun _=>by kernel_rfl) (by kernel_rfl))) ?_;refine Ze (J2 Gx underlying147 (Qy _) (fun _ _=>trivial) (trivial) Y Y Y Wo) ?_;rintro _ _ ⟨rfl,es1,ck1,lm1,hm1,hp1,rfl⟩;refine Zv (BL (vs:=[(0,.func (.func 164) #[] #[]),(1,.func (.func 165) #[] #[])]) (cs:=#[.func (.func 164) #[] #[],.func (.func 165) #[] #[]]) Y (Ab (pl:=#[(0,1),(1,1)]) zeroValue146 underlying146 (fun _=>by kernel_rfl) (by kernel_rfl))) ?_;refine Ze (J2 Gx underlying147 hm1 (fun _ _=>trivial) (trivial) Y Y Y Wo) ?_;rintro _ _ ⟨rfl,es2,ck2,lm2,hm2,hp2,rfl⟩;refine Zv (BL (vs:=[(0,.func (.func 166) #[] #[]),(1,.func (.func 167) #[] #[])]) (cs:=#[.func (.func 166) #[] #[],.func (.func 167) #[] #[]]) Y (Ab (pl:=#[(0,1),(1,1)]) zeroValue146 underlying146 (fun _=>by kernel_rfl) (by kernel_rfl))) ?_;refine Ze (J2 Gx underlying147 hm2 (fun _ _=>trivial) (trivial) Y Y Y Wo) ?_;rintro _ _ ⟨rfl,es3,ck3,lm3,hm3,hp3,rfl⟩;refine Zv (BL (vs:=[(0,.func (.func 168) #[] #[]),(1,.func (.func 169) #[] #[])]) (cs:=#[.func (.func 168) #[] #[],.func (.func 169) #[] #[]]) Y (Ab (pl:=#[(0,1),(1,1)]) zeroValue146 underlying146 (fun _=>by kernel_rfl) (by kernel_rfl))) ?_;refine Ze (J2 Gx underlying147 hm3 (fun _ _=>trivial) (trivial) Y Y Y Wo) ?_;rintro _ _ ⟨rfl,es4,ck4,lm4,hm4,hp4,rfl⟩;refine Zc [_] Y call171 Y rfl (Nh (.func (.func 172) #[] #[]) rfl rfl) ?_;rintro _ _ ⟨_,⟨b5,rfl,rfl⟩,rfl⟩;refine Zv (BL (vs:=[(0,.func (.func 170) #[] #[]),(1,.func (.func 233) #[] #[I5 b5])]) (cs:=#[.func (.func 170) #[] #[],.func (.func 233) #[] #[I5 b5]]) Y (Ab (pl:=#[(0,1),(1,1)]) zeroValue146 underlying146 (fun _=>by kernel_rfl) (by kernel_rfl))) ?_;refine Ze (J2 Gx underlying147 hm4 (fun _ _=>trivial) (trivial) Y Y Y Wo) ?_
 rintro _ _ ⟨rfl,es5,ck5,lm5,hm5,hp5,rfl⟩;refine Zc [_] Y call171 Y rfl (Nh (.func (.func 174) #[] #[]) rfl rfl) ?_;rintro _ _ ⟨_,⟨b6,rfl,rfl⟩,rfl⟩;refine Zv (BL (vs:=[(0,.func (.func 173) #[] #[]),(1,.func (.func 233) #[] #[I5 b6])]) (cs:=#[.func (.func 173) #[] #[],.func (.func 233) #[] #[I5 b6]]) Y (Ab (pl:=#[(0,1),(1,1)]) zeroValue146 underlying146 (fun _=>by kernel_rfl) (by kernel_rfl))) ?_;refine Ze (J2 Gx underlying147 hm5 (fun _ _=>trivial) (trivial) Y Y Y Wo) ?_;rintro _ _ ⟨rfl,es6,ck6,lm6,hm6,hp6,rfl⟩;refine Zv (BL (vs:=[(0,.func (.func 175) #[] #[]),(1,.func (.func 176) #[] #[])]) (cs:=#[.func (.func 175) #[] #[],.func (.func 176) #[] #[]]) Y (Ab (pl:=#[(0,1),(1,1)]) zeroValue146 underlying146 (fun _=>by kernel_rfl) (by kernel_rfl))) ?_;refine Ze (J2 Gx underlying147 hm6 (fun _ _=>trivial) (trivial) Y Y Y Wo) ?_;rintro _ _ ⟨rfl,es7,ck7,lm7,hm7,hp7,rfl⟩;refine Zm Y<|Za Y<|Z0<|Zn [0] ?_;refine Zx<|AA ?_;refine AJ rfl results86 Y (by
  refine ⟨mb,es7,ck7,lm7,b5,b6,rfl,hm7,fun p=>?_,rfl⟩;rw [hp7,hp6,hp5,hp4,hp3,hp2,hp1];simp only [LH,uV,wC,or_false,false_and];constructor
  · rintro (rfl|⟨rfl|⟨rfl|⟨rfl|⟨rfl|⟨rfl|⟨rfl,-⟩,-⟩,-⟩,-⟩,-⟩,-⟩)<;>simp
  · rintro (h|h|h|h|h|h|h)<;>subst h<;>simp)
theorem YQ(q:QM)(c:Chg)(hq:BN q){p1 p2:Option Addr}{s1 s2:List AU}(h1:IP p1 (bfQ q c) s1)(h2:IP p2 (afQ q c) s2):Az Tryz.prog (Gm q.kd) #[.agg #[I4 q.kd,I4 q.tb,I4 q.cl,I4 q.lo,I4 q.hi,I4 q.bq,I4 q.ot,I4 c.t,I4 c.k,.bool c.had,I4 c.o.a,I4 c.o.b,I4 c.o.c,.bool c.has,I4 c.n.a,I4 c.n.b,I4 c.n.c,.pointer p1,.pointer p2,I4 (mQ q (bfQ q c)),I4 (mQ q (afQ q c))]] [] (.bool (Dx q c)):=by
 have e1:=h1.some_;have e2:=h2.some_
 have hk:q.kd=1∨q.kd=2∨q.kd=3∨q.kd=4∨q.kd=5∨q.kd=6∨q.kd=7:=by have:=hq.2.2.2;omega
 have ha:=XQ q c p1 p2 (mQ q (bfQ q c)) (mQ q (afQ q c));have ho:=Qs q c p1 p2 (mQ q (bfQ q c)) (mQ q (afQ q c))
 have h4:=nU q c p1 p2 (mQ q (bfQ q c)) (mQ q (afQ q c));have h5:=nT q c p1 p2 (mQ q (bfQ q c)) (mQ q (afQ q c))
 have h6:=nS q c p1 p2 (mQ q (bfQ q c)) (mQ q (afQ q c));have h7:=nR q c p1 p2 (mQ q (bfQ q c)) (mQ q (afQ q c))
 rw [e1,e2]at ha ho h5 h6 h7;rcases hk with h|h|h|h|h|h|h
 · rw [show Gm q.kd=164 by rw [h];rfl,show Dx q c=VG q c by unfold Dx;rw [if_pos (by omega)]];exact ha
 · rw [show Gm q.kd=164 by rw [h];rfl,show Dx q c=VG q c by unfold Dx;rw [if_pos (by omega)]];exact ha
 · rw [show Gm q.kd=166 by rw [h];rfl,show Dx q c=WO q c by unfold Dx;rw [if_neg (by omega),if_pos (by omega)]];exact ho
 · rw [show Gm q.kd=168 by rw [h];rfl,show Dx q c=decide (mQ q (bfQ q c)≠mQ q (afQ q c)) by unfold Dx;rw [if_neg (by omega),if_neg (by omega),if_pos (by omega)]];exact h4
 · rw [show Gm q.kd=170 by rw [h];rfl,show Dx q c=(WO q c||decide (mQ q (bfQ q c)≠mQ q (afQ q c))) by unfold Dx;rw [if_neg (by omega),if_neg (by omega),if_neg (by omega),if_pos (by omega)]];exact h5
 · rw [show Gm q.kd=173 by rw [h];rfl,show Dx q c=(WO q c||decide (mQ q (bfQ q c)≠mQ q (afQ q c))) by unfold Dx;rw [if_neg (by omega),if_neg (by omega),if_neg (by omega),if_pos (by omega)]];exact h6
 · rw [show Gm q.kd=175 by rw [h];rfl,show Dx q c=(VG q c||decide (c.t=q.ot)) by unfold Dx;rw [if_neg (by omega),if_neg (by omega),if_neg (by omega),if_neg (by omega)]];exact h7
theorem dm{k:Int}(hk:1≤k∧k≤7):∀(args:Array Value) (w:World),(callFunc (Gm k) args).run Tryz.prog w= .ok (.enter (Gm k) args) w:=by
 obtain h|h|h|h|h|h|h:k=1∨k=2∨k=3∨k=4∨k=5∨k=6∨k=7:=by omega
 all_goals (subst h;simp only [Gm];first|exact call164|exact call166|exact call168|exact call170|exact call173|exact call175)
theorem BN.kind{q:QM}(h:BN q):1≤q.kd∧q.kd≤7:=by have:=h.2.2.2;omega
theorem ND(q:QM)(c:Chg):Az Tryz.prog 30 #[.agg #[I4 q.kd,I4 q.tb,I4 q.cl,I4 q.lo,I4 q.hi,I4 q.bq,I4 q.ot],.agg #[I4 c.t,I4 c.k,.bool c.had,I4 c.o.a,I4 c.o.b,I4 c.o.c,.bool c.has,I4 c.n.a,I4 c.n.b,I4 c.n.c]] [] (.bool (decide (BN q)&&(decide c.ok&&Dx q c))):=by
 refine Se func30 ntmps30 [0,1] ?_;intro u R;refine Zq<|Zg<|Ze (Bx #[_,_,_,_,_,_,_]) ?_;rintro _ _ ⟨pq,rfl,rfl⟩;refine Ze (Bx #[_,_,_,_,_,_,_,_,_,_]) ?_;rintro _ _ ⟨pc,rfl,rfl⟩;refine Za Y<|Z0<|Zx<|Zq<|BK (n:=18) (0::1::3::7::15::31::63::127::127::383::1023::2047::127::127::12543::32767::65535::131071::[]) 49298 (by kernel_rfl) (by kernel_rfl) rfl ?_;refine D9 (D':=1) 0 rfl rfl rfl Wh (Pa #[_,_,_,_,_,_,_] isAgg30 sizeOf30 Y) ?_;refine Yw 1 3 rfl (Zu [_] Y call49 Y rfl (KI q)) ?_;rintro _ _ ⟨rfl,rfl⟩;refine Zi 7 2 rfl (AL Y) ?_;refine Cc (t:=7) Y (fun h1=>?_) (fun h1=>?_)
 ·
  first|rw [decide_eq_true h1]|rw [h1]|skip
  refine Bn (D':=15) 3 Y rfl rfl rfl Wh (Pa #[_,_,_,_,_,_,_,_,_,_] isAgg77 sizeOf77 Y) ?_;refine Yw 4 31 rfl (Zu [_] Y call85 Y rfl (Su c)) ?_;rintro _ _ ⟨rfl,rfl⟩;refine Zi 63 5 rfl (AO Y Y)<|Zi 127 6 rfl (AL Y) ?_;refine Cc (t:=11) Y (fun h2=>?_) (fun h2=>?_)
  ·
   first|rw [decide_eq_true h2]|rw [h2]|skip
   refine Ai (D':=383) 8 Y rfl rfl rfl (AY (off:=0) underlying30 rfl rfl sizeOf3 Y) ?_;refine Bn (D':=895) 9 Y rfl rfl rfl Wh (Bh isAgg3 Y (by rfl)) ?_;refine Bn (D':=4991) 12 Y rfl rfl rfl Wh (Pa #[_,_,_,_,_,_,_] isAgg30 sizeOf30 Y) ?_;refine Bn (D':=13183) 13 Y rfl rfl rfl Wh (Pa #[_,_,_,_,_,_,_,_,_,_] isAgg77 sizeOf77 Y) ?_;refine Zz (l:=[7]) ?_;refine Zy 127 13311 [13,12,9] [true,true,true] [(13,(_,_)),(12,(_,_)),(9,(_,_))] rfl Y rfl rfl rfl rfl (Zw [] Y call86 Y rfl (Mj)) ?hk_3 Cj ?hl_3
   case hk_3=>
    rintro _ _ ⟨_,⟨mb,es,ck,lm,b5,b6,rfl,hm,hp,rfl⟩,rfl⟩;refine ⟨Zk (Zk (Zk (Ad))),?_⟩;have hq:BN q:=of_decide_eq_true h1
    obtain ⟨pf,hget⟩:=jh hp hm.keys hq.kind;refine Bn (D':=14335) 10 Y rfl rfl rfl Wh (OY Gx underlying147 zeroValue146 hm (fun _ _=>trivial) (trivial) ((by rw [hget];exact rfl:_=Value.agg #[.func (.func (Gm q.kd)) #[] #[],pf])) Y Y) ?_;refine Ai (D':=16383) 11 Y rfl rfl rfl (Uf underlying146 rfl isAgg143 Y rfl) ?_;refine Zz (l:=[14]) ?_;refine Zy 12543 32767 [10,13,12,9] [true,false,false,true] [(10,(_,_)),(9,(_,_))] rfl Y rfl rfl rfl rfl (Zw [_,_] Y call87 Y rfl (Ja q hq.2.1 (by have:=hq.2.2.2;omega) c)) ?hk_4 Cj ?hl_4
    case hk_4=>
     rintro _ _ ⟨_,⟨p1,p2,s1,s2,rfl,hP1,hP2,rfl⟩,rfl⟩;refine ⟨Zk (Zk (Ad)),?_⟩;refine Yw 15 65535 rfl (Zu [_] Y (dm hq.kind) Y rfl (YQ q c hq hP1 hP2)) ?_;rintro _ _ ⟨rfl,rfl⟩;refine Zi 131071 16 rfl (AO Y Y)<|Zi 262143 17 rfl (Au Y)<|Ao ?_;refine Zn [4] ?_;refine Zx<|AA ?_;refine AJ rfl results30 Y (by exact ⟨by first|simp [h1,h2]|simp [h1],rfl⟩)
    exact Ap
   exact Ap
  first|rw [decide_eq_false h2]|rw [h2]|skip
  refine Yk 255 7 rfl<|Yk 511 8 rfl<|Yk 1023 9 rfl<|Yk 2047 10 rfl<|Yk 4095 11 rfl<|Yk 8191 12 rfl<|Yk 16383 13 rfl<|Yk 32767 14 rfl<|Yk 65535 15 rfl<|Zi 131071 16 rfl (AC Y Y)<|Zi 262143 17 rfl (Au Y)<|Ao ?_;refine Zn [4] ?_;refine Zx<|AA ?_;refine AJ rfl results30 Y (by exact ⟨by first|simp [h1,h2]|simp [h1],rfl⟩)
 first|rw [decide_eq_false h1]|rw [h1]|skip
 refine Yk 15 3 rfl<|Yk 31 4 rfl<|Zi 63 5 rfl (AC Y Y)<|Zi 127 6 rfl (AL Y)<|Yk 255 7 rfl<|Yk 511 8 rfl<|Yk 1023 9 rfl<|Yk 2047 10 rfl<|Yk 4095 11 rfl<|Yk 8191 12 rfl<|Yk 16383 13 rfl<|Yk 32767 14 rfl<|Yk 65535 15 rfl<|Zi 131071 16 rfl (AC Y Y)<|Zi 262143 17 rfl (Au Y)<|Ao ?_;refine Zn [4] ?_;refine Zx<|AA ?_;refine AJ rfl results30 Y (by exact ⟨by first|simp [h1,h2]|simp [h1],rfl⟩)
def ivQ(n:Int):Value:=I4 n
theorem bQ(e:TypeId)(g c:Nat)(z:Value)(h:c≤maxLen):BZ 1 e (I6 g 0 c) 0 [] [(g,.cells (List.replicate c z).toArray e (0,0))]:=⟨rfl,.inr ⟨g,c,_,(0,0),rfl,rfl,uK _,h,by simp,by simp,BS _⟩⟩
theorem dX{q:QM}{rows:List AQ}{i:Nat}{r:AQ}(h:rows[i]?=some r):Cb q (rows.take (i+1))=Cb q (rows.take i)++[Bg r q.bq]:=by
 unfold Cb;rw [Bu h,uW];rfl
theorem JD(q:QM)(rows:List AQ):(Cb q rows).length=rows.length:=by unfold Cb;rw [u7]
theorem nJ{q:QM}{rows:List AQ}{i:Nat}{r:AQ}(h:rows[i]?=some r):(Cb q rows)[i]?=some (Bg r q.bq):=by unfold Cb;rw [uO,h];rfl
theorem Yh{M:List AU}{v:Value}{rows:List AQ}(hv:E5 M v rows){v0:Int}{f0:Bool}(st:Nat→Int×Bool)(h0:st 0=(v0,f0))(fid:Nat)(us:List Value)(hcf:∀(args:Array Value) (w:World),(callFunc fid args).run Tryz.prog w= .ok (.enter fid args) w)(hf:∀(i:Nat) (r:AQ),rows[i]?=some r→Az Tryz.prog fid (.agg #[.slice none 0 0,I4 (st i).1,.bool (st i).2]:: .agg #[I4 r.t,I4 r.k,I4 r.v.a,I4 r.v.b,I4 r.v.c]::us).toArray [M] (.agg #[.slice none 0 0,I4 (st (i+1)).1,.bool (st (i+1)).2])):Az Tryz.prog 138 #[v,.agg #[.slice none 0 0,I4 v0,.bool f0],.func (.func fid) #[] us.toArray] [M] (.agg #[.slice none 0 0,I4 (st rows.length).1,.bool (st rows.length).2]):=by
 have hml:=mL;obtain ⟨p,cap,rfl,⟨hl,hlc⟩,hg⟩:=id hv;refine Se func138 ntmps138 [0,1,2] ?_;intro u R;refine Zq<|Zg<|Ze (Bx #[_,_,_]) ?_;rintro _ _ ⟨bo,rfl,rfl⟩;refine Ze (Al zeroValue51 #[_,_,_]) ?_;rintro _ _ ⟨re,rfl,rfl⟩;refine Z0<|Zx<|Zq<|Zq<|Zg<|Zm Y<|Zv (AV underlying45 Y)<|Zm Y<|Z0<|Zx<|AR<|Zb [11,2,4,6,9,10] ?_;refine BB (e0:=[(11,_)]) (fun m e H=>∃(i:Nat),m=rows.length -i∧(i≤rows.length)∧e=[(11,I4 (i:Int))]∧H=[[(bo,.cells #[.slice none 0 0,I4 (st i).1,.bool (st i).2] 51 (0,0))]]) (by exact ⟨0,rfl,uK _,rfl,by rw [h0]⟩) Wp ?_;rintro _ _ _ ⟨i,rfl,hi,rfl,rfl⟩;refine Zq<|Zg<|Zv (Av Y Y)<|Z0<|Zx<|Zq ?_;refine Aq Y (fun hlt=>?_) (fun hlt=>?_)
 ·
  obtain ⟨r,hr⟩:∃r,rows[i]?=some r:=⟨_,tq hlt⟩;obtain ⟨g,off,cur,T,zz,rfl,hm9,hsz9,hex9⟩:=hg i r hr;refine AB<|Zx<|Zq<|AR<|Zq<|Zg ?_;refine BO (Ac underlying45 sizeOf113 Y Y (by first|omega|decide|(simp;done))) ?_;refine Cm (cs:=[(g,.cells cur T zz)]) (by simp [hm9]) (AZ (cs:=#[I4 r.t,I4 r.k,I4 r.v.a,I4 r.v.b,I4 r.v.c]) isAgg113 sizeOf113 Y (by omega) hex9) rfl rfl ?_;refine Ze (Al zeroValue113 #[_,_,_,_,_]) ?_;rintro _ _ ⟨rb,rfl,rfl⟩;refine Xe (Xw sizeOf113 #[I4 r.t,I4 r.k,I4 r.v.a,I4 r.v.b,I4 r.v.c]) ?_;refine Z0<|Zx<|Zg<|Zm Y<|Zo Wh (Pa #[_,_,_] isAgg51 sizeOf51 Y) ?_;refine Zo Wh (Pa #[_,_,_,_,_] isAgg113 sizeOf113 Y) ?_;refine Xr [_,_] Y (hcf) Y rfl (hf i r hr) ?_;refine Xe (Xw sizeOf51 #[.slice none 0 0,I4 (st (i+1)).1,.bool (st (i+1)).2]) ?_;refine Z0<|A8<|Zx<|Zg<|Ya (n:=1) Y Y<|Zm Y<|Z0<|Zn [11,2,4,6,9,10] ?_;refine Aa (e':=[(11,_)]) (by exact ⟨i+1,rfl,by omega,rfl,rfl⟩)
 have ei:i=rows.length:=by omega
 subst ei;refine Aw<|Zt<|Zt<|AP<|Zx<|Zq<|Zg<|Zo Wh (Pa #[_,_,_] isAgg51 sizeOf51 Y) ?_;refine Xe (Xw sizeOf51 _) ?_;refine Z0<|Zx<|AA ?_;refine DK rfl results138 Y Wh (Ah isAgg51 sizeOf51 Wn (rfl)) (by exact ⟨rfl,rfl⟩)
theorem RB{M:List AU}{p:Option Addr}{cap:Nat}{ms:List Int}(hc:Fj M p (ms.map ivQ))(hl:ms.length≤maxLen)(hlc:ms.length≤cap){v0:Int}{f0:Bool}(st:Nat→Int×Bool)(h0:st 0=(v0,f0))(fid:Nat)(us:List Value)(hcf:∀(args:Array Value) (w:World),(callFunc fid args).run Tryz.prog w= .ok (.enter fid args) w)(hf:∀(i:Nat) (x:Int),ms[i]?=some x→Az Tryz.prog fid (.agg #[.slice none 0 0,I4 (st i).1,.bool (st i).2]::I4 x::us).toArray [M] (.agg #[.slice none 0 0,I4 (st (i+1)).1,.bool (st (i+1)).2])):Az Tryz.prog 140 #[.slice p ms.length cap,.agg #[.slice none 0 0,I4 v0,.bool f0],.func (.func fid) #[] us.toArray] [M] (.agg #[.slice none 0 0,I4 (st ms.length).1,.bool (st ms.length).2]):=by
 have hml:=mL;refine Se func140 ntmps140 [0,1,2] ?_;intro u R;refine Zq<|Zg<|Ze (Bx #[_,_,_]) ?_;rintro _ _ ⟨bo,rfl,rfl⟩;refine Ze (Al zeroValue51 #[_,_,_]) ?_;rintro _ _ ⟨re,rfl,rfl⟩;refine Z0<|Zx<|Zq<|Zq<|Zg<|Zm Y<|Zv (AV underlying210 Y)<|Zm Y<|Z0<|Zx<|AR<|Zb [11,2,4,6,9,10] ?_;refine BB (e0:=[(11,_)]) (fun m e H=>∃(i:Nat),m=ms.length -i∧(i≤ms.length)∧e=[(11,I4 (i:Int))]∧H=[[(bo,.cells #[.slice none 0 0,I4 (st i).1,.bool (st i).2] 51 (0,0))]]) (by exact ⟨0,rfl,uK _,rfl,by rw [h0]⟩) Wp ?_;rintro _ _ _ ⟨i,rfl,hi,rfl,rfl⟩;refine Zq<|Zg<|Zv (Av Y Y)<|Z0<|Zx<|Zq ?_;refine Aq Y (fun hlt=>?_) (fun hlt=>?_)
 ·
  obtain ⟨x,hx⟩:∃x,ms[i]?=some x:=⟨_,tq hlt⟩;obtain ⟨g,off,cur,T,zz,rfl,hm9,hex9⟩:=hc i (ivQ x) (by rw [uO,hx];rfl);have hex8:cur[off+i]?=some (I4 x):=hex9
  refine AB<|Zx<|Zq<|AR<|Zq<|Zg ?_;refine BO (BV underlying210 sizeOf3 Y Y (by first|omega|decide|(simp;done))) ?_;refine Cm (cs:=[(g,.cells cur T zz)]) (by simp [hm9]) (Bh isAgg3 Y (by exact hex8)) rfl rfl ?_;refine Za Y<|Z0<|Zx<|Zg<|Zm Y<|Zo Wh (Pa #[_,_,_] isAgg51 sizeOf51 Y) ?_;refine Zm Y<|Xr [_,_] Y (hcf) Y rfl (hf i x hx) ?_;refine Xe (Xw sizeOf51 #[.slice none 0 0,I4 (st (i+1)).1,.bool (st (i+1)).2]) ?_;refine Z0<|A8<|Zx<|Zg<|Ya (n:=1) Y Y<|Zm Y<|Z0<|Zn [11,2,4,6,9,10] ?_;refine Aa (e':=[(11,_)]) (by exact ⟨i+1,rfl,by omega,rfl,rfl⟩)
 have ei:i=ms.length:=by omega
 subst ei;refine Aw<|Zt<|Zt<|AP<|Zx<|Zq<|Zg<|Zo Wh (Pa #[_,_,_] isAgg51 sizeOf51 Y) ?_;refine Xe (Xw sizeOf51 _) ?_;refine Z0<|Zx<|AA ?_;refine DK rfl results140 Y Wh (Ah isAgg51 sizeOf51 Wn (rfl)) (by exact ⟨rfl,rfl⟩)
theorem Lv{M:List AU}{v:Value}{rows:List AQ}(hv:E5 M v rows)(q:QM)(hbq:0≤q.bq∧q.bq≤3)(hb:rows.length≤1000000000000):CQ Tryz.prog 141 #[.agg #[I4 q.kd,I4 q.tb,I4 q.cl,I4 q.lo,I4 q.hi,I4 q.bq,I4 q.ot],v] [M] (fun r H'=>∃s,BZ 1 3 r (Cb q rows).length ((Cb q rows).map ivQ) s∧H'=[s,M]):=by
 have hml:=mL;obtain ⟨p,cap,rfl,⟨hl,hlc⟩,hg⟩:=id hv;refine Se func141 ntmps141 [0,1] ?_;intro u R;refine Zq<|Zg<|Ze (Bx #[_,_,_,_,_,_,_]) ?_;rintro _ _ ⟨bq,rfl,rfl⟩;refine Za Y<|Z0<|Zx<|Zq<|Zg<|Zm Y<|Zv (AV underlying45 Y) ?_;refine Ze (GD (by_:=8) (l:=0) underlying210 (rfl:Tryz.prog.info? 3=some Tryz.t3) rfl rfl rfl rfl Y Y ?_ ?_ ?_) ?_
 (focus (omega))
 (focus (omega))
 (focus (omega))
 rintro _ _ ⟨mk,rfl,rfl⟩;refine Za Y<|Z0<|Zx<|Zq<|Zq<|Zg<|Zm Y<|Zv (AV underlying45 Y)<|Zm Y<|Z0<|Zx<|AR<|Zb [5,13,2,11,12] ?_;refine BB (e0:=[(5,_),(13,_)]) (fun m e H=>∃(i:Nat) (vo:Value) (so:List AU),m=rows.length -i∧(i≤rows.length∧BZ 1 3 vo i ((Cb q (rows.take i)).map ivQ) so)∧e=[(5,vo),(13,I4 (i:Int))]∧H=[so]) (by exact ⟨0,_,_,rfl,⟨uK _,by rw [vI];exact bQ _ _ _ (I4 0) (by omega)⟩,rfl,rfl⟩) Wp ?_;rintro _ _ _ ⟨i,vo,so,rfl,⟨hi,hro⟩,rfl,rfl⟩;obtain ⟨qo,co,rfl⟩:=hro.form;refine Zq<|Zg<|Zv (Av Y Y)<|Z0<|Zx<|Zq ?_;refine Aq Y (fun hlt=>?_) (fun hlt=>?_)
 ·
  obtain ⟨r,hr⟩:∃r,rows[i]?=some r:=⟨_,tq hlt⟩;obtain ⟨g,off,cur,T,zz,rfl,hm9,hsz9,hex9⟩:=hg i r hr;refine AB<|Zx<|Zq<|AR<|Zq<|Zg ?_;refine BO (Ac underlying45 sizeOf113 Y Y (by first|omega|decide|(simp;done))) ?_;refine Cm (cs:=[(g,.cells cur T zz)]) (by simp [hm9]) (AZ (cs:=#[I4 r.t,I4 r.k,I4 r.v.a,I4 r.v.b,I4 r.v.c]) isAgg113 sizeOf113 Y (by omega) hex9) rfl rfl ?_;refine Ze (Al zeroValue113 #[_,_,_,_,_]) ?_;rintro _ _ ⟨rb,rfl,rfl⟩;refine Xe (Xw sizeOf113 #[I4 r.t,I4 r.k,I4 r.v.a,I4 r.v.b,I4 r.v.c]) ?_;refine Z0<|Zx<|Zg<|Zm Y<|Zo Wh (Pa #[_,_,_,_,_] isAgg113 sizeOf113 Y) ?_;refine Zh 5 underlying30 rfl rfl sizeOf3 Y<|Zl isAgg3 Y ?_;refine Xr [_,_] Y call97 Y rfl (FZ r q.bq hbq) ?_;refine Ze (Af (vs:=[_]) (cs:=[_]) underlying210 sizeOf3 zeroValue3 Y rfl rfl rfl rfl rfl) ?_;rintro _ _ ⟨gb,rfl,rfl⟩;refine Ze (BR (by_:=8) (sz:=1) underlying210 (rfl:Tryz.prog.info? 3=some Tryz.t3) rfl rfl rfl rfl Y (hro) Y (Da 1 gb 1 1 3 (0,0) [I4 (Bg r q.bq)] rfl) Wo Wo (by simp [Value.oneCell']) (by omega) (by omega)) ?_;rintro _ _ ⟨sa9,hra9,rfl⟩;obtain ⟨ga9,ca9,rfl⟩:=hra9.form;refine Za Y<|Z0<|Zn [2,5,11,12,13] ?_;refine A8<|Zx<|Zg<|Ya (n:=1) Y Y<|Zm Y<|Z0<|Zn [5,13,2,11,12] ?_;refine Aa (e':=[(5,_),(13,_)]) (by exact ⟨i+1,_,_,rfl,⟨by omega,BP hra9 rfl (by rw [dX hr,uW];rfl)⟩,rfl,rfl⟩)
 have ei:i=rows.length:=by omega
 subst ei;refine Aw<|Zt<|Zt<|AP<|Zx<|Zq<|Zg<|Zm Y<|Za Y<|Z0<|Zx<|AA ?_;refine AJ rfl results141 Y (by exact ⟨so,BP hro (JD q rows).symm (by rw [ug]),rfl⟩)
theorem MN(v:Value)(h1:v.oneCell'=true)(hc:v.cells=#[v]):CQ Tryz.prog 143 #[v] [] (fun r H'=>∃b,r= .func (.func 221) #[] #[I5 b]∧H'=[[(b,.cells #[v] 185 (0,0))]]):=by
 refine Se func143 ntmps143 [0] ?_;intro u R;refine Zq<|Zg<|Ze (Ho Y (cs:=#[v]) hc) ?_;rintro _ _ ⟨b,rfl,rfl⟩;refine Za Y<|Z0<|Zx<|Zq<|Zg<|Zv (Bt (vs:=[]) (us:=[_]) Y Y) ?_;refine Za Y<|Z0<|Zx<|AA ?_;refine AJ rfl results143 Y (by exact ⟨b,rfl,rfl⟩)
theorem fF(v n:Int)(f:Bool)(b fid:Nat)(lt:Int→Int→Bool)(hcf:∀(args:Array Value) (w:World),(callFunc fid args).run Tryz.prog w= .ok (.enter fid args) w)(hlt:∀x y:Int,Az Tryz.prog fid #[I4 x,I4 y] [] (.bool (lt x y))):Az Tryz.prog 221 #[.agg #[.slice none 0 0,I4 v,.bool f],I4 n,I5 b] [[(b,.cells #[.func (.func fid) #[] #[]] 185 (0,0))]] (.agg #[.slice none 0 0,I4 (if !f||lt n v then n else v),.bool true]):=by
 refine Se func221 ntmps221 [0,1,2] ?_;intro u R;refine Zq<|Zg<|Ze (Bx #[_,_,_]) ?_;rintro _ _ ⟨br,rfl,rfl⟩;refine Ze (Al zeroValue51 #[_,_,_]) ?_;rintro _ _ ⟨bs,rfl,rfl⟩;refine Z0<|Zx<|Zq<|Zq<|Zg<|Zh 2 underlying51 rfl rfl sizeOf4 Y<|Zl isAgg4 Y ?_;refine Zv (Cg Y)<|Zm Y ?_;refine Ak (t:=9) Y rfl (fun h1=>?_) (fun h1=>?_)
 ·
  refine A7 Y rfl<|A7 Y rfl<|A7 Y rfl<|A7 Y rfl<|A7 Y rfl<|Zv (AO Y Y)<|Z0<|Zx<|CP Y<|Zg<|Zm Y<|Zh 1 underlying51 rfl rfl sizeOf3 Y<|Xe (Zs sizeOf3 Y Y rfl (hi:=by first|omega|decide|(simp;done))) ?_;refine Z0<|Zn [3,5] ?_;refine Zx<|Zq<|Zg<|Zh 2 underlying51 rfl rfl sizeOf4 Y<|Xe (Zs sizeOf4 Y Y rfl (hi:=by first|omega|decide|(simp;done))) ?_;refine Z0<|Zx<|Zq<|Zg<|Zo Wh (Pa #[_,_,_] isAgg51 sizeOf51 Y) ?_;refine Xe (Xw sizeOf51 _) ?_;refine Z0<|Zx<|AA ?_;refine DK rfl results221 Y Wh (Ah isAgg51 sizeOf51 Wn (rfl)) (by exact ⟨by simp_all;rfl,rfl⟩)
 refine Yl isAgg185 Y ?_;refine Zf Y Y<|Yf 1 underlying51 rfl rfl sizeOf3 Y<|Yl isAgg3 Y ?_;refine Xr [_,_] Y (hcf) Y rfl (hlt n v) ?_;refine Zv (AC Y Y)<|Z0<|Zx ?_;refine Ag Y (fun h2=>?_) (fun h2=>?_)
 ·
  refine Zg<|Zm Y<|Zh 1 underlying51 rfl rfl sizeOf3 Y<|Xe (Zs sizeOf3 Y Y rfl (hi:=by first|omega|decide|(simp;done))) ?_;refine Z0<|Zn [3,5] ?_;refine Zx<|Zq<|Zg<|Zh 2 underlying51 rfl rfl sizeOf4 Y<|Xe (Zs sizeOf4 Y Y rfl (hi:=by first|omega|decide|(simp;done))) ?_;refine Z0<|Zx<|Zq<|Zg<|Zo Wh (Pa #[_,_,_] isAgg51 sizeOf51 Y) ?_;refine Xe (Xw sizeOf51 _) ?_;refine Z0<|Zx<|AA ?_;refine DK rfl results221 Y Wh (Ah isAgg51 sizeOf51 Wn (rfl)) (by exact ⟨by simp_all;rfl,rfl⟩)
 refine AB<|Zx<|Zq<|Zg<|Zh 2 underlying51 rfl rfl sizeOf4 Y<|Xe (Zs sizeOf4 Y Y rfl (hi:=by first|omega|decide|(simp;done))) ?_;refine Z0<|Zn [3,5] ?_;refine Zx<|Zq<|Zg<|Zo Wh (Pa #[_,_,_] isAgg51 sizeOf51 Y) ?_;refine Xe (Xw sizeOf51 _) ?_;refine Z0<|Zx<|AA ?_;refine DK rfl results221 Y Wh (Ah isAgg51 sizeOf51 Wn (rfl)) (by exact ⟨by simp_all;rfl,rfl⟩)
theorem Yc(x y:Int):Az Tryz.prog 144 #[I4 x,I4 y] [] (.bool (decide (x<y))):=by
 refine Se func144 ntmps144 [0,1] ?_;intro u R;refine Zq<|Zg<|Za Y<|Z0<|Zx<|Zq<|Zg<|Zm Y<|Zm Y<|Zv (Eg Y Y)<|Za Y<|Z0<|Zx<|AA ?_;refine AJ rfl results144 Y (by exact ⟨by rfl,rfl⟩)
theorem YZ(x y:Int):Az Tryz.prog 145 #[I4 x,I4 y] [] (.bool (decide (y<x))):=by
 refine Se func145 ntmps145 [0,1] ?_;intro u R;refine Zq<|Zg<|Za Y<|Z0<|Zx<|Zq<|Zg<|Zm Y<|Zm Y<|Zv (Eu Y Y)<|Za Y<|Z0<|Zx<|AA ?_;refine AJ rfl results145 Y (by exact ⟨by rfl,rfl⟩)
theorem Ye(v:Int)(f:Bool)(r:AQ)(h:-9223372036854775807≤v∧v≤9223372036854775806):Az Tryz.prog 139 #[.agg #[.slice none 0 0,I4 v,.bool f],.agg #[I4 r.t,I4 r.k,I4 r.v.a,I4 r.v.b,I4 r.v.c]] [] (.agg #[.slice none 0 0,I4 (v+1),.bool f]):=by
 refine Se func139 ntmps139 [0,1] ?_;intro u R;refine Zq<|Zg<|Ze (Bx #[_,_,_]) ?_;rintro _ _ ⟨br,rfl,rfl⟩;refine Ze (Bx #[_,_,_,_,_]) ?_;rintro _ _ ⟨bx,rfl,rfl⟩;refine Ze (Al zeroValue51 #[_,_,_]) ?_;rintro _ _ ⟨b3,rfl,rfl⟩;refine Z0<|Zx<|Zq<|Zg<|Zh 1 underlying51 rfl rfl sizeOf3 Y<|Zl isAgg3 Y ?_;refine Yi Y Y<|Zh 1 underlying51 rfl rfl sizeOf3 Y<|Xe (Zs sizeOf3 Y Y rfl (hi:=by first|omega|decide|(simp;done))) ?_;refine Z0<|Zx<|Zq<|Zg<|Zo Wh (Pa #[_,_,_] isAgg51 sizeOf51 Y) ?_;refine Xe (Xw sizeOf51 _) ?_;refine Z0<|Zx<|AA ?_;refine DK rfl results139 Y Wh (Ah isAgg51 sizeOf51 Wn (rfl)) (by exact ⟨rfl,rfl⟩)
theorem Yd(v n:Int)(f:Bool)(h:-9223372036854775807≤v+n∧v+n≤9223372036854775806):Az Tryz.prog 142 #[.agg #[.slice none 0 0,I4 v,.bool f],I4 n] [] (.agg #[.slice none 0 0,I4 (v+n),.bool f]):=by
 refine Se func142 ntmps142 [0,1] ?_;intro u R;refine Zq<|Zg<|Ze (Bx #[_,_,_]) ?_;rintro _ _ ⟨br,rfl,rfl⟩;refine Ze (Al zeroValue51 #[_,_,_]) ?_;rintro _ _ ⟨b2,rfl,rfl⟩;refine Z0<|Zx<|Zq<|Zg<|Zh 1 underlying51 rfl rfl sizeOf3 Y<|Zl isAgg3 Y ?_;refine Zm Y<|Yi Y Y<|Zh 1 underlying51 rfl rfl sizeOf3 Y<|Xe (Zs sizeOf3 Y Y rfl (hi:=by first|omega|decide|(simp;done))) ?_;refine Z0<|Zx<|Zq<|Zg<|Zo Wh (Pa #[_,_,_] isAgg51 sizeOf51 Y) ?_;refine Xe (Xw sizeOf51 _) ?_;refine Z0<|Zx<|AA ?_;refine DK rfl results142 Y Wh (Ah isAgg51 sizeOf51 Wn (rfl)) (by exact ⟨rfl,rfl⟩)
def oM(r:AQ):Value:= .agg #[I4 r.t,I4 r.k,I4 r.v.a,I4 r.v.b,I4 r.v.c]
theorem jV{lm lm2:List (Int×Value)}{k0:Int}{v:Value}(hn:(lm.map (·.1)).Nodup)(hn2:(lm2.map (·.1)).Nodup)(hp:∀p,p∈lm2↔p=(k0,v)∨(p∈lm∧p.1≠k0))(k:Int):Ih k lm2=if k=k0 then some v else Ih k lm:=by
 split
 · rename_i h
   rw [h];exact IA hn2 ((hp _).2 (.inl rfl))
 · rename_i h
   cases hg:Ih k lm with
   |some x=>exact IA hn2 ((hp _).2 (.inr ⟨Tf hg,h⟩))
   |none=>
    cases hg2:Ih k lm2 with
    |none=>rfl
    |some x=>
     rcases (hp _).1 (Tf hg2)with e|⟨e,_⟩
     · injection e with e1 e2;exact absurd e1 h
     · rw [IA hn e]at hg;cases hg
theorem TQ{q:QM}{others:List AQ}{i:Nat}{x:AQ}(h:others[i]?=some x)(k:Int):Db q (others.take (i+1)) k=(Db q (others.take i) k).or (if x.t=q.ot∧x.k=k then some x else none):=by
 unfold Db;rw [Bu h,List.find?_append];congr 1;simp only [List.find?_cons,List.find?_nil];split<;>simp_all
def Rf(q:QM)(others:List AQ)(lm:List (Int×Value)):Prop:=∀k,Ih k lm=(Db q others k).map oM
theorem Qf{q:QM}{others:List AQ}{i:Nat}{x:AQ}{lm:List (Int×Value)}(h:others[i]?=some x)(hP:Rf q (others.take i) lm)(hx:¬x.t=q.ot∨(Db q (others.take i) x.k).isSome=true):Rf q (others.take (i+1)) lm:=by
 intro k;rw [hP k,TQ h k];cases hg:Db q (others.take i) k with
 |some y=>rfl
 |none=>
  rw [if_neg]
  · rfl
  · rintro ⟨h1,rfl⟩
    rcases hx with hx|hx
    · exact hx h1
    · rw [hg]at hx;cases hx
theorem dE{q:QM}{others:List AQ}{i:Nat}{x:AQ}{lm lm2:List (Int×Value)}(h:others[i]?=some x)(hP:Rf q (others.take i) lm)(hx:x.t=q.ot)(hs:(Db q (others.take i) x.k).isSome=false)(hn:(lm.map (·.1)).Nodup)(hn2:(lm2.map (·.1)).Nodup)(hp:∀p,p∈lm2↔p=(x.k,oM x)∨(p∈lm∧p.1≠x.k)):Rf q (others.take (i+1)) lm2:=by
 intro k;rw [jV hn hn2 hp k,TQ h k];split
 · rename_i hk
   have:Db q (others.take i) k=none:=by
    rw [hk];cases hg:Db q (others.take i) x.k with
    |none=>rfl
    |some y=>rw [hg]at hs;cases hs
   rw [this,if_pos ⟨hx,hk.symm⟩];rfl
 · rename_i hk
   rw [hP k,if_neg (fun h9=>hk h9.2.symm)];cases Db q (others.take i) k<;>rfl
theorem TR{q:QM}{others:List AQ}{lm:List (Int×Value)}(hP:Rf q others lm)(k:Int){y:AQ}(hy:y=(Db q others k).getD ⟨0,0,⟨0,0,0⟩⟩):(Ih k lm).getD (.agg #[I4 (⟨0,0,⟨0,0,0⟩⟩:AQ).t,I4 (⟨0,0,⟨0,0,0⟩⟩:AQ).k,I4 (⟨0,0,⟨0,0,0⟩⟩:AQ).v.a,I4 (⟨0,0,⟨0,0,0⟩⟩:AQ).v.b,I4 (⟨0,0,⟨0,0,0⟩⟩:AQ).v.c])= .agg #[I4 y.t,I4 y.k,I4 y.v.a,I4 y.v.b,I4 y.v.c]∧(Ih k lm).isSome=(Db q others k).isSome:=by
 rw [hP k,hy];cases Db q others k<;>exact ⟨rfl,rfl⟩
theorem TP{q:QM}{others:List AQ}{k:Int}{y:AQ}(hy:y=(Db q others k).getD ⟨0,0,⟨0,0,0⟩⟩)(h:(Db q others k).isSome=true):Db q others k=some y:=by
 rw [hy];cases hp:Db q others k with
 |none=>rw [hp]at h;cases h
 |some x=>rfl
theorem Kg{sz:Nat}{e:TypeId}{p:Option Addr}{n c k:Nat}{xs:List Value}{s:List AU}(h:BZ sz e (.slice p n c) k xs s):Fj s p xs:=by
 intro j u hu;obtain ⟨hl,⟨_,rfl,_⟩|⟨g,cap,cur,z,hv,rfl,_,_,_,htk,_⟩⟩:=h
 · have:xs=[]:=vB (by omega)
   subst this;cases hu
 · injection hv with h1 h2 h3
   subst h1;refine ⟨g,0,cur,e,z,rfl,by simp,?_⟩;have hj:=(tu.1 hu).1
   rw [←htk,uz,if_pos (by omega),ui]at hu;rwa [uX]
theorem Oh{q:QM}{rows others:List AQ}{i:Nat}{r:AQ}(h:rows[i]?=some r):IY q (rows.take (i+1)) others=IY q (rows.take i) others++IV q others r:=by
 unfold IY;rw [Bu h,wG,List.flatMap_singleton]
theorem TS{q:QM}{others:List AQ}{r y:AQ}(h:Db q others (Bg r q.bq)=some y):IV q others r=[r,y]:=by unfold IV;rw [h]
theorem dF{q:QM}{others:List AQ}{r:AQ}(h:Db q others (Bg r q.bq)=none):IV q others r=[]:=by unfold IV;rw [h]
theorem jA(q:QM)(others:List AQ)(r:AQ):(IV q others r).length≤2:=by unfold IV;split<;>simp
theorem R5(q:QM)(rows others:List AQ):(IY q rows others).length≤2*rows.length:=by
 induction rows with
 |nil=>simp [IY]
 |cons r rows ih=>
  have:=jA q others r;unfold IY at*;rw [vE,u6,uJ];omega
set_option maxHeartbeats 1000000 in
theorem WX{M:List AU}{v vo:Value}{rows others:List AQ}(hv:E5 M v rows)(ho:E5 M vo others)(q:QM)(hbq:0≤q.bq∧q.bq≤3)(hb:rows.length≤100000000000):CQ Tryz.prog 146 #[.agg #[I4 q.kd,I4 q.tb,I4 q.cl,I4 q.lo,I4 q.hi,I4 q.bq,I4 q.ot],v,vo] [M] (fun r H'=>∃s,BZ 5 113 r (IY q rows others).length (Ae (IY q rows others)) s∧H'=[s,M]):=by
 have hml:=mL;obtain ⟨p,cap,rfl,⟨hl,hlc⟩,hg⟩:=id hv;obtain ⟨po,capo,rfl,⟨hlo,hlco⟩,hgo⟩:=id ho;refine Se func146 ntmps146 [0,1,2] ?_;intro u R;refine Zq<|Zg<|Ze (Bx #[_,_,_,_,_,_,_]) ?_;rintro _ _ ⟨bq,rfl,rfl⟩;refine Za Y<|Z0<|Zx<|Zq<|Zg<|Ze (O3) ?_;rintro _ _ ⟨mb,rfl,rfl⟩;refine Za Y<|Z0<|Zx<|Zq<|Zq<|Zg<|Zm Y<|Zv (AV underlying45 Y)<|Zm Y<|Z0<|Zx<|AR<|Zb [19,1,3,6,7,17,18] ?_;refine BB (e0:=[(19,_)]) (fun m e H=>∃(i:Nat) (es:Array MapEntry) (ck:Nat) (lm:List (Int×Value)),m=others.length -i∧(i≤others.length∧Ey (fun k:Int=>I4 k) es ck lm∧Rf q (others.take i) lm)∧e=[(19,I4 (i:Int))]∧H=[[(mb,.map es ck)]]) (by exact ⟨0,#[],0,[],rfl,⟨uK _,Qy _,fun k=>rfl⟩,rfl,rfl⟩) Wp ?_;rintro _ _ _ ⟨i,es,ck,lm,rfl,⟨hi,hm,hP⟩,rfl,rfl⟩;refine Zq<|Zg<|Zv (Av Y Y)<|Z0<|Zx<|Zq ?_;refine Aq Y (fun hlt=>?_) (fun hlt=>?_)
 ·
  obtain ⟨x,hx⟩:∃x,others[i]?=some x:=⟨_,tq hlt⟩;obtain ⟨g1,off1,cur1,T1,zz1,rfl,hm1,hsz1,hex1⟩:=hgo i x hx;refine AB<|Zx<|Zq<|AR<|Zq<|Zg ?_;refine BO (Ac underlying45 sizeOf113 Y Y (by first|omega|decide|(simp;done))) ?_;refine Cm (cs:=[(g1,.cells cur1 T1 zz1)]) (by simp [hm1]) (AZ (cs:=#[I4 x.t,I4 x.k,I4 x.v.a,I4 x.v.b,I4 x.v.c]) isAgg113 sizeOf113 Y (by omega) hex1) rfl rfl ?_;refine Ze (Al zeroValue113 #[_,_,_,_,_]) ?_;rintro _ _ ⟨bx,rfl,rfl⟩;refine Xe (Xw sizeOf113 #[I4 x.t,I4 x.k,I4 x.v.a,I4 x.v.b,I4 x.v.c]) ?_;refine Z0<|Zx<|Zq ?_;obtain ⟨y0,hy0⟩:∃y,y=(Db q (others.take i) x.k).getD ⟨0,0,⟨0,0,0⟩⟩:=⟨_,rfl⟩;refine Zg<|Zm Y<|Zh 1 underlying113 rfl rfl sizeOf3 Y<|Zl isAgg3 Y ?_;refine Zo Wh (OX Gx underlying275 zeroValue113 hm (fun _ _=>trivial) (trivial) (TR hP x.k hy0) Y Y) ?_;refine Zm Y<|Zd Y rfl<|Zd Y rfl<|Ze (Al zeroValue113 #[_,_,_,_,_]) ?_;rintro _ _ ⟨bt,rfl,rfl⟩;refine Xe (Xw sizeOf113 #[I4 y0.t,I4 y0.k,I4 y0.v.a,I4 y0.v.b,I4 y0.v.c]) ?_;refine Za Y<|Z0<|Zn [1,3,6,7,9,11,17,18,19] ?_;refine Zx<|Zq ?_;obtain ⟨y0,hy0⟩:∃y,y=(Db q (others.take i) x.k).getD ⟨0,0,⟨0,0,0⟩⟩:=⟨_,rfl⟩;refine Zg<|Zh 0 underlying113 rfl rfl sizeOf3 Y<|Zl isAgg3 Y ?_;refine Zh 6 underlying30 rfl rfl sizeOf3 Y<|Zl isAgg3 Y ?_;refine Zv (CO Y Y)<|Zm Y ?_;refine Aj (t:=35) Y rfl (fun h1=>?_) (fun h1=>?_)
  ·
   refine Zf Y Y<|Yg (Cg Y)<|Zv (AO Y Y)<|Z0<|Zx ?_;refine Ag Y (fun h2=>?_) (fun h2=>?_)
   ·
    refine Zg<|Zm Y<|Zh 1 underlying113 rfl rfl sizeOf3 Y<|Zl isAgg3 Y ?_;refine Zo Wh (Pa #[_,_,_,_,_] isAgg113 sizeOf113 Y) ?_;refine Ze (Kq Gx underlying275 hm (fun _ _=>trivial) (trivial) Y Y Y Wo) ?_;rintro _ _ ⟨rfl,es2,ck2,lm2,hm2,hp2,rfl⟩;have hP2:Rf q (others.take (i+1)) lm2:=dE hx hP h1 (by simpa using h2) hm.keys hm2.keys hp2
    refine Z0<|Zn [1,3,6,7,17,18,19] ?_;refine A8<|Zx<|Zg<|Ya (n:=1) Y Y<|Zm Y<|Z0<|Zn [19,1,3,6,7,17,18] ?_;refine Aa (e':=[(19,_)]) (by exact ⟨i+1,_,_,_,rfl,⟨by omega,hm2,hP2⟩,rfl,rfl⟩)
   refine AB<|A8<|Zx<|Zg<|Ya (n:=1) Y Y<|Zm Y<|Z0<|Zn [19,1,3,6,7,17,18] ?_;refine Aa (e':=[(19,_)]) (by exact ⟨i+1,es,ck,lm,rfl,⟨by omega,hm,Qf hx hP (by first|exact .inl (by omega)|exact .inr (by simpa using h2))⟩,rfl,rfl⟩)
  refine A7 Y rfl<|A7 Y rfl<|Zv (AC Y Y)<|Z0<|Zx<|Dn Y<|AB<|A8<|Zx<|Zg<|Ya (n:=1) Y Y<|Zm Y<|Z0<|Zn [19,1,3,6,7,17,18] ?_;refine Aa (e':=[(19,_)]) (by exact ⟨i+1,es,ck,lm,rfl,⟨by omega,hm,Qf hx hP (by first|exact .inl (by omega)|exact .inr (by simpa using h2))⟩,rfl,rfl⟩)
 have ei:i=others.length:=by omega
 subst ei;rw [ug]at hP;refine Aw<|Zt<|Zt<|AP<|Zx<|Zq<|Zq<|Zg<|Zo Wh (Pa #[_,_,_,_,_,_,_] isAgg30 sizeOf30 Y) ?_;refine Zm Y<|Zc [_,_] Y call141 Y rfl (Lv hv q hbq (by omega)) ?_;rintro _ _ ⟨_,⟨sm,hrm,rfl⟩,rfl⟩;obtain ⟨gm,cm,rfl⟩:=hrm.form;refine Zv (AV underlying210 Y)<|Zm Y<|Z0<|Zx<|AR<|Bf ?_;have hcs:Fj sm gm ((Cb q rows).map ivQ):=Kg hrm
 have hml2:=JD q rows;refine Zb [6,48,1,7,46,47] ?_;refine BB (e0:=[(6,_),(48,_)]) (fun m e H=>∃(i:Nat) (w:Value) (so:List AU),m=rows.length -i∧(i≤rows.length∧BZ 5 113 w (IY q (rows.take i) others).length (Ae (IY q (rows.take i) others)) so)∧e=[(6,w),(48,I4 (i:Int))]∧H=[so]) (by exact ⟨0,.slice none 0 0,[],rfl,⟨uK _,by rw [vI];exact Ba 5 _⟩,rfl,rfl⟩) Wp ?_;rintro _ _ _ ⟨i,w,so,rfl,⟨hi,hro⟩,rfl,rfl⟩;obtain ⟨qo,co,rfl⟩:=hro.form;have hjl:(IY q (rows.take i) others).length≤2*i:=y7 (R5 _ _ _) (by rw [uD];omega)
 refine Zq<|Zg<|Zv (Av Y Y)<|Z0<|Zx<|Zq ?_;refine Aq Y (fun hlt=>?_) (fun hlt=>?_)
 ·
  obtain ⟨r,hr⟩:∃r,rows[i]?=some r:=⟨_,tq (by omega)⟩;obtain ⟨g2,off2,cur2,T2,zz2,rfl,hm2,hex2⟩:=hcs i (ivQ (Bg r q.bq)) (by rw [uO,nJ hr];rfl);have hex8:cur2[off2+i]?=some (I4 (Bg r q.bq)):=hex2
  obtain ⟨y1,hy1⟩:∃y,y=(Db q others (Bg r q.bq)).getD ⟨0,0,⟨0,0,0⟩⟩:=⟨_,rfl⟩;refine AB<|Zx<|Zq<|AR<|Zq<|Zg<|Zm Y ?_;refine BO (BV underlying210 sizeOf3 Y Y (by first|omega|decide|(simp;done))) ?_;refine Cm (cs:=[(g2,.cells cur2 T2 zz2)]) (by simp [hm2]) (Bh isAgg3 Y (by exact hex8)) rfl rfl ?_;refine Za Y<|Za Y<|Z0<|Zx<|Zq<|Zg<|Zm Y<|Zm Y<|Zo Wh (OX Gx underlying275 zeroValue113 hm (fun _ _=>trivial) (trivial) (TR hP (Bg r q.bq) hy1) Y Y) ?_;refine Zm Y<|Zd Y rfl<|Zd Y rfl<|Ze (Al zeroValue113 #[_,_,_,_,_]) ?_;rintro _ _ ⟨by1,rfl,rfl⟩;refine Xe (Xw sizeOf113 #[I4 y1.t,I4 y1.k,I4 y1.v.a,I4 y1.v.b,I4 y1.v.c]) ?_;refine Za Y<|Z0<|Zn [1,6,7,12,14,15,46,47,48] ?_;refine Zx<|Zq<|Zg<|Zm Y<|Z0<|Zx ?_;refine Ag Y (fun h5=>?_) (fun h5=>?_)
  ·
   obtain ⟨g3,off3,cur3,T3,zz3,rfl,hm3,hsz3,hex3⟩:=hg i r hr;refine BK (n:=9) (0::0::0::6::14::0::62::127::255::[]) 192 (by kernel_rfl) (by kernel_rfl) rfl ?_;refine Zi 1 0 rfl (AL Y)<|Zi 3 1 rfl (AL Y)<|Zi 7 2 rfl (AL Y) ?_;refine Zi 15 3 rfl (Ac underlying45 sizeOf113 Y Y (by first|omega|decide|(simp;done))) ?_;refine G6 (b:=g3) (x:= .cells cur3 T3 zz3) (D':=31) 4 rfl rfl rfl (by simp [hm3]) (AZ (cs:=#[I4 r.t,I4 r.k,I4 r.v.a,I4 r.v.b,I4 r.v.c]) isAgg113 sizeOf113 Y (by omega) hex3) ?_;refine D9 (D':=63) 5 rfl rfl rfl Wh (Pa #[_,_,_,_,_] isAgg113 sizeOf113 Y) ?_;refine Yw 6 127 rfl (Af (vs:=[_,_]) (cs:=[_,_,_,_,_,_,_,_,_,_]) underlying45 sizeOf113 zeroValue113 Y rfl rfl rfl rfl rfl) ?_;rintro _ _ ⟨gb,rfl,rfl⟩;refine Yw 7 255 rfl (BR (by_:=40) (sz:=5) underlying45 (rfl:Tryz.prog.info? 113=some Tryz.t113) rfl rfl rfl rfl Y (hro) Y (Da 5 gb 2 2 113 (0,0) [I4 r.t,I4 r.k,I4 r.v.a,I4 r.v.b,I4 r.v.c,I4 y1.t,I4 y1.k,I4 y1.v.a,I4 y1.v.b,I4 y1.v.c] rfl) Wo Wo (by simp [Value.oneCell']) (by omega) (by omega)) ?_;rintro _ _ ⟨sa9,hra9,rfl⟩;obtain ⟨ga9,ca9,rfl⟩:=hra9.form;refine Zi 511 8 rfl (Au Y)<|Ao ?_;refine A8<|Zx<|Zg<|Ya (n:=1) Y Y<|Zm Y<|Z0<|Zn [6,48,1,7,46,47] ?_;refine Aa (e':=[(6,_),(48,_)]) (by exact ⟨i+1,_,_,rfl,⟨by omega,BP hra9 (by rw [Oh hr,TS (TP hy1 h5),u6];rfl) (by rw [Oh hr,TS (TP hy1 h5),Bb];rfl)⟩,rfl,rfl⟩)
  refine AB<|A8<|Zx<|Zg<|Ya (n:=1) Y Y<|Zm Y<|Z0<|Zn [6,48,1,7,46,47] ?_;refine Aa (e':=[(6,_),(48,_)]) (by exact ⟨i+1,_,so,rfl,⟨by omega,by rw [Oh hr,dF (zX.1 (by simpa using h5)),uj];exact hro⟩,rfl,rfl⟩)
 have ei:i=rows.length:=by omega
 subst ei;rw [ug]at hro⊢;refine Aw<|Zt<|Zt<|AP<|Zx<|Zq<|Zg<|Zm Y<|Za Y<|Z0<|Zx<|AA ?_;refine AJ rfl results146 Y (by exact ⟨so,hro,rfl⟩)
end Go.Proofs.YtkdgffcfmgmemaaGreatDoor
