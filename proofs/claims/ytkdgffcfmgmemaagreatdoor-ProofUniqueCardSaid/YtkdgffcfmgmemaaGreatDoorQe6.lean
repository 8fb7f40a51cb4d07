/- predicate.kinds, Touches. -/
/- eval: folds, measures, joins. -/
/- eval: extreme, the steps of From, joined. -/
import Derived.Test.YtkdgffcfmgmemaaGreatDoorEz
import Derived.Test.YtkdgffcfmgmemaaGreatDoorQe3
set_option linter.unusedVariables false
set_option linter.unusedSimpArgs false
namespace Go.Proofs.YtkdgffcfmgmemaaGreatDoor
open Go.Proofs.Tryz
open Go Go.RowKit Gw
set_option maxRecDepth 100000
attribute [local irreducible] Gw.At Gw.Nx Gw.Ops
def Ku(b5 b6:Nat):List (Int×Value):=[(1,.agg #[.func (.func 164) #[] #[],.func (.func 165) #[] #[]]),(2,.agg #[.func (.func 164) #[] #[],.func (.func 165) #[] #[]]),(3,.agg #[.func (.func 166) #[] #[],.func (.func 167) #[] #[]]),(4,.agg #[.func (.func 168) #[] #[],.func (.func 169) #[] #[]]),(5,.agg #[.func (.func 170) #[] #[],.func (.func 233) #[] #[I5 b5]]),(6,.agg #[.func (.func 173) #[] #[],.func (.func 233) #[] #[I5 b6]]),(7,.agg #[.func (.func 175) #[] #[],.func (.func 176) #[] #[]])]
theorem WF{lm:List (Int×Value)}{b5 b6:Nat}(h:∀p,p∈lm↔p∈Ku b5 b6)(hn:(lm.map (·.1)).Nodup){k:Int}{v:Value}(hk:(k,v)∈Ku b5 b6):IX k lm=some v:=Ht hn ((h _).2 hk)
def Ga(k:Int):Nat:=if k=1 then 164 else if k=2 then 164 else if k=3 then 166 else if k=4 then 168 else if k=5 then 170 else if k=6 then 173 else 175
theorem jT{lm:List (Int×Value)}{b5 b6:Nat}(h:∀p,p∈lm↔p∈Ku b5 b6)(hn:(lm.map (·.1)).Nodup){k:Int}(hk:1≤k∧k≤7):∃pf,IX k lm=some (.agg #[.func (.func (Ga k)) #[] #[],pf]):=by
 obtain h9|h9|h9|h9|h9|h9|h9:k=1∨k=2∨k=3∨k=4∨k=5∨k=6∨k=7:=by omega
 all_goals subst h9
 all_goals exact ⟨_,WF h hn (by simp [Ku,Ga];rfl)⟩
theorem NU(v:Value)(h1:v.oneCell'=true)(hc:v.cells=#[v]):CO Tryz.prog 171 #[v] [] (fun r H'=>∃b,r= .func (.func 233) #[] #[I5 b]∧H'=[[(b,.cells #[v] 185 (0,0))]]):=by
 refine Se func171 ntmps171 [0] ?_;intro u R;refine Zq<|Zg<|Ze (H8 Y (cs:=#[v]) hc) ?_;rintro _ _ ⟨b,rfl,rfl⟩;refine Za Y<|Z0<|Zx<|Zq<|Zg<|Zv (Bt (vs:=[]) (us:=[_]) Y Y) ?_;refine Za Y<|Z0<|Zx<|A9 ?_;refine AB rfl results171 Y (by exact ⟨b,rfl,rfl⟩)
theorem MV:CO Tryz.prog 86 #[] [] (fun v H'=>∃b es ck lm b5 b6,v= .map (some b)∧Ex (fun k:Int=>I4 k) es ck lm∧(∀p,p∈lm↔p∈Ku b5 b6)∧H'=[[(b,.map es ck)],[(b5,.cells #[.func (.func 172) #[] #[]] 185 (0,0))],[(b6,.cells #[.func (.func 174) #[] #[]] 185 (0,0))]]):=by
 refine Se func86 ntmps86 [] ?_;intro u R;refine Zq<|Zg<|Za Y<|Z0<|Zx<|Zq<|Zg<|Ze (Np) ?_;rintro _ _ ⟨mb,rfl,rfl⟩;refine Zv (BK (vs:=[(0,.func (.func 164) #[] #[]),(1,.func (.func 165) #[] #[])]) (cs:=#[.func (.func 164) #[] #[],.func (.func 165) #[] #[]]) Y (Aa (pl:=#[(0,1),(1,1)]) zeroValue146 underlying146 (fun _=>by kernel_rfl) (by kernel_rfl))) ?_;refine Ze (Il Gm underlying147 (Qj _) (fun _ _=>trivial) (trivial) Y Y Y Wo) ?_;rintro _ _ ⟨rfl,es1,ck1,lm1,hm1,hp1,rfl⟩;refine Zv (BK (vs:=[(0,.func (.func 164) #[] #[]),(1,.func (.func 165) #[] #[])]) (cs:=#[.func (.func 164) #[] #[],.func (.func 165) #[] #[]]) Y (Aa (pl:=#[(0,1),(1,1)]) zeroValue146 underlying146 (fun _=>by kernel_rfl) (by kernel_rfl))) ?_;refine Ze (Il Gm underlying147 hm1 (fun _ _=>trivial) (trivial) Y Y Y Wo) ?_;rintro _ _ ⟨rfl,es2,ck2,lm2,hm2,hp2,rfl⟩;refine Zv (BK (vs:=[(0,.func (.func 166) #[] #[]),(1,.func (.func 167) #[] #[])]) (cs:=#[.func (.func 166) #[] #[],.func (.func 167) #[] #[]]) Y (Aa (pl:=#[(0,1),(1,1)]) zeroValue146 underlying146 (fun _=>by kernel_rfl) (by kernel_rfl))) ?_;refine Ze (Il Gm underlying147 hm2 (fun _ _=>trivial) (trivial) Y Y Y Wo) ?_;rintro _ _ ⟨rfl,es3,ck3,lm3,hm3,hp3,rfl⟩;refine Zv (BK (vs:=[(0,.func (.func 168) #[] #[]),(1,.func (.func 169) #[] #[])]) (cs:=#[.func (.func 168) #[] #[],.func (.func 169) #[] #[]]) Y (Aa (pl:=#[(0,1),(1,1)]) zeroValue146 underlying146 (fun _=>by kernel_rfl) (by kernel_rfl))) ?_;refine Ze (Il Gm underlying147 hm3 (fun _ _=>trivial) (trivial) Y Y Y Wo) ?_;rintro _ _ ⟨rfl,es4,ck4,lm4,hm4,hp4,rfl⟩;refine Zc [_] Y call171 Y rfl (NU (.func (.func 172) #[] #[]) rfl rfl) ?_;rintro _ _ ⟨_,⟨b5,rfl,rfl⟩,rfl⟩;refine Zv (BK (vs:=[(0,.func (.func 170) #[] #[]),(1,.func (.func 233) #[] #[I5 b5])]) (cs:=#[.func (.func 170) #[] #[],.func (.func 233) #[] #[I5 b5]]) Y (Aa (pl:=#[(0,1),(1,1)]) zeroValue146 underlying146 (fun _=>by kernel_rfl) (by kernel_rfl))) ?_;refine Ze (Il Gm underlying147 hm4 (fun _ _=>trivial) (trivial) Y Y Y Wo) ?_
 rintro _ _ ⟨rfl,es5,ck5,lm5,hm5,hp5,rfl⟩;refine Zc [_] Y call171 Y rfl (NU (.func (.func 174) #[] #[]) rfl rfl) ?_;rintro _ _ ⟨_,⟨b6,rfl,rfl⟩,rfl⟩;refine Zv (BK (vs:=[(0,.func (.func 173) #[] #[]),(1,.func (.func 233) #[] #[I5 b6])]) (cs:=#[.func (.func 173) #[] #[],.func (.func 233) #[] #[I5 b6]]) Y (Aa (pl:=#[(0,1),(1,1)]) zeroValue146 underlying146 (fun _=>by kernel_rfl) (by kernel_rfl))) ?_;refine Ze (Il Gm underlying147 hm5 (fun _ _=>trivial) (trivial) Y Y Y Wo) ?_;rintro _ _ ⟨rfl,es6,ck6,lm6,hm6,hp6,rfl⟩;refine Zv (BK (vs:=[(0,.func (.func 175) #[] #[]),(1,.func (.func 176) #[] #[])]) (cs:=#[.func (.func 175) #[] #[],.func (.func 176) #[] #[]]) Y (Aa (pl:=#[(0,1),(1,1)]) zeroValue146 underlying146 (fun _=>by kernel_rfl) (by kernel_rfl))) ?_;refine Ze (Il Gm underlying147 hm6 (fun _ _=>trivial) (trivial) Y Y Y Wo) ?_;rintro _ _ ⟨rfl,es7,ck7,lm7,hm7,hp7,rfl⟩;refine Zm Y<|Za Y<|Z0<|Zn [0] ?_;refine Zx<|A9 ?_;refine AB rfl results86 Y (by
  refine ⟨mb,es7,ck7,lm7,b5,b6,rfl,hm7,fun p=>?_,rfl⟩;rw [hp7,hp6,hp5,hp4,hp3,hp2,hp1];simp only [Ku,uI,vT,or_false,false_and];constructor
  · rintro (rfl|⟨rfl|⟨rfl|⟨rfl|⟨rfl|⟨rfl|⟨rfl,-⟩,-⟩,-⟩,-⟩,-⟩,-⟩)<;>simp
  · rintro (h|h|h|h|h|h|h)<;>subst h<;>simp)
theorem YD(q:QM)(c:Chg)(hq:BP q){p1 p2:Option Addr}{s1 s2:List AR}(h1:IE p1 (bfQ q c) s1)(h2:IE p2 (afQ q c) s2):Av Tryz.prog (Ga q.kd) #[.agg #[I4 q.kd,I4 q.tb,I4 q.cl,I4 q.lo,I4 q.hi,I4 q.bq,I4 q.ot,I4 c.t,I4 c.k,.bool c.had,I4 c.o.a,I4 c.o.b,I4 c.o.c,.bool c.has,I4 c.n.a,I4 c.n.b,I4 c.n.c,.pointer p1,.pointer p2,I4 (mQ q (bfQ q c)),I4 (mQ q (afQ q c))]] [] (.bool (Dr q c)):=by
 have e1:=h1.some_;have e2:=h2.some_
 have hk:q.kd=1∨q.kd=2∨q.kd=3∨q.kd=4∨q.kd=5∨q.kd=6∨q.kd=7:=by have:=hq.2.2.2;omega
 have ha:=XB q c p1 p2 (mQ q (bfQ q c)) (mQ q (afQ q c));have ho:=Qb q c p1 p2 (mQ q (bfQ q c)) (mQ q (afQ q c))
 have h4:=nC q c p1 p2 (mQ q (bfQ q c)) (mQ q (afQ q c));have h5:=nA q c p1 p2 (mQ q (bfQ q c)) (mQ q (afQ q c))
 have h6:=mr q c p1 p2 (mQ q (bfQ q c)) (mQ q (afQ q c));have h7:=mq q c p1 p2 (mQ q (bfQ q c)) (mQ q (afQ q c))
 rw [e1,e2]at ha ho h5 h6 h7;rcases hk with h|h|h|h|h|h|h
 · rw [show Ga q.kd=164 by rw [h];rfl,show Dr q c=Us q c by unfold Dr;rw [if_pos (by omega)]];exact ha
 · rw [show Ga q.kd=164 by rw [h];rfl,show Dr q c=Us q c by unfold Dr;rw [if_pos (by omega)]];exact ha
 · rw [show Ga q.kd=166 by rw [h];rfl,show Dr q c=Vy q c by unfold Dr;rw [if_neg (by omega),if_pos (by omega)]];exact ho
 · rw [show Ga q.kd=168 by rw [h];rfl,show Dr q c=decide (mQ q (bfQ q c)≠mQ q (afQ q c)) by unfold Dr;rw [if_neg (by omega),if_neg (by omega),if_pos (by omega)]];exact h4
 · rw [show Ga q.kd=170 by rw [h];rfl,show Dr q c=(Vy q c||decide (mQ q (bfQ q c)≠mQ q (afQ q c))) by unfold Dr;rw [if_neg (by omega),if_neg (by omega),if_neg (by omega),if_pos (by omega)]];exact h5
 · rw [show Ga q.kd=173 by rw [h];rfl,show Dr q c=(Vy q c||decide (mQ q (bfQ q c)≠mQ q (afQ q c))) by unfold Dr;rw [if_neg (by omega),if_neg (by omega),if_neg (by omega),if_pos (by omega)]];exact h6
 · rw [show Ga q.kd=175 by rw [h];rfl,show Dr q c=(Us q c||decide (c.t=q.ot)) by unfold Dr;rw [if_neg (by omega),if_neg (by omega),if_neg (by omega),if_neg (by omega)]];exact h7
theorem dQ{k:Int}(hk:1≤k∧k≤7):∀(args:Array Value) (w:World),(callFunc (Ga k) args).run Tryz.prog w= .ok (.enter (Ga k) args) w:=by
 obtain h|h|h|h|h|h|h:k=1∨k=2∨k=3∨k=4∨k=5∨k=6∨k=7:=by omega
 all_goals (subst h;simp only [Ga];first|exact call164|exact call166|exact call168|exact call170|exact call173|exact call175)
theorem BP.kind{q:QM}(h:BP q):1≤q.kd∧q.kd≤7:=by have:=h.2.2.2;omega
theorem Mo(q:QM)(c:Chg):Av Tryz.prog 30 #[.agg #[I4 q.kd,I4 q.tb,I4 q.cl,I4 q.lo,I4 q.hi,I4 q.bq,I4 q.ot],.agg #[I4 c.t,I4 c.k,.bool c.had,I4 c.o.a,I4 c.o.b,I4 c.o.c,.bool c.has,I4 c.n.a,I4 c.n.b,I4 c.n.c]] [] (.bool (decide (BP q)&&(decide c.ok&&Dr q c))):=by
 refine Se func30 ntmps30 [0,1] ?_;intro u R;refine Zq<|Zg<|Ze (Bx #[_,_,_,_,_,_,_]) ?_;rintro _ _ ⟨pq,rfl,rfl⟩;refine Ze (Bx #[_,_,_,_,_,_,_,_,_,_]) ?_;rintro _ _ ⟨pc,rfl,rfl⟩;refine Za Y<|Z0<|Zx<|Zq<|BI (n:=18) (0::1::3::7::15::31::63::127::127::383::1023::2047::127::127::12543::32767::65535::131071::[]) 49298 (by kernel_rfl) (by kernel_rfl) rfl ?_;refine Cj (D':=1) 0 rfl rfl rfl Wh (Pa #[_,_,_,_,_,_,_] isAgg30 sizeOf30 Y) ?_;refine Yw 1 3 rfl (Zu [_] Y call49 Y rfl (LY q)) ?_;rintro _ _ ⟨rfl,rfl⟩;refine Zi 7 2 rfl (AJ Y) ?_;refine CP (t:=7) Y (fun h1=>?_) (fun h1=>?_)
 ·
  first|rw [decide_eq_true h1]|rw [h1]|skip
  refine Bl (D':=15) 3 Y rfl rfl rfl Wh (Pa #[_,_,_,_,_,_,_,_,_,_] isAgg77 sizeOf77 Y) ?_;refine Yw 4 31 rfl (Zu [_] Y call85 Y rfl (SQ c)) ?_;rintro _ _ ⟨rfl,rfl⟩;refine Zi 63 5 rfl (AL Y Y)<|Zi 127 6 rfl (AJ Y) ?_;refine CP (t:=11) Y (fun h2=>?_) (fun h2=>?_)
  ·
   first|rw [decide_eq_true h2]|rw [h2]|skip
   refine Ag (D':=383) 8 Y rfl rfl rfl (AZ (off:=0) underlying30 rfl rfl sizeOf3 Y) ?_;refine Bl (D':=895) 9 Y rfl rfl rfl Wh (Bf isAgg3 Y (by rfl)) ?_;refine Bl (D':=4991) 12 Y rfl rfl rfl Wh (Pa #[_,_,_,_,_,_,_] isAgg30 sizeOf30 Y) ?_;refine Bl (D':=13183) 13 Y rfl rfl rfl Wh (Pa #[_,_,_,_,_,_,_,_,_,_] isAgg77 sizeOf77 Y) ?_;refine Zz (l:=[7]) ?_;refine Zy 127 13311 [13,12,9] [true,true,true] [(13,(_,_)),(12,(_,_)),(9,(_,_))] rfl Y rfl rfl rfl rfl (Zw [] Y call86 Y rfl (MV)) ?hk_3 D9 ?hl_3
   case hk_3=>
    rintro _ _ ⟨_,⟨mb,es,ck,lm,b5,b6,rfl,hm,hp,rfl⟩,rfl⟩;refine ⟨Zk (Zk (Zk (Ad))),?_⟩;have hq:BP q:=of_decide_eq_true h1
    obtain ⟨pf,hget⟩:=jT hp hm.keys hq.kind;refine Bl (D':=14335) 10 Y rfl rfl rfl Wh (OH Gm underlying147 zeroValue146 hm (fun _ _=>trivial) (trivial) ((by rw [hget];exact rfl:_=Value.agg #[.func (.func (Ga q.kd)) #[] #[],pf])) Y Y) ?_;refine Ag (D':=16383) 11 Y rfl rfl rfl (UL underlying146 rfl isAgg143 Y rfl) ?_;refine Zz (l:=[14]) ?_;refine Zy 12543 32767 [10,13,12,9] [true,false,false,true] [(10,(_,_)),(9,(_,_))] rfl Y rfl rfl rfl rfl (Zw [_,_] Y call87 Y rfl (JM q hq.2.1 (by have:=hq.2.2.2;omega) c)) ?hk_4 D9 ?hl_4
    case hk_4=>
     rintro _ _ ⟨_,⟨p1,p2,s1,s2,rfl,hP1,hP2,rfl⟩,rfl⟩;refine ⟨Zk (Zk (Ad)),?_⟩;refine Yw 15 65535 rfl (Zu [_] Y (dQ hq.kind) Y rfl (YD q c hq hP1 hP2)) ?_;rintro _ _ ⟨rfl,rfl⟩;refine Zi 131071 16 rfl (AL Y Y)<|Zi 262143 17 rfl (Ay Y)<|Am ?_;refine Zn [4] ?_;refine Zx<|A9 ?_;refine AB rfl results30 Y (by exact ⟨by first|simp [h1,h2]|simp [h1],rfl⟩)
    exact Aw
   exact Aw
  first|rw [decide_eq_false h2]|rw [h2]|skip
  refine Yk 255 7 rfl<|Yk 511 8 rfl<|Yk 1023 9 rfl<|Yk 2047 10 rfl<|Yk 4095 11 rfl<|Yk 8191 12 rfl<|Yk 16383 13 rfl<|Yk 32767 14 rfl<|Yk 65535 15 rfl<|Zi 131071 16 rfl (AA Y Y)<|Zi 262143 17 rfl (Ay Y)<|Am ?_;refine Zn [4] ?_;refine Zx<|A9 ?_;refine AB rfl results30 Y (by exact ⟨by first|simp [h1,h2]|simp [h1],rfl⟩)
 first|rw [decide_eq_false h1]|rw [h1]|skip
 refine Yk 15 3 rfl<|Yk 31 4 rfl<|Zi 63 5 rfl (AA Y Y)<|Zi 127 6 rfl (AJ Y)<|Yk 255 7 rfl<|Yk 511 8 rfl<|Yk 1023 9 rfl<|Yk 2047 10 rfl<|Yk 4095 11 rfl<|Yk 8191 12 rfl<|Yk 16383 13 rfl<|Yk 32767 14 rfl<|Yk 65535 15 rfl<|Zi 131071 16 rfl (AA Y Y)<|Zi 262143 17 rfl (Ay Y)<|Am ?_;refine Zn [4] ?_;refine Zx<|A9 ?_;refine AB rfl results30 Y (by exact ⟨by first|simp [h1,h2]|simp [h1],rfl⟩)
def ivQ(n:Int):Value:=I4 n
theorem bD(e:TypeId)(g c:Nat)(z:Value)(h:c≤maxLen):BX 1 e (I6 g 0 c) 0 [] [(g,.cells (List.replicate c z).toArray e (0,0))]:=⟨rfl,.inr ⟨g,c,_,(0,0),rfl,rfl,tX _,h,by simp,by simp,BQ _⟩⟩
theorem dK{q:QM}{rows:List AP}{i:Nat}{r:AP}(h:rows[i]?=some r):Co q (rows.take (i+1))=Co q (rows.take i)++[Be r q.bq]:=by
 unfold Co;rw [Bo h,uK];rfl
theorem Jk(q:QM)(rows:List AP):(Co q rows).length=rows.length:=by unfold Co;rw [tJ]
theorem mX{q:QM}{rows:List AP}{i:Nat}{r:AP}(h:rows[i]?=some r):(Co q rows)[i]?=some (Be r q.bq):=by unfold Co;rw [uD,h];rfl
theorem YQ{M:List AR}{v:Value}{rows:List AP}(hv:DV M v rows){v0:Int}{f0:Bool}(st:Nat→Int×Bool)(h0:st 0=(v0,f0))(fid:Nat)(us:List Value)(hcf:∀(args:Array Value) (w:World),(callFunc fid args).run Tryz.prog w= .ok (.enter fid args) w)(hf:∀(i:Nat) (r:AP),rows[i]?=some r→Av Tryz.prog fid (.agg #[.slice none 0 0,I4 (st i).1,.bool (st i).2]:: .agg #[I4 r.t,I4 r.k,I4 r.v.a,I4 r.v.b,I4 r.v.c]::us).toArray [M] (.agg #[.slice none 0 0,I4 (st (i+1)).1,.bool (st (i+1)).2])):Av Tryz.prog 138 #[v,.agg #[.slice none 0 0,I4 v0,.bool f0],.func (.func fid) #[] us.toArray] [M] (.agg #[.slice none 0 0,I4 (st rows.length).1,.bool (st rows.length).2]):=by
 have hml:=mL;obtain ⟨p,cap,rfl,⟨hl,hlc⟩,hg⟩:=id hv;refine Se func138 ntmps138 [0,1,2] ?_;intro u R;refine Zq<|Zg<|Ze (Bx #[_,_,_]) ?_;rintro _ _ ⟨bo,rfl,rfl⟩;refine Ze (Al zeroValue51 #[_,_,_]) ?_;rintro _ _ ⟨re,rfl,rfl⟩;refine Z0<|Zx<|Zq<|Zq<|Zg<|Zm Y<|Zv (AV underlying45 Y)<|Zm Y<|Z0<|Zx<|AQ<|Zb [11,2,4,6,9,10] ?_;refine Az (e0:=[(11,_)]) (fun m e H=>∃(i:Nat),m=rows.length -i∧(i≤rows.length)∧e=[(11,I4 (i:Int))]∧H=[[(bo,.cells #[.slice none 0 0,I4 (st i).1,.bool (st i).2] 51 (0,0))]]) (by exact ⟨0,rfl,tX _,rfl,by rw [h0]⟩) Wp ?_;rintro _ _ _ ⟨i,rfl,hi,rfl,rfl⟩;refine Zq<|Zg<|Zv (Aq Y Y)<|Z0<|Zx<|Zq ?_;refine Ao Y (fun hlt=>?_) (fun hlt=>?_)
 ·
  obtain ⟨r,hr⟩:∃r,rows[i]?=some r:=⟨_,tF hlt⟩;obtain ⟨g,off,cur,T,zz,rfl,hm9,hsz9,hex9⟩:=hg i r hr;refine AC<|Zx<|Zq<|AQ<|Zq<|Zg ?_;refine BM (AU underlying45 sizeOf113 Y Y (by first|omega|decide|(simp;done))) ?_;refine Cf (cs:=[(g,.cells cur T zz)]) (by simp [hm9]) (AX (cs:=#[I4 r.t,I4 r.k,I4 r.v.a,I4 r.v.b,I4 r.v.c]) isAgg113 sizeOf113 Y (by omega) hex9) rfl rfl ?_;refine Ze (Al zeroValue113 #[_,_,_,_,_]) ?_;rintro _ _ ⟨rb,rfl,rfl⟩;refine Xe (Xw sizeOf113 #[I4 r.t,I4 r.k,I4 r.v.a,I4 r.v.b,I4 r.v.c]) ?_;refine Z0<|Zx<|Zg<|Zm Y<|Zo Wh (Pa #[_,_,_] isAgg51 sizeOf51 Y) ?_;refine Zo Wh (Pa #[_,_,_,_,_] isAgg113 sizeOf113 Y) ?_;refine Xr [_,_] Y (hcf) Y rfl (hf i r hr) ?_;refine Xe (Xw sizeOf51 #[.slice none 0 0,I4 (st (i+1)).1,.bool (st (i+1)).2]) ?_;refine Z0<|A8<|Zx<|Zg<|Ya (n:=1) Y Y<|Zm Y<|Z0<|Zn [11,2,4,6,9,10] ?_;refine Ab (e':=[(11,_)]) (by exact ⟨i+1,rfl,by omega,rfl,rfl⟩)
 have ei:i=rows.length:=by omega
 subst ei;refine Ar<|Zt<|Zt<|AO<|Zx<|Zq<|Zg<|Zo Wh (Pa #[_,_,_] isAgg51 sizeOf51 Y) ?_;refine Xe (Xw sizeOf51 _) ?_;refine Z0<|Zx<|A9 ?_;refine D7 rfl results138 Y Wh (Ah isAgg51 sizeOf51 Wn (rfl)) (by exact ⟨rfl,rfl⟩)
theorem Qs{M:List AR}{p:Option Addr}{cap:Nat}{ms:List Int}(hc:Fa M p (ms.map ivQ))(hl:ms.length≤maxLen)(hlc:ms.length≤cap){v0:Int}{f0:Bool}(st:Nat→Int×Bool)(h0:st 0=(v0,f0))(fid:Nat)(us:List Value)(hcf:∀(args:Array Value) (w:World),(callFunc fid args).run Tryz.prog w= .ok (.enter fid args) w)(hf:∀(i:Nat) (x:Int),ms[i]?=some x→Av Tryz.prog fid (.agg #[.slice none 0 0,I4 (st i).1,.bool (st i).2]::I4 x::us).toArray [M] (.agg #[.slice none 0 0,I4 (st (i+1)).1,.bool (st (i+1)).2])):Av Tryz.prog 140 #[.slice p ms.length cap,.agg #[.slice none 0 0,I4 v0,.bool f0],.func (.func fid) #[] us.toArray] [M] (.agg #[.slice none 0 0,I4 (st ms.length).1,.bool (st ms.length).2]):=by
 have hml:=mL;refine Se func140 ntmps140 [0,1,2] ?_;intro u R;refine Zq<|Zg<|Ze (Bx #[_,_,_]) ?_;rintro _ _ ⟨bo,rfl,rfl⟩;refine Ze (Al zeroValue51 #[_,_,_]) ?_;rintro _ _ ⟨re,rfl,rfl⟩;refine Z0<|Zx<|Zq<|Zq<|Zg<|Zm Y<|Zv (AV underlying210 Y)<|Zm Y<|Z0<|Zx<|AQ<|Zb [11,2,4,6,9,10] ?_;refine Az (e0:=[(11,_)]) (fun m e H=>∃(i:Nat),m=ms.length -i∧(i≤ms.length)∧e=[(11,I4 (i:Int))]∧H=[[(bo,.cells #[.slice none 0 0,I4 (st i).1,.bool (st i).2] 51 (0,0))]]) (by exact ⟨0,rfl,tX _,rfl,by rw [h0]⟩) Wp ?_;rintro _ _ _ ⟨i,rfl,hi,rfl,rfl⟩;refine Zq<|Zg<|Zv (Aq Y Y)<|Z0<|Zx<|Zq ?_;refine Ao Y (fun hlt=>?_) (fun hlt=>?_)
 ·
  obtain ⟨x,hx⟩:∃x,ms[i]?=some x:=⟨_,tF hlt⟩;obtain ⟨g,off,cur,T,zz,rfl,hm9,hex9⟩:=hc i (ivQ x) (by rw [uD,hx];rfl);have hex8:cur[off+i]?=some (I4 x):=hex9
  refine AC<|Zx<|Zq<|AQ<|Zq<|Zg ?_;refine BM (BS underlying210 sizeOf3 Y Y (by first|omega|decide|(simp;done))) ?_;refine Cf (cs:=[(g,.cells cur T zz)]) (by simp [hm9]) (Bf isAgg3 Y (by exact hex8)) rfl rfl ?_;refine Za Y<|Z0<|Zx<|Zg<|Zm Y<|Zo Wh (Pa #[_,_,_] isAgg51 sizeOf51 Y) ?_;refine Zm Y<|Xr [_,_] Y (hcf) Y rfl (hf i x hx) ?_;refine Xe (Xw sizeOf51 #[.slice none 0 0,I4 (st (i+1)).1,.bool (st (i+1)).2]) ?_;refine Z0<|A8<|Zx<|Zg<|Ya (n:=1) Y Y<|Zm Y<|Z0<|Zn [11,2,4,6,9,10] ?_;refine Ab (e':=[(11,_)]) (by exact ⟨i+1,rfl,by omega,rfl,rfl⟩)
 have ei:i=ms.length:=by omega
 subst ei;refine Ar<|Zt<|Zt<|AO<|Zx<|Zq<|Zg<|Zo Wh (Pa #[_,_,_] isAgg51 sizeOf51 Y) ?_;refine Xe (Xw sizeOf51 _) ?_;refine Z0<|Zx<|A9 ?_;refine D7 rfl results140 Y Wh (Ah isAgg51 sizeOf51 Wn (rfl)) (by exact ⟨rfl,rfl⟩)
theorem Ld{M:List AR}{v:Value}{rows:List AP}(hv:DV M v rows)(q:QM)(hbq:0≤q.bq∧q.bq≤3)(hb:rows.length≤1000000000000):CO Tryz.prog 141 #[.agg #[I4 q.kd,I4 q.tb,I4 q.cl,I4 q.lo,I4 q.hi,I4 q.bq,I4 q.ot],v] [M] (fun r H'=>∃s,BX 1 3 r (Co q rows).length ((Co q rows).map ivQ) s∧H'=[s,M]):=by
 have hml:=mL;obtain ⟨p,cap,rfl,⟨hl,hlc⟩,hg⟩:=id hv;refine Se func141 ntmps141 [0,1] ?_;intro u R;refine Zq<|Zg<|Ze (Bx #[_,_,_,_,_,_,_]) ?_;rintro _ _ ⟨bq,rfl,rfl⟩;refine Za Y<|Z0<|Zx<|Zq<|Zg<|Zm Y<|Zv (AV underlying45 Y) ?_;refine Ze (Fv (by_:=8) (l:=0) underlying210 (rfl:Tryz.prog.info? 3=some Tryz.t3) rfl rfl rfl rfl Y Y ?_ ?_ ?_) ?_
 (focus (omega))
 (focus (omega))
 (focus (omega))
 rintro _ _ ⟨mk,rfl,rfl⟩;refine Za Y<|Z0<|Zx<|Zq<|Zq<|Zg<|Zm Y<|Zv (AV underlying45 Y)<|Zm Y<|Z0<|Zx<|AQ<|Zb [5,13,2,11,12] ?_;refine Az (e0:=[(5,_),(13,_)]) (fun m e H=>∃(i:Nat) (vo:Value) (so:List AR),m=rows.length -i∧(i≤rows.length∧BX 1 3 vo i ((Co q (rows.take i)).map ivQ) so)∧e=[(5,vo),(13,I4 (i:Int))]∧H=[so]) (by exact ⟨0,_,_,rfl,⟨tX _,by rw [ut];exact bD _ _ _ (I4 0) (by omega)⟩,rfl,rfl⟩) Wp ?_;rintro _ _ _ ⟨i,vo,so,rfl,⟨hi,hro⟩,rfl,rfl⟩;obtain ⟨qo,co,rfl⟩:=hro.form;refine Zq<|Zg<|Zv (Aq Y Y)<|Z0<|Zx<|Zq ?_;refine Ao Y (fun hlt=>?_) (fun hlt=>?_)
 ·
  obtain ⟨r,hr⟩:∃r,rows[i]?=some r:=⟨_,tF hlt⟩;obtain ⟨g,off,cur,T,zz,rfl,hm9,hsz9,hex9⟩:=hg i r hr;refine AC<|Zx<|Zq<|AQ<|Zq<|Zg ?_;refine BM (AU underlying45 sizeOf113 Y Y (by first|omega|decide|(simp;done))) ?_;refine Cf (cs:=[(g,.cells cur T zz)]) (by simp [hm9]) (AX (cs:=#[I4 r.t,I4 r.k,I4 r.v.a,I4 r.v.b,I4 r.v.c]) isAgg113 sizeOf113 Y (by omega) hex9) rfl rfl ?_;refine Ze (Al zeroValue113 #[_,_,_,_,_]) ?_;rintro _ _ ⟨rb,rfl,rfl⟩;refine Xe (Xw sizeOf113 #[I4 r.t,I4 r.k,I4 r.v.a,I4 r.v.b,I4 r.v.c]) ?_;refine Z0<|Zx<|Zg<|Zm Y<|Zo Wh (Pa #[_,_,_,_,_] isAgg113 sizeOf113 Y) ?_;refine Zh 5 underlying30 rfl rfl sizeOf3 Y<|Zl isAgg3 Y ?_;refine Xr [_,_] Y call97 Y rfl (FQ r q.bq hbq) ?_;refine Ze (Ae (vs:=[_]) (cs:=[_]) underlying210 sizeOf3 zeroValue3 Y rfl rfl rfl rfl rfl) ?_;rintro _ _ ⟨gb,rfl,rfl⟩;refine Ze (BR (by_:=8) (sz:=1) underlying210 (rfl:Tryz.prog.info? 3=some Tryz.t3) rfl rfl rfl rfl Y (hro) Y (DY 1 gb 1 1 3 (0,0) [I4 (Be r q.bq)] rfl) Wo Wo (by simp [Value.oneCell']) (by omega) (by omega)) ?_;rintro _ _ ⟨sa9,hra9,rfl⟩;obtain ⟨ga9,ca9,rfl⟩:=hra9.form;refine Za Y<|Z0<|Zn [2,5,11,12,13] ?_;refine A8<|Zx<|Zg<|Ya (n:=1) Y Y<|Zm Y<|Z0<|Zn [5,13,2,11,12] ?_;refine Ab (e':=[(5,_),(13,_)]) (by exact ⟨i+1,_,_,rfl,⟨by omega,BO hra9 rfl (by rw [dK hr,uK];rfl)⟩,rfl,rfl⟩)
 have ei:i=rows.length:=by omega
 subst ei;refine Ar<|Zt<|Zt<|AO<|Zx<|Zq<|Zg<|Zm Y<|Za Y<|Z0<|Zx<|A9 ?_;refine AB rfl results141 Y (by exact ⟨so,BO hro (Jk q rows).symm (by rw [uQ]),rfl⟩)
theorem M5(v:Value)(h1:v.oneCell'=true)(hc:v.cells=#[v]):CO Tryz.prog 143 #[v] [] (fun r H'=>∃b,r= .func (.func 221) #[] #[I5 b]∧H'=[[(b,.cells #[v] 185 (0,0))]]):=by
 refine Se func143 ntmps143 [0] ?_;intro u R;refine Zq<|Zg<|Ze (H8 Y (cs:=#[v]) hc) ?_;rintro _ _ ⟨b,rfl,rfl⟩;refine Za Y<|Z0<|Zx<|Zq<|Zg<|Zv (Bt (vs:=[]) (us:=[_]) Y Y) ?_;refine Za Y<|Z0<|Zx<|A9 ?_;refine AB rfl results143 Y (by exact ⟨b,rfl,rfl⟩)
theorem eU(v n:Int)(f:Bool)(b fid:Nat)(lt:Int→Int→Bool)(hcf:∀(args:Array Value) (w:World),(callFunc fid args).run Tryz.prog w= .ok (.enter fid args) w)(hlt:∀x y:Int,Av Tryz.prog fid #[I4 x,I4 y] [] (.bool (lt x y))):Av Tryz.prog 221 #[.agg #[.slice none 0 0,I4 v,.bool f],I4 n,I5 b] [[(b,.cells #[.func (.func fid) #[] #[]] 185 (0,0))]] (.agg #[.slice none 0 0,I4 (if !f||lt n v then n else v),.bool true]):=by
 refine Se func221 ntmps221 [0,1,2] ?_;intro u R;refine Zq<|Zg<|Ze (Bx #[_,_,_]) ?_;rintro _ _ ⟨br,rfl,rfl⟩;refine Ze (Al zeroValue51 #[_,_,_]) ?_;rintro _ _ ⟨bs,rfl,rfl⟩;refine Z0<|Zx<|Zq<|Zq<|Zg<|Zh 2 underlying51 rfl rfl sizeOf4 Y<|Zl isAgg4 Y ?_;refine Zv (Ca Y)<|Zm Y ?_;refine Ai (t:=9) Y rfl (fun h1=>?_) (fun h1=>?_)
 ·
  refine A7 Y rfl<|A7 Y rfl<|A7 Y rfl<|A7 Y rfl<|A7 Y rfl<|Zv (AL Y Y)<|Z0<|Zx<|CE Y<|Zg<|Zm Y<|Zh 1 underlying51 rfl rfl sizeOf3 Y<|Xe (Zs sizeOf3 Y Y rfl (hi:=by first|omega|decide|(simp;done))) ?_;refine Z0<|Zn [3,5] ?_;refine Zx<|Zq<|Zg<|Zh 2 underlying51 rfl rfl sizeOf4 Y<|Xe (Zs sizeOf4 Y Y rfl (hi:=by first|omega|decide|(simp;done))) ?_;refine Z0<|Zx<|Zq<|Zg<|Zo Wh (Pa #[_,_,_] isAgg51 sizeOf51 Y) ?_;refine Xe (Xw sizeOf51 _) ?_;refine Z0<|Zx<|A9 ?_;refine D7 rfl results221 Y Wh (Ah isAgg51 sizeOf51 Wn (rfl)) (by exact ⟨by simp_all;rfl,rfl⟩)
 refine Yl isAgg185 Y ?_;refine Zf Y Y<|Yf 1 underlying51 rfl rfl sizeOf3 Y<|Yl isAgg3 Y ?_;refine Xr [_,_] Y (hcf) Y rfl (hlt n v) ?_;refine Zv (AA Y Y)<|Z0<|Zx ?_;refine Af Y (fun h2=>?_) (fun h2=>?_)
 ·
  refine Zg<|Zm Y<|Zh 1 underlying51 rfl rfl sizeOf3 Y<|Xe (Zs sizeOf3 Y Y rfl (hi:=by first|omega|decide|(simp;done))) ?_;refine Z0<|Zn [3,5] ?_;refine Zx<|Zq<|Zg<|Zh 2 underlying51 rfl rfl sizeOf4 Y<|Xe (Zs sizeOf4 Y Y rfl (hi:=by first|omega|decide|(simp;done))) ?_;refine Z0<|Zx<|Zq<|Zg<|Zo Wh (Pa #[_,_,_] isAgg51 sizeOf51 Y) ?_;refine Xe (Xw sizeOf51 _) ?_;refine Z0<|Zx<|A9 ?_;refine D7 rfl results221 Y Wh (Ah isAgg51 sizeOf51 Wn (rfl)) (by exact ⟨by simp_all;rfl,rfl⟩)
 refine AC<|Zx<|Zq<|Zg<|Zh 2 underlying51 rfl rfl sizeOf4 Y<|Xe (Zs sizeOf4 Y Y rfl (hi:=by first|omega|decide|(simp;done))) ?_;refine Z0<|Zn [3,5] ?_;refine Zx<|Zq<|Zg<|Zo Wh (Pa #[_,_,_] isAgg51 sizeOf51 Y) ?_;refine Xe (Xw sizeOf51 _) ?_;refine Z0<|Zx<|A9 ?_;refine D7 rfl results221 Y Wh (Ah isAgg51 sizeOf51 Wn (rfl)) (by exact ⟨by simp_all;rfl,rfl⟩)
theorem YN(x y:Int):Av Tryz.prog 144 #[I4 x,I4 y] [] (.bool (decide (x<y))):=by
 refine Se func144 ntmps144 [0,1] ?_;intro u R;refine Zq<|Zg<|Za Y<|Z0<|Zx<|Zq<|Zg<|Zm Y<|Zm Y<|Zv (Eb Y Y)<|Za Y<|Z0<|Zx<|A9 ?_;refine AB rfl results144 Y (by exact ⟨by rfl,rfl⟩)
theorem YM(x y:Int):Av Tryz.prog 145 #[I4 x,I4 y] [] (.bool (decide (y<x))):=by
 refine Se func145 ntmps145 [0,1] ?_;intro u R;refine Zq<|Zg<|Za Y<|Z0<|Zx<|Zq<|Zg<|Zm Y<|Zm Y<|Zv (Es Y Y)<|Za Y<|Z0<|Zx<|A9 ?_;refine AB rfl results145 Y (by exact ⟨by rfl,rfl⟩)
theorem YP(v:Int)(f:Bool)(r:AP)(h:-9223372036854775807≤v∧v≤9223372036854775806):Av Tryz.prog 139 #[.agg #[.slice none 0 0,I4 v,.bool f],.agg #[I4 r.t,I4 r.k,I4 r.v.a,I4 r.v.b,I4 r.v.c]] [] (.agg #[.slice none 0 0,I4 (v+1),.bool f]):=by
 refine Se func139 ntmps139 [0,1] ?_;intro u R;refine Zq<|Zg<|Ze (Bx #[_,_,_]) ?_;rintro _ _ ⟨br,rfl,rfl⟩;refine Ze (Bx #[_,_,_,_,_]) ?_;rintro _ _ ⟨bx,rfl,rfl⟩;refine Ze (Al zeroValue51 #[_,_,_]) ?_;rintro _ _ ⟨b3,rfl,rfl⟩;refine Z0<|Zx<|Zq<|Zg<|Zh 1 underlying51 rfl rfl sizeOf3 Y<|Zl isAgg3 Y ?_;refine Yi Y Y<|Zh 1 underlying51 rfl rfl sizeOf3 Y<|Xe (Zs sizeOf3 Y Y rfl (hi:=by first|omega|decide|(simp;done))) ?_;refine Z0<|Zx<|Zq<|Zg<|Zo Wh (Pa #[_,_,_] isAgg51 sizeOf51 Y) ?_;refine Xe (Xw sizeOf51 _) ?_;refine Z0<|Zx<|A9 ?_;refine D7 rfl results139 Y Wh (Ah isAgg51 sizeOf51 Wn (rfl)) (by exact ⟨rfl,rfl⟩)
theorem YO(v n:Int)(f:Bool)(h:-9223372036854775807≤v+n∧v+n≤9223372036854775806):Av Tryz.prog 142 #[.agg #[.slice none 0 0,I4 v,.bool f],I4 n] [] (.agg #[.slice none 0 0,I4 (v+n),.bool f]):=by
 refine Se func142 ntmps142 [0,1] ?_;intro u R;refine Zq<|Zg<|Ze (Bx #[_,_,_]) ?_;rintro _ _ ⟨br,rfl,rfl⟩;refine Ze (Al zeroValue51 #[_,_,_]) ?_;rintro _ _ ⟨b2,rfl,rfl⟩;refine Z0<|Zx<|Zq<|Zg<|Zh 1 underlying51 rfl rfl sizeOf3 Y<|Zl isAgg3 Y ?_;refine Zm Y<|Yi Y Y<|Zh 1 underlying51 rfl rfl sizeOf3 Y<|Xe (Zs sizeOf3 Y Y rfl (hi:=by first|omega|decide|(simp;done))) ?_;refine Z0<|Zx<|Zq<|Zg<|Zo Wh (Pa #[_,_,_] isAgg51 sizeOf51 Y) ?_;refine Xe (Xw sizeOf51 _) ?_;refine Z0<|Zx<|A9 ?_;refine D7 rfl results142 Y Wh (Ah isAgg51 sizeOf51 Wn (rfl)) (by exact ⟨rfl,rfl⟩)
def nu(r:AP):Value:= .agg #[I4 r.t,I4 r.k,I4 r.v.a,I4 r.v.b,I4 r.v.c]
theorem jH{lm lm2:List (Int×Value)}{k0:Int}{v:Value}(hn:(lm.map (·.1)).Nodup)(hn2:(lm2.map (·.1)).Nodup)(hp:∀p,p∈lm2↔p=(k0,v)∨(p∈lm∧p.1≠k0))(k:Int):IX k lm2=if k=k0 then some v else IX k lm:=by
 split
 · rename_i h
   rw [h];exact Ht hn2 ((hp _).2 (.inl rfl))
 · rename_i h
   cases hg:IX k lm with
   |some x=>exact Ht hn2 ((hp _).2 (.inr ⟨TM hg,h⟩))
   |none=>
    cases hg2:IX k lm2 with
    |none=>rfl
    |some x=>
     rcases (hp _).1 (TM hg2)with e|⟨e,_⟩
     · injection e with e1 e2;exact absurd e1 h
     · rw [Ht hn e]at hg;cases hg
theorem T9{q:QM}{others:List AP}{i:Nat}{x:AP}(h:others[i]?=some x)(k:Int):DT q (others.take (i+1)) k=(DT q (others.take i) k).or (if x.t=q.ot∧x.k=k then some x else none):=by
 unfold DT;rw [Bo h,List.find?_append];congr 1;simp only [List.find?_cons,List.find?_nil];split<;>simp_all
def RJ(q:QM)(others:List AP)(lm:List (Int×Value)):Prop:=∀k,IX k lm=(DT q others k).map nu
theorem QP{q:QM}{others:List AP}{i:Nat}{x:AP}{lm:List (Int×Value)}(h:others[i]?=some x)(hP:RJ q (others.take i) lm)(hx:¬x.t=q.ot∨(DT q (others.take i) x.k).isSome=true):RJ q (others.take (i+1)) lm:=by
 intro k;rw [hP k,T9 h k];cases hg:DT q (others.take i) k with
 |some y=>rfl
 |none=>
  rw [if_neg]
  · rfl
  · rintro ⟨h1,rfl⟩
    rcases hx with hx|hx
    · exact hx h1
    · rw [hg]at hx;cases hx
theorem bV{q:QM}{others:List AP}{i:Nat}{x:AP}{lm lm2:List (Int×Value)}(h:others[i]?=some x)(hP:RJ q (others.take i) lm)(hx:x.t=q.ot)(hs:(DT q (others.take i) x.k).isSome=false)(hn:(lm.map (·.1)).Nodup)(hn2:(lm2.map (·.1)).Nodup)(hp:∀p,p∈lm2↔p=(x.k,nu x)∨(p∈lm∧p.1≠x.k)):RJ q (others.take (i+1)) lm2:=by
 intro k;rw [jH hn hn2 hp k,T9 h k];split
 · rename_i hk
   have:DT q (others.take i) k=none:=by
    rw [hk];cases hg:DT q (others.take i) x.k with
    |none=>rfl
    |some y=>rw [hg]at hs;cases hs
   rw [this,if_pos ⟨hx,hk.symm⟩];rfl
 · rename_i hk
   rw [hP k,if_neg (fun h9=>hk h9.2.symm)];cases DT q (others.take i) k<;>rfl
theorem TA{q:QM}{others:List AP}{lm:List (Int×Value)}(hP:RJ q others lm)(k:Int){y:AP}(hy:y=(DT q others k).getD ⟨0,0,⟨0,0,0⟩⟩):(IX k lm).getD (.agg #[I4 (⟨0,0,⟨0,0,0⟩⟩:AP).t,I4 (⟨0,0,⟨0,0,0⟩⟩:AP).k,I4 (⟨0,0,⟨0,0,0⟩⟩:AP).v.a,I4 (⟨0,0,⟨0,0,0⟩⟩:AP).v.b,I4 (⟨0,0,⟨0,0,0⟩⟩:AP).v.c])= .agg #[I4 y.t,I4 y.k,I4 y.v.a,I4 y.v.b,I4 y.v.c]∧(IX k lm).isSome=(DT q others k).isSome:=by
 rw [hP k,hy];cases DT q others k<;>exact ⟨rfl,rfl⟩
theorem Sz{q:QM}{others:List AP}{k:Int}{y:AP}(hy:y=(DT q others k).getD ⟨0,0,⟨0,0,0⟩⟩)(h:(DT q others k).isSome=true):DT q others k=some y:=by
 rw [hy];cases hp:DT q others k with
 |none=>rw [hp]at h;cases h
 |some x=>rfl
theorem KR{sz:Nat}{e:TypeId}{p:Option Addr}{n c k:Nat}{xs:List Value}{s:List AR}(h:BX sz e (.slice p n c) k xs s):Fa s p xs:=by
 intro j u hu;obtain ⟨hl,⟨_,rfl,_⟩|⟨g,cap,cur,z,hv,rfl,_,_,_,htk,_⟩⟩:=h
 · have:xs=[]:=uf (by omega)
   subst this;cases hu
 · injection hv with h1 h2 h3
   subst h1;refine ⟨g,0,cur,e,z,rfl,by simp,?_⟩;have hj:=(tH.1 hu).1
   rw [←htk,uX,if_pos (by omega),uO]at hu;rwa [uL]
theorem OU{q:QM}{rows others:List AP}{i:Nat}{r:AP}(h:rows[i]?=some r):IM q (rows.take (i+1)) others=IM q (rows.take i) others++IJ q others r:=by
 unfold IM;rw [Bo h,vX,List.flatMap_singleton]
theorem TC{q:QM}{others:List AP}{r y:AP}(h:DT q others (Be r q.bq)=some y):IJ q others r=[r,y]:=by unfold IJ;rw [h]
theorem bW{q:QM}{others:List AP}{r:AP}(h:DT q others (Be r q.bq)=none):IJ q others r=[]:=by unfold IJ;rw [h]
theorem iX(q:QM)(others:List AP)(r:AP):(IJ q others r).length≤2:=by unfold IJ;split<;>simp
theorem WK(q:QM)(rows others:List AP):(IM q rows others).length≤2*rows.length:=by
 induction rows with
 |nil=>simp [IM]
 |cons r rows ih=>
  have:=iX q others r;unfold IM at*;rw [ui,tK,tY];omega
set_option maxHeartbeats 1000000 in
theorem WH{M:List AR}{v vo:Value}{rows others:List AP}(hv:DV M v rows)(ho:DV M vo others)(q:QM)(hbq:0≤q.bq∧q.bq≤3)(hb:rows.length≤100000000000):CO Tryz.prog 146 #[.agg #[I4 q.kd,I4 q.tb,I4 q.cl,I4 q.lo,I4 q.hi,I4 q.bq,I4 q.ot],v,vo] [M] (fun r H'=>∃s,BX 5 113 r (IM q rows others).length (Ac (IM q rows others)) s∧H'=[s,M]):=by
 have hml:=mL;obtain ⟨p,cap,rfl,⟨hl,hlc⟩,hg⟩:=id hv;obtain ⟨po,capo,rfl,⟨hlo,hlco⟩,hgo⟩:=id ho;refine Se func146 ntmps146 [0,1,2] ?_;intro u R;refine Zq<|Zg<|Ze (Bx #[_,_,_,_,_,_,_]) ?_;rintro _ _ ⟨bq,rfl,rfl⟩;refine Za Y<|Z0<|Zx<|Zq<|Zg<|Ze (Np) ?_;rintro _ _ ⟨mb,rfl,rfl⟩;refine Za Y<|Z0<|Zx<|Zq<|Zq<|Zg<|Zm Y<|Zv (AV underlying45 Y)<|Zm Y<|Z0<|Zx<|AQ<|Zb [19,1,3,6,7,17,18] ?_;refine Az (e0:=[(19,_)]) (fun m e H=>∃(i:Nat) (es:Array MapEntry) (ck:Nat) (lm:List (Int×Value)),m=others.length -i∧(i≤others.length∧Ex (fun k:Int=>I4 k) es ck lm∧RJ q (others.take i) lm)∧e=[(19,I4 (i:Int))]∧H=[[(mb,.map es ck)]]) (by exact ⟨0,#[],0,[],rfl,⟨tX _,Qj _,fun k=>rfl⟩,rfl,rfl⟩) Wp ?_;rintro _ _ _ ⟨i,es,ck,lm,rfl,⟨hi,hm,hP⟩,rfl,rfl⟩;refine Zq<|Zg<|Zv (Aq Y Y)<|Z0<|Zx<|Zq ?_;refine Ao Y (fun hlt=>?_) (fun hlt=>?_)
 ·
  obtain ⟨x,hx⟩:∃x,others[i]?=some x:=⟨_,tF hlt⟩;obtain ⟨g1,off1,cur1,T1,zz1,rfl,hm1,hsz1,hex1⟩:=hgo i x hx;refine AC<|Zx<|Zq<|AQ<|Zq<|Zg ?_;refine BM (AU underlying45 sizeOf113 Y Y (by first|omega|decide|(simp;done))) ?_;refine Cf (cs:=[(g1,.cells cur1 T1 zz1)]) (by simp [hm1]) (AX (cs:=#[I4 x.t,I4 x.k,I4 x.v.a,I4 x.v.b,I4 x.v.c]) isAgg113 sizeOf113 Y (by omega) hex1) rfl rfl ?_;refine Ze (Al zeroValue113 #[_,_,_,_,_]) ?_;rintro _ _ ⟨bx,rfl,rfl⟩;refine Xe (Xw sizeOf113 #[I4 x.t,I4 x.k,I4 x.v.a,I4 x.v.b,I4 x.v.c]) ?_;refine Z0<|Zx<|Zq ?_;obtain ⟨y0,hy0⟩:∃y,y=(DT q (others.take i) x.k).getD ⟨0,0,⟨0,0,0⟩⟩:=⟨_,rfl⟩;refine Zg<|Zm Y<|Zh 1 underlying113 rfl rfl sizeOf3 Y<|Zl isAgg3 Y ?_;refine Zo Wh (OG Gm underlying275 zeroValue113 hm (fun _ _=>trivial) (trivial) (TA hP x.k hy0) Y Y) ?_;refine Zm Y<|Zd Y rfl<|Zd Y rfl<|Ze (Al zeroValue113 #[_,_,_,_,_]) ?_;rintro _ _ ⟨bt,rfl,rfl⟩;refine Xe (Xw sizeOf113 #[I4 y0.t,I4 y0.k,I4 y0.v.a,I4 y0.v.b,I4 y0.v.c]) ?_;refine Za Y<|Z0<|Zn [1,3,6,7,9,11,17,18,19] ?_;refine Zx<|Zq ?_;obtain ⟨y0,hy0⟩:∃y,y=(DT q (others.take i) x.k).getD ⟨0,0,⟨0,0,0⟩⟩:=⟨_,rfl⟩;refine Zg<|Zh 0 underlying113 rfl rfl sizeOf3 Y<|Zl isAgg3 Y ?_;refine Zh 6 underlying30 rfl rfl sizeOf3 Y<|Zl isAgg3 Y ?_;refine Zv (CF Y Y)<|Zm Y ?_;refine Aj (t:=35) Y rfl (fun h1=>?_) (fun h1=>?_)
  ·
   refine Zf Y Y<|Yg (Ca Y)<|Zv (AL Y Y)<|Z0<|Zx ?_;refine Af Y (fun h2=>?_) (fun h2=>?_)
   ·
    refine Zg<|Zm Y<|Zh 1 underlying113 rfl rfl sizeOf3 Y<|Zl isAgg3 Y ?_;refine Zo Wh (Pa #[_,_,_,_,_] isAgg113 sizeOf113 Y) ?_;refine Ze (KZ Gm underlying275 hm (fun _ _=>trivial) (trivial) Y Y Y Wo) ?_;rintro _ _ ⟨rfl,es2,ck2,lm2,hm2,hp2,rfl⟩;have hP2:RJ q (others.take (i+1)) lm2:=bV hx hP h1 (by simpa using h2) hm.keys hm2.keys hp2
    refine Z0<|Zn [1,3,6,7,17,18,19] ?_;refine A8<|Zx<|Zg<|Ya (n:=1) Y Y<|Zm Y<|Z0<|Zn [19,1,3,6,7,17,18] ?_;refine Ab (e':=[(19,_)]) (by exact ⟨i+1,_,_,_,rfl,⟨by omega,hm2,hP2⟩,rfl,rfl⟩)
   refine AC<|A8<|Zx<|Zg<|Ya (n:=1) Y Y<|Zm Y<|Z0<|Zn [19,1,3,6,7,17,18] ?_;refine Ab (e':=[(19,_)]) (by exact ⟨i+1,es,ck,lm,rfl,⟨by omega,hm,QP hx hP (by first|exact .inl (by omega)|exact .inr (by simpa using h2))⟩,rfl,rfl⟩)
  refine A7 Y rfl<|A7 Y rfl<|Zv (AA Y Y)<|Z0<|Zx<|Di Y<|AC<|A8<|Zx<|Zg<|Ya (n:=1) Y Y<|Zm Y<|Z0<|Zn [19,1,3,6,7,17,18] ?_;refine Ab (e':=[(19,_)]) (by exact ⟨i+1,es,ck,lm,rfl,⟨by omega,hm,QP hx hP (by first|exact .inl (by omega)|exact .inr (by simpa using h2))⟩,rfl,rfl⟩)
 have ei:i=others.length:=by omega
 subst ei;rw [uQ]at hP;refine Ar<|Zt<|Zt<|AO<|Zx<|Zq<|Zq<|Zg<|Zo Wh (Pa #[_,_,_,_,_,_,_] isAgg30 sizeOf30 Y) ?_;refine Zm Y<|Zc [_,_] Y call141 Y rfl (Ld hv q hbq (by omega)) ?_;rintro _ _ ⟨_,⟨sm,hrm,rfl⟩,rfl⟩;obtain ⟨gm,cm,rfl⟩:=hrm.form;refine Zv (AV underlying210 Y)<|Zm Y<|Z0<|Zx<|AQ<|Bd ?_;have hcs:Fa sm gm ((Co q rows).map ivQ):=KR hrm
 have hml2:=Jk q rows;refine Zb [6,48,1,7,46,47] ?_;refine Az (e0:=[(6,_),(48,_)]) (fun m e H=>∃(i:Nat) (w:Value) (so:List AR),m=rows.length -i∧(i≤rows.length∧BX 5 113 w (IM q (rows.take i) others).length (Ac (IM q (rows.take i) others)) so)∧e=[(6,w),(48,I4 (i:Int))]∧H=[so]) (by exact ⟨0,.slice none 0 0,[],rfl,⟨tX _,by rw [ut];exact BV 5 _⟩,rfl,rfl⟩) Wp ?_;rintro _ _ _ ⟨i,w,so,rfl,⟨hi,hro⟩,rfl,rfl⟩;obtain ⟨qo,co,rfl⟩:=hro.form;have hjl:(IM q (rows.take i) others).length≤2*i:=xk (WK _ _ _) (by rw [tL];omega)
 refine Zq<|Zg<|Zv (Aq Y Y)<|Z0<|Zx<|Zq ?_;refine Ao Y (fun hlt=>?_) (fun hlt=>?_)
 ·
  obtain ⟨r,hr⟩:∃r,rows[i]?=some r:=⟨_,tF (by omega)⟩;obtain ⟨g2,off2,cur2,T2,zz2,rfl,hm2,hex2⟩:=hcs i (ivQ (Be r q.bq)) (by rw [uD,mX hr];rfl);have hex8:cur2[off2+i]?=some (I4 (Be r q.bq)):=hex2
  obtain ⟨y1,hy1⟩:∃y,y=(DT q others (Be r q.bq)).getD ⟨0,0,⟨0,0,0⟩⟩:=⟨_,rfl⟩;refine AC<|Zx<|Zq<|AQ<|Zq<|Zg<|Zm Y ?_;refine BM (BS underlying210 sizeOf3 Y Y (by first|omega|decide|(simp;done))) ?_;refine Cf (cs:=[(g2,.cells cur2 T2 zz2)]) (by simp [hm2]) (Bf isAgg3 Y (by exact hex8)) rfl rfl ?_;refine Za Y<|Za Y<|Z0<|Zx<|Zq<|Zg<|Zm Y<|Zm Y<|Zo Wh (OG Gm underlying275 zeroValue113 hm (fun _ _=>trivial) (trivial) (TA hP (Be r q.bq) hy1) Y Y) ?_;refine Zm Y<|Zd Y rfl<|Zd Y rfl<|Ze (Al zeroValue113 #[_,_,_,_,_]) ?_;rintro _ _ ⟨by1,rfl,rfl⟩;refine Xe (Xw sizeOf113 #[I4 y1.t,I4 y1.k,I4 y1.v.a,I4 y1.v.b,I4 y1.v.c]) ?_;refine Za Y<|Z0<|Zn [1,6,7,12,14,15,46,47,48] ?_;refine Zx<|Zq<|Zg<|Zm Y<|Z0<|Zx ?_;refine Af Y (fun h5=>?_) (fun h5=>?_)
  ·
   obtain ⟨g3,off3,cur3,T3,zz3,rfl,hm3,hsz3,hex3⟩:=hg i r hr;refine BI (n:=9) (0::0::0::6::14::0::62::127::255::[]) 192 (by kernel_rfl) (by kernel_rfl) rfl ?_;refine Zi 1 0 rfl (AJ Y)<|Zi 3 1 rfl (AJ Y)<|Zi 7 2 rfl (AJ Y) ?_;refine Zi 15 3 rfl (AU underlying45 sizeOf113 Y Y (by first|omega|decide|(simp;done))) ?_;refine Fp (b:=g3) (x:= .cells cur3 T3 zz3) (D':=31) 4 rfl rfl rfl (by simp [hm3]) (AX (cs:=#[I4 r.t,I4 r.k,I4 r.v.a,I4 r.v.b,I4 r.v.c]) isAgg113 sizeOf113 Y (by omega) hex3) ?_;refine Cj (D':=63) 5 rfl rfl rfl Wh (Pa #[_,_,_,_,_] isAgg113 sizeOf113 Y) ?_;refine Yw 6 127 rfl (Ae (vs:=[_,_]) (cs:=[_,_,_,_,_,_,_,_,_,_]) underlying45 sizeOf113 zeroValue113 Y rfl rfl rfl rfl rfl) ?_;rintro _ _ ⟨gb,rfl,rfl⟩;refine Yw 7 255 rfl (BR (by_:=40) (sz:=5) underlying45 (rfl:Tryz.prog.info? 113=some Tryz.t113) rfl rfl rfl rfl Y (hro) Y (DY 5 gb 2 2 113 (0,0) [I4 r.t,I4 r.k,I4 r.v.a,I4 r.v.b,I4 r.v.c,I4 y1.t,I4 y1.k,I4 y1.v.a,I4 y1.v.b,I4 y1.v.c] rfl) Wo Wo (by simp [Value.oneCell']) (by omega) (by omega)) ?_;rintro _ _ ⟨sa9,hra9,rfl⟩;obtain ⟨ga9,ca9,rfl⟩:=hra9.form;refine Zi 511 8 rfl (Ay Y)<|Am ?_;refine A8<|Zx<|Zg<|Ya (n:=1) Y Y<|Zm Y<|Z0<|Zn [6,48,1,7,46,47] ?_;refine Ab (e':=[(6,_),(48,_)]) (by exact ⟨i+1,_,_,rfl,⟨by omega,BO hra9 (by rw [OU hr,TC (Sz hy1 h5),tK];rfl) (by rw [OU hr,TC (Sz hy1 h5),BZ];rfl)⟩,rfl,rfl⟩)
  refine AC<|A8<|Zx<|Zg<|Ya (n:=1) Y Y<|Zm Y<|Z0<|Zn [6,48,1,7,46,47] ?_;refine Ab (e':=[(6,_),(48,_)]) (by exact ⟨i+1,_,so,rfl,⟨by omega,by rw [OU hr,bW (zI.1 (by simpa using h5)),uR];exact hro⟩,rfl,rfl⟩)
 have ei:i=rows.length:=by omega
 subst ei;rw [uQ]at hro⊢;refine Ar<|Zt<|Zt<|AO<|Zx<|Zq<|Zg<|Zm Y<|Za Y<|Z0<|Zx<|A9 ?_;refine AB rfl results146 Y (by exact ⟨so,hro,rfl⟩)
end Go.Proofs.YtkdgffcfmgmemaaGreatDoor
