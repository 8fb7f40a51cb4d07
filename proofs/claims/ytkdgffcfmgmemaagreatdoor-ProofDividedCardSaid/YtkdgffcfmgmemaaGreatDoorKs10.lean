/- The keys of the store; a map that holds rows. -/
/- The store: New, Apply, At. -/
/- The store: At. -/
/- The reference of layer 4: At, Rows, SameRows. -/
/- The value of a column: of the reference of layer 3, of the program. -/
/- The reference of layer 4: Range. -/
/- row.Value, to the world: what the comparator of the sort wants. -/
/- The store: the predicate of Range. -/
/- The store: chosen, over a contract of the sort. -/
/- The store: chosen, called by Range. -/
import Derived.Test.YtkdgffcfmgmemaaGreatDoorEz
import Derived.Test.YtkdgffcfmgmemaaGreatDoorLg11
import Derived.Test.YtkdgffcfmgmemaaGreatDoorEx20
import Derived.Test.YtkdgffcfmgmemaaGreatDoorEx17
import Derived.WalkKit
import Derived.WalkSpells
import Derived.Sort.Grow
import Derived.Deep.Draws
import Derived.Lib.Hide
import Derived.LoopTactic
import Derived.Test.YtkdgffcfmgmemaaGreatDoorLg1
set_option linter.unusedVariables false
set_option linter.unusedSimpArgs false
namespace Go.Proofs.YtkdgffcfmgmemaaGreatDoor
open Go.Proofs.Tryz
open Go Go.RowKit Gw
set_option maxRecDepth 100000
attribute [local irreducible] Gw.At Gw.Nx Gw.Ops
def K2(k:Int×Int):Value:= .agg #[I4 k.1,I4 k.2]
def KD(k:Int×Int):Prop:=(Lit.int .i64 k.1).wf=true∧(Lit.int .i64 k.2).wf=true
def QP(r:AQ):Value:= .agg #[I4 r.t,I4 r.k,I4 r.v.a,I4 r.v.b,I4 r.v.c]
theorem qV:∀a b,K2 a=K2 b→a=b:=by
 rintro ⟨a,b⟩ ⟨c,d⟩ h;unfold K2 at h;simp only [Value.agg.injEq,Array.mk.injEq,List.cons.injEq,Value.int.injEq,and_true,true_and]at h;rw [h.1,h.2]
theorem WS(P:Program)(d:Nat)(a:Int){t:TypeId}(ht:P.underlying t=some (.int .i64))(h:(Lit.int .i64 a).wf=true):P.keyLits (d+1) t [.int .i64 a]=some [.int .i64 a]:=by
 unfold Program.keyLits;rw [ht];simp [h]
theorem kE:IJ Tryz.prog 178 K2 KD:=IJ.ofLaw (deep_law (m:=3) (by decide) (by kernel_rfl) (by kernel_rfl) (by kernel_rfl)) (by
 rintro ⟨a,b⟩ ⟨ha,hb⟩;have h1:Tryz.prog.types.size+1=(Tryz.prog.types.size -1)+1+1:=by
  have:0<Tryz.prog.types.size:=of_decide_eq_true (by kernel_rfl);omega
 have hc:Tryz.prog.cellsOf 3=1:=by kernel_rfl
 have hc2:Tryz.prog.cellsOf 178=2:=by kernel_rfl
 have hk:Tryz.prog.keyType 178=true:=by kernel_rfl
 have hf:(K2 (a,b)).formed Tryz.prog 178=true:=by
  unfold Value.formed K2;rw [underlying178];simp [hc2]
 unfold keyOf;rw [underlying178];simp only [hk,hf,Bool.and_self,if_true];obtain ⟨d,hd⟩:∃d,Tryz.prog.types.size+1=d+1+1:=⟨_,h1⟩;rw [hd];unfold Program.keyLits;rw [underlying178];have la:=WS Tryz.prog d a underlying3 ha
 have lb:=WS Tryz.prog d b underlying3 hb;simp [K2,Value.cells,hc,hc2,la,lb]) qV
structure G9(l:List ((Int×Int)×Value))(rs:List AQ):Prop where
 mem:∀p,p∈l↔∃r∈rs,p=((r.t,r.k),QP r)
 kd:∀r∈rs,KD (r.t,r.k)
theorem jW:G9 [] []:=⟨fun p=>by simp,fun r h=>by cases h⟩
theorem G9.keys{l:List ((Int×Int)×Value)}{rs:List AQ}(h:G9 l rs):∀p∈l,KD p.1:=fun p hp=>by
 obtain ⟨r,hr,rfl⟩:=(h.mem p).1 hp;exact h.kd r hr
theorem Vi{a b:AQ}(h:QP a=QP b):a=b:=by
 obtain ⟨t,k,⟨x,y,z⟩⟩:=a;obtain ⟨t',k',⟨x',y',z'⟩⟩:=b;unfold QP at h;simp only [Value.agg.injEq,Array.mk.injEq,List.cons.injEq,Value.int.injEq,and_true,true_and]at h;obtain ⟨rfl,rfl,rfl,rfl,rfl⟩:=h;rfl
theorem G9.len{es:Array MapEntry}{ck:Nat}{l:List ((Int×Int)×Value)}{rs:List AQ}(hm:Ey K2 es ck l)(h:G9 l rs)(hs:BJ rs):l.length=rs.length:=by
 have h1:l.Nodup:=by
  have:=hm.keys;rw [wB,yH]at this;rw [wB];exact this.imp (fun hne e=>hne (by rw [e]))
 have h2:(rs.map (fun r=>((r.t,r.k),QP r))).Nodup:=by
  rw [wB,yH];refine hs.imp (fun{a b} hab e=>?_);have e2:=Vi (Prod.mk.inj e).2
  subst e2;unfold AQ.lt2 at hab;omega
 have hp:l.Perm (rs.map (fun r=>((r.t,r.k),QP r))):=by
  rw [xQ h1 h2];intro p;rw [h.mem p,vD];constructor
  · rintro ⟨r,hr,rfl⟩;exact ⟨r,hr,rfl⟩
  · rintro ⟨r,hr,rfl⟩;exact ⟨r,hr,rfl⟩
 rw [hp.length_eq,u7]
theorem G9.get{es:Array MapEntry}{ck:Nat}{l:List ((Int×Int)×Value)}{rs:List AQ}(hm:Ey K2 es ck l)(h:G9 l rs)(hs:BJ rs)(t k:Int):
 (Ih (t,k) l).getD (QP AQ.zero)=QP (Fe rs t k).1∧(Ih (t,k) l).isSome=(Fe rs t k).2:=by
 cases hg:(Fe rs t k).2 with
 |true=>
  obtain ⟨r,hr,hi,_,he⟩:=JH hg;have hin:((t,k),QP r)∈l:=(h.mem _).2 ⟨r,hr,by rw [show t=r.t from hi.1.symm,show k=r.k from hi.2.symm]⟩
  rw [IA hm.keys hin,he];exact ⟨rfl,rfl⟩
 |false=>
  have hno:∀r∈rs,¬r.is t k:=fun r hr hi=>by rw [K5 hs hr hi]at hg;cases hg
  have hn:Ih (t,k) l=none:=Oc (fun p hp e=>by
   obtain ⟨r,hr,rfl⟩:=(h.mem p).1 hp;injection e with e1 e2
   exact hno r hr ⟨e1,e2⟩)
  rw [hn,Oi hno];exact ⟨rfl,rfl⟩
theorem G9.put{l l':List ((Int×Int)×Value)}{rs:List AQ}{c:Chg}(h:G9 l rs)(hs:BJ rs)(hf:Fh rs c)(hh:c.has=true)(hk:KD (c.t,c.k))(hp:∀p,p∈l'↔p=((c.t,c.k),QP ⟨c.t,c.k,c.n⟩)∨(p∈l∧p.1≠(c.t,c.k))):G9 l' (EL rs c):=by
 refine ⟨fun p=>?_,fun r hr=>?_⟩
 · rw [hp p]
   constructor
   · rintro (rfl|⟨h1,h2⟩)
     · exact ⟨_,(Fb hs hf _).2 (.inr ⟨hh,rfl⟩),rfl⟩
     · obtain ⟨r,hr,rfl⟩:=(h.mem p).1 h1
       exact ⟨r,(Fb hs hf _).2 (.inl ⟨hr,fun hi=>h2 (by rw [show r.t=c.t from hi.1,show r.k=c.k from hi.2])⟩),rfl⟩
   · rintro ⟨r,hr,rfl⟩
     rcases (Fb hs hf _).1 hr with⟨h1,h2⟩|⟨_,rfl⟩
     · exact .inr ⟨(h.mem _).2 ⟨r,h1,rfl⟩,fun e=>h2 (by injection e with e1 e2;exact ⟨e1,e2⟩)⟩
     · exact .inl rfl
 · rcases (Fb hs hf _).1 hr with⟨h1,_⟩|⟨_,rfl⟩
   · exact h.kd r h1
   · exact hk
theorem G9.drop{l l':List ((Int×Int)×Value)}{rs:List AQ}{c:Chg}(h:G9 l rs)(hs:BJ rs)(hf:Fh rs c)(hh:c.has=false)(hp:∀p,p∈l'↔p∈l∧p.1≠(c.t,c.k)):G9 l' (EL rs c):=by
 refine ⟨fun p=>?_,fun r hr=>?_⟩
 · rw [hp p]
   constructor
   · rintro ⟨h1,h2⟩
     obtain ⟨r,hr,rfl⟩:=(h.mem p).1 h1;exact ⟨r,(Fb hs hf _).2 (.inl ⟨hr,fun hi=>h2 (by rw [show r.t=c.t from hi.1,show r.k=c.k from hi.2])⟩),rfl⟩
   · rintro ⟨r,hr,rfl⟩
     rcases (Fb hs hf _).1 hr with⟨h1,h2⟩|⟨h9,_⟩
     · exact ⟨(h.mem _).2 ⟨r,h1,rfl⟩,fun e=>h2 (by injection e with e1 e2;exact ⟨e1,e2⟩)⟩
     · rw [hh]at h9;cases h9
 · rcases (Fb hs hf _).1 hr with⟨h1,_⟩|⟨h9,_⟩
   · exact h.kd r h1
   · rw [hh]at h9;cases h9
theorem oL{n:Int}(h:-9223372036854775808≤n∧n≤9223372036854775807):(Lit.int .i64 n).wf=true:=by
 simp [Lit.wf,IntKind.min,IntKind.max,IntKind.signed,IntKind.bits];omega
theorem l6{c:Chg}(h:c.ok):KD (c.t,c.k):=by
 obtain ⟨h1,h2,_,_⟩:=h;have hk:(0≤c.t∧c.t≤3)∧(1≤c.k∧c.k≤1000000):=by
  cases hh:c.had with
  |true=>
   have:c.before.ok:=wX (fun hn=>h2 (.inl ⟨hh,hn⟩));rw [LX hh]at this;exact this.2
  |false=>
   cases hs:c.has with
   |true=>
    have:c.after.ok:=wX (fun hn=>h2 (.inr ⟨hs,hn⟩));rw [Je hs]at this;exact this.2
   |false=>exact absurd (.inl ⟨by rw [hh];decide,by rw [hs];decide⟩) h1
 exact ⟨oL (by show _≤c.t∧c.t≤_;omega),oL (by show _≤c.k∧c.k≤_;omega)⟩
theorem QI(c:Chg):Az Tryz.prog 108 #[.agg #[I4 c.t,I4 c.k,.bool c.had,I4 c.o.a,I4 c.o.b,I4 c.o.c,.bool c.has,I4 c.n.a,I4 c.n.b,I4 c.n.c]] [] (.tuple #[.agg #[I4 (EN c c.has c.n).t,I4 (EN c c.has c.n).k,I4 (EN c c.has c.n).v.a,I4 (EN c c.has c.n).v.b,I4 (EN c c.has c.n).v.c],.bool c.has]):=by
 refine Se func108 ntmps108 [0] ?_;intro u R;refine Zq<|Zg<|Ze (Bx #[_,_,_,_,_,_,_,_,_,_]) ?_;rintro _ _ ⟨b1,rfl,rfl⟩;refine Ze (Al zeroValue113 #[_,_,_,_,_]) ?_;rintro _ _ ⟨b2,rfl,rfl⟩;refine Za Y<|Z0<|Zx<|Zq<|Zg<|Zo Wh (Pa #[_,_,_,_,_,_,_,_,_,_] isAgg77 sizeOf77 Y) ?_;refine Zh 6 underlying77 rfl rfl sizeOf4 Y<|Zl isAgg4 Y ?_;refine Zh 7 underlying77 rfl rfl sizeOf75 Y<|Zo Wh (Pa #[_,_,_] isAgg75 sizeOf75 Y) ?_;refine Xr [_,_,_] Y call206 Y rfl (UN c c.has c.n) ?_;refine Zd Y rfl<|Zd Y rfl<|Xe (Xw sizeOf113 _) ?_;refine Za Y<|Z0<|Zn [2,3] ?_;refine Zx<|AA ?_;refine Be rfl results108 Y Wh (Ah isAgg113 sizeOf113 Wn (rfl)) Y (by exact ⟨rfl,rfl⟩)
theorem iE:CQ Tryz.prog 43 #[] [] (fun r H'=>∃sp mb,r=I5 sp∧H'=[[(sp,.cells #[.map (some mb),I4 0] 175 (0,0))],[(mb,.map #[] 0)]]):=by
 refine Se func43 ntmps43 [] ?_;intro u R;refine Zq<|Zg<|Za Y<|Z0<|Zx<|Zq<|Zg<|Ze (O3) ?_;rintro _ _ ⟨mb,rfl,rfl⟩;refine Zv (BL (vs:=[(0,_)]) (cs:=#[_,_]) Y (Ab (pl:=#[(0,1),(1,1)]) zeroValue173 underlying173 (fun _=>by kernel_rfl) rfl)) ?_;refine Zv (BL (vs:=[(0,_)]) (cs:=#[_,_]) Y (Ab (pl:=#[(0,2)]) zeroValue175 underlying175 (fun _=>by kernel_rfl) rfl)) ?_;refine Ze (Bx #[_,_]) ?_;rintro _ _ ⟨sp,rfl,rfl⟩;refine Za Y<|Z0<|Zx<|AA ?_;refine AJ rfl results43 Y (by exact ⟨sp,mb,rfl,rfl⟩)
theorem mP(sp mb:Nat)(p rp:Int)(es:Array MapEntry)(ck:Nat)(lm:List ((Int×Int)×Value))(rs:List AQ)(M:List AU)(q:Option Addr)(cap:Nat)(cs:List Chg)(hm:Ey K2 es ck lm)(hR:G9 lm rs)(hO:Dm M (.slice q cs.length cap) cs)(hs:BJ rs)(hn:rs.length≤2000)(hA:MQ rs p rp cs):
 Az Tryz.prog 107 #[I5 sp,.agg #[I4 rp,.slice q cs.length cap]] [[(sp,.cells #[.map (some mb),I4 p] 175 (0,0))],[(mb,.map es ck)],M] (.bool true):=by
 have hml:=mL;obtain ⟨p9,cap9,e9,hol,hg⟩:=id hO;injection e9 with e91 e92 e93
 subst e91 e93;have hok:=hA.ok
 have hpo:=hA.pos;have hcl:=hok.len
 have hrp:=hok.pos;have hasc:=Ra hok.ord
 have hln:=hR.len hm hs;refine Se func107 ntmps107 [0,1] ?_;intro u R;refine Zq<|Zg<|Ze (Bx #[_,_]) ?_;rintro _ _ ⟨b1,rfl,rfl⟩;refine Za Y<|Z0<|Zx<|Zq<|Zq<|BK (n:=14) (0::1::3::7::15::31::15::79::207::463::975::1999::4095::8191::[]) 2 (by kernel_rfl) (by kernel_rfl) rfl ?_;refine D9 (D':=1) 0 rfl rfl rfl Wh (Pa #[_,_] isAgg73 sizeOf73 Y) ?_;refine Yw 1 3 rfl (Zu [_] Y call205 Y rfl (OA rp q cap cs M hO)) ?_;rintro _ _ ⟨rfl,rfl⟩;rw [decide_eq_true hok];refine Zi 7 2 rfl (Cg Y)<|Zi 15 3 rfl (AL Y) ?_;refine Cc (t:=13) Y (fun h1=>?_) (fun h1=>?_)
 ·
  first|rw [decide_eq_true h1]|rw [h1]|skip
  cases h1
 first|rw [decide_eq_false h1]|rw [h1]|skip
 refine Ai (D':=31) 4 Y rfl rfl rfl (AY (off:=0) underlying73 rfl rfl sizeOf3 Y) ?_;refine Bn (D':=63) 5 Y rfl rfl rfl Wh (Bh isAgg3 Y (by rfl)) ?_;refine Ai (D':=127) 6 Y rfl rfl rfl (AL Y) ?_;refine Ai (D':=255) 7 Y rfl rfl rfl (EB Y rfl) ?_;refine Ai (D':=511) 8 Y rfl rfl rfl (AY (off:=0) underlying175 rfl rfl sizeOf173 Y) ?_;refine Ai (D':=1023) 9 Y rfl rfl rfl (BI (off:=1) underlying173 rfl rfl sizeOf3 Y) ?_;refine Bn (D':=2047) 10 Y rfl rfl rfl Wh (Bh isAgg3 Y (by rfl)) ?_
 (refine Ai (D':=4095) 11 Y rfl rfl rfl (JX Y Y (IntWalk.i64_in _ ?_)) ?_;(focus (omega)))
 refine Ai (D':=8191) 12 Y rfl rfl rfl (IX Y Y) ?_;refine Zi 16383 13 rfl (AC Y Y)<|Ao ?_;refine Zn [0,3,23] ?_;refine Zx ?_;refine Aq Y (fun h2=>?_) (fun h2=>?_)
 ·
  exfalso;contradiction
 refine AB<|Zx<|Zq<|Zg<|Zm Y<|Zp Y rfl<|Zh 0 underlying175 rfl rfl sizeOf173 Y<|Zv (BI (off:=0) underlying173 rfl rfl sizeOf171 Y)<|Zl isAgg171 Y ?_;refine Zo Wh (dK underlying171 hm Y) ?_;refine Za Y<|Z0<|Zx<|Zq<|Zq<|Zg<|Zh 1 underlying73 rfl rfl sizeOf71 Y<|Zl isAgg71 Y ?_;refine Zv (AV underlying71 Y)<|Zm Y<|Z0<|Zx<|AR<|Zb [5,33,0,31,32] ?_;refine BB (e0:=[(5,_),(33,_)]) (fun m e H=>∃(i:Nat),m=cs.length -i∧(i≤cs.length)∧e=[(5,I4 (GX rs (cs.take i))),(33,I4 (i:Int))]∧H=[]) (by exact ⟨0,rfl,uK _,by rw [hln];rfl,rfl⟩) Wp ?_;rintro _ _ _ ⟨i,rfl,hi,rfl,rfl⟩;have hsl:=NI rs cs i
 refine Zq<|Zg<|Zv (Av Y Y)<|Z0<|Zx<|Zq ?_;refine Aq Y (fun hlt=>?_) (fun hlt=>?_)
 ·
  obtain ⟨x,hx⟩:∃x,cs[i]?=some x:=⟨_,tq hlt⟩;obtain ⟨g,off,cur,T,zz,rfl,hm9,hsz,hex⟩:=hg i x hx;have hxo:=hok.all i x hx
  have hkd:=l6 hxo;obtain ⟨hf1,hf2⟩:=hA.fit x (uI hx);have hget:=hR.get hm hs x.t x.k
  obtain ⟨gr,hgr⟩:∃gr,gr=Fe rs x.t x.k:=⟨_,rfl⟩;rw [←hgr]at hget hf1 hf2;clear hgr;refine AB<|Zx<|Zq<|AR<|Zq<|Zg ?_;refine BO (Ac underlying71 sizeOf77 Y Y (by first|omega|decide|(simp;done))) ?_;refine Cm (cs:=[(g,.cells cur T zz)]) (by simp [hm9]) (AZ (cs:=#[I4 x.t,I4 x.k,.bool x.had,I4 x.o.a,I4 x.o.b,I4 x.o.c,.bool x.has,I4 x.n.a,I4 x.n.b,I4 x.n.c]) isAgg77 sizeOf77 Y (by omega) hex) rfl rfl ?_;refine Ze (Al zeroValue77 #[_,_,_,_,_,_,_,_,_,_]) ?_;rintro _ _ ⟨cb,rfl,rfl⟩;refine Xe (Xw sizeOf77 #[I4 x.t,I4 x.k,.bool x.had,I4 x.o.a,I4 x.o.b,I4 x.o.c,.bool x.has,I4 x.n.a,I4 x.n.b,I4 x.n.c]) ?_;refine Z0<|Zx<|Zq<|BK (n:=17) (0::1::3::7::15::0::32::0::128::480::1023::2047::4095::4095::0::24575::65535::[]) 49152 (by kernel_rfl) (by kernel_rfl) rfl ?_;refine Zi 1 0 rfl (AL Y)<|Zi 3 1 rfl (EB Y rfl)<|Zi 7 2 rfl (AY (off:=0) underlying175 rfl rfl sizeOf173 Y)<|Zi 15 3 rfl (BI (off:=0) underlying173 rfl rfl sizeOf171 Y)<|Zj 31 4 rfl isAgg171 Y ?_;refine Zi 63 5 rfl (AY (off:=0) underlying77 rfl rfl sizeOf3 Y)<|Zj 127 6 rfl isAgg3 Y ?_;refine Zi 255 7 rfl (AY (off:=1) underlying77 rfl rfl sizeOf3 Y)<|Zj 511 8 rfl isAgg3 Y ?_;refine Zi 1023 9 rfl (BL (vs:=[(0,_),(1,_)]) (cs:=#[_,_]) Y (Ab (pl:=#[(0,1),(1,1)]) zeroValue178 underlying178 (fun _=>by kernel_rfl) rfl)) ?_;refine D9 (D':=2047) 10 rfl rfl rfl Wh (OX kE underlying171 zeroValue113 hm hR.keys (hkd) (hget) Y Y) ?_;refine Zi 4095 11 rfl (AL Y)<|Zi 8191 12 rfl (Bd Y rfl)<|Zi 16383 13 rfl (Bd Y rfl)<|Zz (l:=[14]) ?_;refine Zy 0 32767 [10,8,6,4] [true,true,true,true] [(10,(_,_)),(8,(_,_)),(6,(_,_)),(4,(_,_))] rfl Y rfl rfl rfl rfl (Al zeroValue113 #[_,_,_,_,_]) ?hk_3 (fun _ _ h=>h.elim) ?hl_3
  case hk_3=>
   rintro _ _ ⟨ob,rfl,rfl⟩;refine ⟨Zk (Zk (Zk (Zk (Ad)))),?_⟩;refine Yw 15 65535 rfl (Xw sizeOf113 #[I4 gr.1.t,I4 gr.1.k,I4 gr.1.v.a,I4 gr.1.v.b,I4 gr.1.v.c]) ?_;rintro _ _ ⟨rfl,rfl⟩;refine Zi 131071 16 rfl (Au Y)<|Ao ?_;refine Zn [0,5,7,8,9,31,32,33] ?_;refine Zx<|Zq<|Zq<|Zg<|Zm Y<|Zh 2 underlying77 rfl rfl sizeOf4 Y<|Zl isAgg4 Y ?_;refine Zv (JA underlying4 Y Y)<|Zm Y ?_;refine Aj (t:=55) Y rfl (fun hd1=>?_) (fun hd1=>?_)
   ·
    exfalso;contradiction
   refine Zf Y Y<|Zf Y Y ?_;refine Ak (t:=57) Y rfl (fun hd2=>?_) (fun hd2=>?_)
   ·
    refine Yf 2 underlying113 rfl rfl sizeOf75 Y<|D8 Y Wh (Pa #[_,_,_] isAgg75 sizeOf75 Y) rfl rfl ?_;refine Yf 3 underlying77 rfl rfl sizeOf75 Y<|D8 Y Wh (Pa #[_,_,_] isAgg75 sizeOf75 Y) rfl rfl ?_;refine Yg (KN (by kernel_rfl) underlying75 underlying3 isAgg3 sizeOf3 Y Y) ?_;refine Yg (AO Y Y)<|Zv (AC Y Y)<|Z0<|Zn [0,5,7,31,32,33,64] ?_;refine Zx ?_;refine Aq Y (fun hd3=>?_) (fun hd3=>?_)
    ·
     exfalso;exact hd3 (hf2 hd2)
    refine AB<|Zx<|Zq<|Zq<|Zg<|Zh 2 underlying77 rfl rfl sizeOf4 Y<|Zl isAgg4 Y ?_;refine Z0<|Zx ?_;refine Ag Y (fun hh1=>?_) (fun hh1=>?_)
    ·
     refine Zg<|Zm Y ?_
     (refine BO (GM Y Y (IntWalk.i64_in _ ?_)) ?_;(focus (omega)))
     refine Za Y<|Z0<|Zx<|Zq<|Zg<|Zh 6 underlying77 rfl rfl sizeOf4 Y<|Zl isAgg4 Y ?_;refine Z0<|Zx ?_;refine Ag Y (fun hh2=>?_) (fun hh2=>?_)
     ·
      refine Zg<|Zm Y<|Yi Y Y<|Za Y<|Z0<|A8<|Zx<|Zg<|Ya (n:=1) Y Y<|Zm Y<|Z0<|Zn [5,33,0,31,32] ?_;refine Aa (e':=[(5,_),(33,_)]) (by exact ⟨i+1,rfl,by omega,by rw [ZR hx hh1 hh2],rfl⟩)
     refine AB<|A8<|Zx<|Zg<|Ya (n:=1) Y Y<|Zm Y<|Z0<|Zn [5,33,0,31,32] ?_;refine Aa (e':=[(5,_),(33,_)]) (by exact ⟨i+1,rfl,by omega,by rw [ZT hx hh1 hh2],rfl⟩)
    refine AB<|Zx<|Zq<|Zg<|Zh 6 underlying77 rfl rfl sizeOf4 Y<|Zl isAgg4 Y ?_;refine Z0<|Zx ?_;refine Ag Y (fun hh2=>?_) (fun hh2=>?_)
    ·
     refine Zg<|Zm Y<|Yi Y Y<|Za Y<|Z0<|A8<|Zx<|Zg<|Ya (n:=1) Y Y<|Zm Y<|Z0<|Zn [5,33,0,31,32] ?_;refine Aa (e':=[(5,_),(33,_)]) (by exact ⟨i+1,rfl,by omega,by rw [ZU hx hh1 hh2],rfl⟩)
    refine AB<|A8<|Zx<|Zg<|Ya (n:=1) Y Y<|Zm Y<|Z0<|Zn [5,33,0,31,32] ?_;refine Aa (e':=[(5,_),(33,_)]) (by exact ⟨i+1,rfl,by omega,by rw [ZV hx hh1 hh2],rfl⟩)
   refine A7 Y rfl<|A7 Y rfl<|A7 Y rfl<|A7 Y rfl<|A7 Y rfl<|Yg (AC Y Y)<|Zv (AC Y Y)<|Z0<|Zn [0,5,7,31,32,33,64] ?_;refine Zx<|Dn Y<|AB<|Zx<|Zq<|Zq<|Zg<|Zh 2 underlying77 rfl rfl sizeOf4 Y<|Zl isAgg4 Y ?_;refine Z0<|Zx ?_;refine Ag Y (fun hh1=>?_) (fun hh1=>?_)
   ·
    refine Zg<|Zm Y ?_
    (refine BO (GM Y Y (IntWalk.i64_in _ ?_)) ?_;(focus (omega)))
    refine Za Y<|Z0<|Zx<|Zq<|Zg<|Zh 6 underlying77 rfl rfl sizeOf4 Y<|Zl isAgg4 Y ?_;refine Z0<|Zx ?_;refine Ag Y (fun hh2=>?_) (fun hh2=>?_)
    ·
     refine Zg<|Zm Y<|Yi Y Y<|Za Y<|Z0<|A8<|Zx<|Zg<|Ya (n:=1) Y Y<|Zm Y<|Z0<|Zn [5,33,0,31,32] ?_;refine Aa (e':=[(5,_),(33,_)]) (by exact ⟨i+1,rfl,by omega,by rw [ZR hx hh1 hh2],rfl⟩)
    refine AB<|A8<|Zx<|Zg<|Ya (n:=1) Y Y<|Zm Y<|Z0<|Zn [5,33,0,31,32] ?_;refine Aa (e':=[(5,_),(33,_)]) (by exact ⟨i+1,rfl,by omega,by rw [ZT hx hh1 hh2],rfl⟩)
   refine AB<|Zx<|Zq<|Zg<|Zh 6 underlying77 rfl rfl sizeOf4 Y<|Zl isAgg4 Y ?_;refine Z0<|Zx ?_;refine Ag Y (fun hh2=>?_) (fun hh2=>?_)
   ·
    refine Zg<|Zm Y<|Yi Y Y<|Za Y<|Z0<|A8<|Zx<|Zg<|Ya (n:=1) Y Y<|Zm Y<|Z0<|Zn [5,33,0,31,32] ?_;refine Aa (e':=[(5,_),(33,_)]) (by exact ⟨i+1,rfl,by omega,by rw [ZU hx hh1 hh2],rfl⟩)
   refine AB<|A8<|Zx<|Zg<|Ya (n:=1) Y Y<|Zm Y<|Z0<|Zn [5,33,0,31,32] ?_;refine Aa (e':=[(5,_),(33,_)]) (by exact ⟨i+1,rfl,by omega,by rw [ZV hx hh1 hh2],rfl⟩)
  exact Ap
 have ei:i=cs.length:=by omega
 subst ei;rw [ug]at hsl⊢;refine Aw<|Zt<|Zt<|AP<|Zx<|Zq<|Zg<|Zm Y<|Zv (LA Y Y)<|Za Y<|Z0<|Zx<|AA ?_;refine AJ rfl results107 Y (by exact ⟨by rw [decide_eq_true hA.size],rfl⟩)
theorem iF(sp mb:Nat)(p rp:Int)(es:Array MapEntry)(ck:Nat)(lm:List ((Int×Int)×Value))(rs:List AQ)(M:List AU)(q:Option Addr)(cap:Nat)(cs:List Chg)(hm:Ey K2 es ck lm)(hR:G9 lm rs)(hO:Dm M (.slice q cs.length cap) cs)(hs:BJ rs)(hn:rs.length≤2000)(hA:MQ rs p rp cs):
 CQ Tryz.prog 46 #[I5 sp,.agg #[I4 rp,.slice q cs.length cap]] [[(sp,.cells #[.map (some mb),I4 p] 175 (0,0))],[(mb,.map es ck)],M] (fun r H'=>r=I4 0∧∃es' ck' lm',Ey K2 es' ck' lm'∧G9 lm' (DN rs cs)∧H'=[[(sp,.cells #[.map (some mb),I4 rp] 175 (0,0))],[(mb,.map es' ck')],M]):=by
 have hml:=mL;obtain ⟨p9,cap9,e9,hol,hg⟩:=id hO;injection e9 with e91 e92 e93
 subst e91 e93;have hok:=hA.ok
 have hpo:=hA.pos;have hcl:=hok.len
 have hrp:=hok.pos;have hasc:=Ra hok.ord
 refine Se func46 ntmps46 [0,1] ?_;intro u R;refine Zq<|Zg<|Ze (Bx #[_,_]) ?_;rintro _ _ ⟨b1,rfl,rfl⟩;refine Za Y<|Z0<|Zx<|Zq<|AR<|Zq<|Zg<|Zm Y<|Zv (EI underlying33 Y Y)<|Za Y<|Z0<|Zx ?_;refine Ag Y (fun h1=>?_) (fun h1=>?_)
 ·
  cases h1
 refine Zq<|Zg<|Zm Y<|Zo Wh (Pa #[_,_] isAgg73 sizeOf73 Y) ?_;refine Xr [_,_] Y call107 Y rfl (mP sp mb p rp es ck lm rs M q cap cs hm hR hO hs hn hA) ?_;refine Zv (Cg Y)<|Za Y<|Z0<|Zx ?_;refine Ag Y (fun h2=>?_) (fun h2=>?_)
 ·
  cases h2
 refine AB<|A8<|Zx<|Zq<|Zq<|Zg<|Zh 1 underlying73 rfl rfl sizeOf71 Y<|Zl isAgg71 Y ?_;refine Zv (AV underlying71 Y)<|Zm Y<|Z0<|Zn [0,3,19,20,21] ?_;refine Zx<|AR<|Zb [21,0,3,19,20] ?_;refine BB (e0:=[(21,_)]) (fun m e H=>∃(i:Nat) (es:Array MapEntry) (ck:Nat) (lm:List ((Int×Int)×Value)),m=cs.length -i∧(i≤cs.length∧Ey K2 es ck lm∧G9 lm (DN rs (cs.take i)))∧e=[(21,I4 (i:Int))]∧H=[[(mb,.map es ck)]]) (by exact ⟨0,es,ck,lm,rfl,⟨uK _,hm,by rw [vI];exact hR⟩,rfl,rfl⟩) Wp ?_;rintro _ _ _ ⟨i,es1,ck1,lm1,rfl,⟨hi,hm1,hR1⟩,rfl,rfl⟩;refine Zq<|Zg<|Zv (Av Y Y)<|Z0<|Zx<|Zq ?_;refine Aq Y (fun hlt=>?_) (fun hlt=>?_)
 ·
  obtain ⟨x,hx⟩:∃x,cs[i]?=some x:=⟨_,tq hlt⟩;obtain ⟨g,off,cur,T,zz,rfl,hm9,hsz,hex⟩:=hg i x hx;have hxo:=hok.all i x hx
  have hkd:=l6 hxo;obtain ⟨hso,hfi⟩:=K6 hs hasc hA.fit i hi;have hfx:=hfi i x (uG _) hx
  refine AB<|Zx<|Zq<|AR<|Zq<|Zg ?_;refine BO (Ac underlying71 sizeOf77 Y Y (by first|omega|decide|(simp;done))) ?_;refine Cm (cs:=[(g,.cells cur T zz)]) (by simp [hm9]) (AZ (cs:=#[I4 x.t,I4 x.k,.bool x.had,I4 x.o.a,I4 x.o.b,I4 x.o.c,.bool x.has,I4 x.n.a,I4 x.n.b,I4 x.n.c]) isAgg77 sizeOf77 Y (by omega) hex) rfl rfl ?_;refine Ze (Al zeroValue77 #[_,_,_,_,_,_,_,_,_,_]) ?_;rintro _ _ ⟨cb,rfl,rfl⟩;refine Xe (Xw sizeOf77 #[I4 x.t,I4 x.k,.bool x.had,I4 x.o.a,I4 x.o.b,I4 x.o.c,.bool x.has,I4 x.n.a,I4 x.n.b,I4 x.n.c]) ?_;refine Z0<|Zx<|Zq<|Zg<|Zh 0 underlying77 rfl rfl sizeOf3 Y<|Zl isAgg3 Y ?_;refine Zh 1 underlying77 rfl rfl sizeOf3 Y<|Zl isAgg3 Y ?_;refine Zv (BL (vs:=[(0,_),(1,_)]) (cs:=#[_,_]) Y (Ab (pl:=#[(0,1),(1,1)]) zeroValue178 underlying178 (fun _=>by kernel_rfl) rfl)) ?_;refine Ze (Al zeroValue178 #[_,_]) ?_;rintro _ _ ⟨kb,rfl,rfl⟩;refine Xe (BQ sizeOf178 Y Y (by(simp [Value.oneCell',Value.cells];done)) Wu (by exact (rfl:_=(#[I4 x.t,I4 x.k]:Array Value))) (by first|rfl|(simp;done)) Wb (by exact BS _)) ?_;refine Z0<|Zx<|Zq<|Zg<|Zo Wh (Pa #[_,_,_,_,_,_,_,_,_,_] isAgg77 sizeOf77 Y) ?_;refine Xr [_] Y call108 Y rfl (QI x) ?_;refine Zm Y<|Zd Y rfl<|Zd Y rfl<|Ze (Al zeroValue113 #[_,_,_,_,_]) ?_;rintro _ _ ⟨xb,rfl,rfl⟩;refine Xe (Xw sizeOf113 #[I4 (EN x x.has x.n).t,I4 (EN x x.has x.n).k,I4 (EN x x.has x.n).v.a,I4 (EN x x.has x.n).v.b,I4 (EN x x.has x.n).v.c]) ?_;refine Za Y<|Z0<|Zn [0,3,7,8,9,19,20,21] ?_;refine Zx<|Zq<|Zg<|Zm Y<|Z0<|Zx ?_;refine Ag Y (fun hh=>?_) (fun hh=>?_)
  ·
   rw [kG hh];refine BK (n:=8) (0::1::3::7::15::0::0::127::[]) 128 (by kernel_rfl) (by kernel_rfl) rfl ?_;refine Zi 1 0 rfl (AL Y)<|Zi 3 1 rfl (EB Y rfl)<|Zi 7 2 rfl (AY (off:=0) underlying175 rfl rfl sizeOf173 Y)<|Zi 15 3 rfl (BI (off:=0) underlying173 rfl rfl sizeOf171 Y)<|Zj 31 4 rfl isAgg171 Y ?_;refine D9 (D':=63) 5 rfl rfl rfl Wh (Pa #[_,_] isAgg178 sizeOf178 Y) ?_;refine D9 (D':=127) 6 rfl rfl rfl Wh (Pa #[_,_,_,_,_] isAgg113 sizeOf113 Y) ?_;refine Yw 7 255 rfl (Kq kE underlying171 hm1 hR1.keys (hkd) Y Y Y Wo) ?_;rintro _ _ ⟨rfl,es2,ck2,lm2,hm2,hp2,rfl⟩;have hR2:G9 lm2 (DN rs (cs.take (i+1))):=by rw [EF rs cs i x hx];exact hR1.put hso hfx hh hkd hp2
   refine Ao ?_;refine A8<|Zx<|Zg<|Ya (n:=1) Y Y<|Zm Y<|Z0<|Zn [21,0,3,19,20] ?_;refine Aa (e':=[(21,_)]) (by exact ⟨i+1,es2,ck2,lm2,rfl,⟨by omega,hm2,hR2⟩,rfl,rfl⟩)
  refine BK (n:=7) (0::1::3::7::15::0::63::[]) 64 (by kernel_rfl) (by kernel_rfl) rfl ?_;refine Zi 1 0 rfl (AL Y)<|Zi 3 1 rfl (EB Y rfl)<|Zi 7 2 rfl (AY (off:=0) underlying175 rfl rfl sizeOf173 Y)<|Zi 15 3 rfl (BI (off:=0) underlying173 rfl rfl sizeOf171 Y)<|Zj 31 4 rfl isAgg171 Y ?_;refine D9 (D':=63) 5 rfl rfl rfl Wh (Pa #[_,_] isAgg178 sizeOf178 Y) ?_;refine Yw 6 127 rfl (gH kE underlying171 hm1 hR1.keys (hkd) Y Y Wo) ?_;rintro _ _ ⟨rfl,es2,ck2,lm2,hm2,hp2,rfl⟩;have hR2:G9 lm2 (DN rs (cs.take (i+1))):=by rw [EF rs cs i x hx];exact hR1.drop hso hfx hh hp2
  refine Ao ?_;refine A8<|Zx<|Zg<|Ya (n:=1) Y Y<|Zm Y<|Z0<|Zn [21,0,3,19,20] ?_;refine Aa (e':=[(21,_)]) (by exact ⟨i+1,es2,ck2,lm2,rfl,⟨by omega,hm2,hR2⟩,rfl,rfl⟩)
 have ei:i=cs.length:=by omega
 subst ei;rw [ug]at hR1;refine Aw<|Zt<|Zt<|AP<|Zx<|Zq<|Zg<|Zm Y<|Zh 0 underlying73 rfl rfl sizeOf3 Y<|Zl isAgg3 Y ?_;refine Zp Y rfl<|Zh 0 underlying175 rfl rfl sizeOf173 Y<|Zv (BI (off:=1) underlying173 rfl rfl sizeOf3 Y)<|Xe (Zs sizeOf3 Y Y rfl (hc:=by exact (rfl:_=(#[.map (some mb),I4 rp]:Array Value))) (hi:=by first|omega|decide|(simp;done))) ?_;refine Z0<|Zx<|Zq<|Zg<|Za Y<|Z0<|Zx<|AA ?_;refine AJ rfl results46 Y (by exact ⟨rfl,es1,ck1,lm1,hm1,hR1,rfl⟩)
theorem ql(q:Option Addr)(cap:Nat)(l:List Bq)(M:List AU)(hRI:DW M (.slice q l.length cap) l)(hlog:DY l)(hl:l.length≤1000000)(k:Nat)(hk:k≤l.length):
 CQ Tryz.prog 13 #[.slice q l.length cap,I4 (k:Int)] [M] (fun r H'=>∃sp mb es ck lm,r= .tuple #[I5 sp,I4 0]∧Ey K2 es ck lm∧G9 lm (BU (l.take k))∧H'=[[(sp,.cells #[.map (some mb),I4 (k:Int)] 175 (0,0))],[(mb,.map es ck)],M]):=by
 have hml:=mL;obtain ⟨p9,cap9,e9,⟨hol,hlc⟩,hg⟩:=id hRI;injection e9 with e91 e92 e93
 subst e91 e93;refine Se func13 ntmps13 [0,1] ?_;intro u R;refine Zq<|Zg<|Za Y<|Za Y<|Z0<|Zx<|Zq<|Zq<|Zg<|Zm Y<|Zv (Av (n:=0) Y Y)<|Zm Y ?_;refine Aj (t:=11) Y rfl (fun h1=>?_) (fun h1=>?_)
 ·
  exfalso;(cases h1;done)
 refine Zf Y Y<|Zf Y Y<|Yg (AV underlying28 Y)<|Yg (DU Y Y)<|Zv (AC Y Y)<|Z0<|Zx ?_;refine Aq Y (fun h2=>?_) (fun h2=>?_)
 ·
  exfalso;omega
 refine AB<|Zx<|Zq<|Zg<|Zc [] Y call43 Y rfl (iE) ?_;rintro _ _ ⟨_,⟨sp,mb,rfl,rfl⟩,rfl⟩;refine Za Y<|Z0<|Zx<|Zq<|Zq<|Zg<|Zm Y<|Zm Y ?_;refine BO (Bj underlying28 sizeOf73 Y Y (by first|omega|decide|(simp;done))) ?_;refine Zv (AV underlying28 Y)<|Zm Y<|Z0<|Zn [6,20,21,22] ?_;refine Zx<|AR<|Zb [22,6,20,21] ?_;refine BB (e0:=[(22,_)]) (fun m e H=>∃(i:Nat) (es:Array MapEntry) (ck:Nat) (lm:List ((Int×Int)×Value)),m=k -i∧(i≤k∧Ey K2 es ck lm∧G9 lm (BU (l.take i)))∧e=[(22,I4 (i:Int))]∧H=[[(sp,.cells #[.map (some mb),I4 (i:Int)] 175 (0,0))],[(mb,.map es ck)]]) (by exact ⟨0,#[],0,[],rfl,⟨uK _,Qy _,by rw [vI];exact jW⟩,rfl,rfl⟩) Wp ?_;rintro _ _ _ ⟨i,es,ck,lm,rfl,⟨hi,hm,hR⟩,rfl,rfl⟩;refine Zq<|Zg<|Zv (Av Y Y)<|Z0<|Zx<|Zq ?_;refine Aq Y (fun hlt=>?_) (fun hlt=>?_)
 ·
  obtain ⟨r,hr⟩:∃r,l[i]?=some r:=⟨_,tq (by omega)⟩;obtain ⟨hOr,g,off,cur,T,zz,rfl,hm9,hsz,hex⟩:=hg i r hr;obtain ⟨hA,h3⟩:=hlog i r hr;have hrp:=hA.pos
  obtain ⟨hso,hle⟩:=hlog.rows i (by omega);refine AB<|Zx<|Zq<|AR<|Zq<|Zg ?_;refine BO (Ac underlying28 sizeOf73 Y Y (by first|omega|decide|(simp;done))) ?_;refine Cm (cs:=[(g,.cells cur T zz)]) (by simp [hm9]) (AZ (cs:=#[I4 r.p,.slice r.q r.cs.length r.cap]) isAgg73 sizeOf73 Y (by omega) hex) rfl rfl ?_;refine Ze (Al zeroValue73 #[_,_]) ?_;rintro _ _ ⟨rb,rfl,rfl⟩;refine Xe (Xw sizeOf73 #[I4 r.p,.slice r.q r.cs.length r.cap]) ?_;refine Z0<|Zx<|Zq<|Zg<|Zm Y<|Zo Wh (Pa #[_,_] isAgg73 sizeOf73 Y) ?_;refine Zc [_,_] Y call46 Y rfl (iF sp mb (i:Int) r.p es ck lm (BU (l.take i)) M r.q r.cap r.cs hm hR hOr hso hle hA) ?_;rintro _ _ ⟨_,⟨rfl,es2,ck2,lm2,hm2,hR2,rfl⟩,rfl⟩;have hR3:G9 lm2 (BU (l.take (i+1))):=by rw [vW,hr];show G9 lm2 (BU (l.take i++[r]));rw [FO];exact hR2
  rw [show r.p=((i+1:Nat):Int) by rw [hrp];rfl];refine Zv (Dj (n:=0) Y Y)<|Z0<|Zx ?_;refine Aq Y (fun h4=>?_) (fun h4=>?_)
  ·
   exfalso;exact h4 rfl
  refine AB<|A8<|Zx<|Zg<|Ya (n:=1) Y Y<|Zm Y<|Z0<|Zn [22,6,20,21] ?_;refine Aa (e':=[(22,_)]) (by exact ⟨i+1,es2,ck2,lm2,rfl,⟨by omega,hm2,hR3⟩,rfl,rfl⟩)
 have ei:i=k:=by omega
 subst ei;refine Aw<|Zt<|Zt<|AP<|Zx<|Zq<|Zg<|Zm Y<|Za Y<|Za Y<|Z0<|Zx<|AA ?_;refine Dh rfl results13 Y Y (by exact ⟨sp,mb,es,ck,lm,rfl,hm,hR,rfl⟩)
theorem Vw(sp:Nat)(p rp:Int)(v:Value)(rs:List AQ)(sv M:List AU)(q:Option Addr)(capc:Nat)(cs:List Chg)(hrow:BZ 5 113 v rs.length (Ae rs) sv)(hO:Dm M (.slice q cs.length capc) cs)(hs:BJ rs)(hn:rs.length≤2000)(hp:0≤p∧p≤10000)(hA:MQ rs p rp cs):
 CQ Tryz.prog 48 #[I5 sp,.agg #[I4 rp,.slice q cs.length capc]] [[(sp,.cells #[v,I4 p] 182 (0,0))],sv,M] (fun r H'=>r=I4 0∧∃v' sv',BZ 5 113 v' (DN rs cs).length (Ae (DN rs cs)) sv'∧H'=[[(sp,.cells #[v',I4 rp] 182 (0,0))],sv',M]):=
 KE.mono (Vx sp p rp v rs sv M q capc cs hrow hO hs hn hp) (fun r H' h=>by
  rcases h with⟨_,v',sv',rfl,h,rfl⟩|⟨h,_⟩
  · exact ⟨rfl,v',sv',h,rfl⟩
  · exact absurd hA h) (fun _ _ h=>h)
def DZ(r:AQ)(c:Nat):Int:=if c=0 then r.k else if c=1 then r.v.a else if c=2 then r.v.b else r.v.c
theorem mD{r:AQ}{c:Nat}(h1:1≤c)(h3:c≤3):(#[I4 r.t,I4 r.k,I4 r.v.a,I4 r.v.b,I4 r.v.c]:Array Value)[0+2+(c -1)]?=some (I4 (DZ r c)):=by
 rcases (by omega:c=1∨c=2∨c=3)with rfl|rfl|rfl<;>rfl
theorem Vy(r:AQ)(c:Nat)(hc:c≤3):Az Tryz.prog 58 #[.agg #[I4 r.t,I4 r.k,I4 r.v.a,I4 r.v.b,I4 r.v.c],I4 (c:Int)] [] (I4 (DZ r c)):=by
 refine Se func58 ntmps58 [0,1] ?_;intro u R;refine Zq<|Zg<|Ze (Bx #[_,_,_,_,_]) ?_;rintro _ _ ⟨b1,rfl,rfl⟩;refine Za Y<|Z0<|Zx<|Zq<|Zq<|Zg<|Zm Y<|Zv (CF (n:=0) Y Y)<|Z0<|Zx ?_;refine Aq Y (fun h0=>?_) (fun h0=>?_)
 ·
  refine Zq<|Zg<|Zh 1 underlying113 rfl rfl sizeOf3 Y<|Zl isAgg3 Y ?_;refine Za Y<|Z0<|Zx<|AA<|Zt ?_;refine AJ rfl results58 Y (by exact ⟨by unfold DZ;rw [if_pos (by omega)],rfl⟩)
 refine AB<|Zx<|Zq<|Zq<|Zg<|Zm Y<|Xr [_,_,_] Y call130 Y rfl (Iu (c:Int) 1 3) ?_;refine Z0<|Zx ?_;refine Aq Y (fun h1=>?_) (fun h1=>?_)
 ·
  refine Zq<|Zg<|Zm Y<|Yb (n:=1) Y Y<|Zh 2 underlying113 rfl rfl sizeOf75 Y ?_;refine BO (CY underlying75 sizeOf3 Y Y (by omega)) ?_;refine Zo Wh (Bh (v:=I4 (DZ r c)) isAgg3 Y (by simpa using mD (r:=r) (c:=c) (by omega) hc)) ?_;refine Za Y<|Z0<|Zx<|AA<|Zt ?_;refine AJ rfl results58 Y (by exact ⟨rfl,rfl⟩)
 refine AB<|Zx<|Zq<|Zg<|Za Y<|Z0<|Zx<|AA ?_;refine AJ rfl results58 Y (by exfalso;omega)
def OM(c:Nat)(out:List AQ)(v:Int):Nat:=(out.reverse.dropWhile (fun r=>decide (v<DZ r c))).length
theorem TJ{c:Nat}{out:List AQ}{v:Int}{k:Nat}(hk:k≤out.length)(h1:∀(j:Nat) (r:AQ),k≤j→out[j]?=some r→v<DZ r c)(h2:k=0∨∃r,out[k -1]?=some r∧DZ r c≤v):OM c out v=k:=by
 unfold OM;have e:out.reverse=(out.drop k).reverse++(out.take k).reverse:=by rw [←xG,uw]
 rw [e,List.dropWhile_append_of_pos]
 · rcases h2 with rfl|⟨r,hr,hv⟩
   · simp
   · have hlt:=(tu.1 hr).1
     rcases vV k with rfl|hp
     · simp
     · obtain ⟨m,rfl⟩:∃m,k=m+1:=⟨k -1,by omega⟩
       rw [wJ]at hr;rw [vW,hr];simp only [Option.toList,xG,List.reverse_cons,List.reverse_nil,vg,wU];rw [List.dropWhile_cons,if_neg (by simp;omega)];simp only [uJ,xx,uD];omega
 · intro r hr
   rw [yL]at hr;obtain ⟨j,hj⟩:=uq hr;rw [vK]at hj;simpa using h1 (k+j) r (by omega) hj
def S9(c:Nat)(out:List AQ)(x:AQ):List AQ:=out.take (OM c out (DZ x c))++[x]++out.drop (OM c out (DZ x c))
def inR(t:Int)(c:Nat)(lo hi:Int)(r:AQ):Bool:=decide (r.t=t∧lo≤DZ r c∧DZ r c≤hi)
def Cn(rs:List AQ)(t:Int)(c:Nat)(lo hi:Int):List AQ:=(rs.filter (inR t c lo hi)).foldl (S9 c) []
theorem bV{rs:List AQ}{t:Int}{c:Nat}{lo hi:Int}{i:Nat}{x:AQ}(hx:rs[i]?=some x)(h:x.t=t∧lo≤DZ x c∧DZ x c≤hi):Cn (rs.take (i+1)) t c lo hi=S9 c (Cn (rs.take i) t c lo hi) x:=by
 have h9:inR t c lo hi x=true:=decide_eq_true h;unfold Cn;rw [vW,hx];simp [vH,h9,wW]
theorem MX{rs:List AQ}{t:Int}{c:Nat}{lo hi:Int}{i:Nat}{x:AQ}(hx:rs[i]?=some x)(h:¬(x.t=t∧lo≤DZ x c∧DZ x c≤hi)):Cn (rs.take (i+1)) t c lo hi=Cn (rs.take i) t c lo hi:=by
 have h9:inR t c lo hi x=false:=decide_eq_false h;unfold Cn;rw [vW,hx];simp [vH,h9]
theorem iY(sp:Nat)(p:Int)(v:Value)(rs:List AQ)(sv:List AU)(t:Int)(c:Nat)(lo hi:Int)(hrow:BZ 5 113 v rs.length (Ae rs) sv)(hn:rs.length≤2000)(hc:c≤3):
 CQ Tryz.prog 56 #[I5 sp,I4 t,I4 (c:Int),I4 lo,I4 hi] [[(sp,.cells #[v,I4 p] 182 (0,0))],sv] (fun r H'=>∃so,BZ 5 113 r (Cn rs t c lo hi).length (Ae (Cn rs t c lo hi)) so∧H'=[so,[(sp,.cells #[v,I4 p] 182 (0,0))],sv]):=by
 have hml:=mL;obtain ⟨qv,capv,rfl⟩:=hrow.form;obtain ⟨p9,cap9,e9,hol,hg⟩:=Jo hrow (by omega);injection e9 with e91 e92 e93
 subst e91 e93;refine Se func56 ntmps56 [0,1,2,3,4] ?_;intro u R;refine Zq<|Zg<|Za Y<|Z0<|Zx<|Zq<|Zq<|Zg<|Zm Y<|Zv (Av (n:=0) Y Y)<|Zm Y ?_;refine Aj (t:=18) Y rfl (fun h1=>?_) (fun h1=>?_)
 ·
  exfalso;(cases h1;done)
 refine Zf Y Y<|Yg (Fa (n:=4) Y Y)<|Zv (AC Y Y)<|Z0<|Zx ?_;refine Aq Y (fun h2=>?_) (fun h2=>?_)
 ·
  exfalso;omega
 refine AB<|Zx<|Zq<|Zg<|Za Y<|Z0<|Zx<|Zq<|Zq<|Zg<|Za Y<|Z0<|Zx<|AR<|Bf ?_;refine Zb [11,12,0,1,2,3,4] ?_;refine BB (e0:=[(11,_),(12,_)]) (fun m e H=>∃(i:Nat) (o:List AQ) (w:Value) (so:List AU),m=rs.length -i∧(i≤rs.length∧o=Cn (rs.take i) t c lo hi∧o.length≤i∧BZ 5 113 w o.length (Ae o) so)∧e=[(11,w),(12,I4 (i:Int))]∧H=[so]) (by exact ⟨0,[],.slice none 0 0,[],rfl,⟨uK _,by rw [vI];rfl,uG _,Ba 5 _⟩,rfl,rfl⟩) Wp ?_;rintro _ _ _ ⟨i,o,w,so,rfl,⟨hi2,ho,hol2,hro⟩,rfl,rfl⟩;obtain ⟨qo,capo,rfl⟩:=hro.form;have hco:=FL hro
 refine Zq<|Zq<|Zg<|Zm Y<|Zm Y<|Zp Y rfl<|Zh 0 underlying182 rfl rfl sizeOf45 Y<|Zl isAgg45 Y ?_;refine Zv (AV underlying45 Y)<|Zv (Av Y Y)<|Z0<|Zx ?_;refine Aq Y (fun hlt=>?_) (fun hlt=>?_)
 ·
  obtain ⟨x,hx⟩:∃x,rs[i]?=some x:=⟨_,tq hlt⟩;obtain ⟨g,off,cur,T,zz,rfl,hm9,hsz,hex⟩:=hg i x hx;refine AB<|Zx<|Zq<|AR<|Zq<|Zg<|Zm Y<|Zp Y rfl<|Zh 0 underlying182 rfl rfl sizeOf45 Y<|Zl isAgg45 Y ?_;refine Zm Y ?_;refine BO (Ac underlying45 sizeOf113 Y Y (by omega)) ?_;refine Cm (cs:=[(g,.cells cur T zz)]) (by simp [hm9]) (AZ (cs:=#[I4 x.t,I4 x.k,I4 x.v.a,I4 x.v.b,I4 x.v.c]) isAgg113 sizeOf113 Y (by omega) hex) rfl rfl ?_;refine Ze (Al zeroValue113 #[_,_,_,_,_]) ?_;rintro _ _ ⟨xb,rfl,rfl⟩;refine Xe (Xw sizeOf113 #[I4 x.t,I4 x.k,I4 x.v.a,I4 x.v.b,I4 x.v.c]) ?_;refine Z0<|Zn [0,1,2,3,4,11,12,13] ?_;refine Zx<|Zq<|Zg<|Zo Wh (Pa #[_,_,_,_,_] isAgg113 sizeOf113 Y) ?_;refine Zm Y<|Xr [_,_] Y call58 Y rfl (Vy x c hc) ?_;refine Za Y<|Z0<|Zx<|Zq<|Zq<|Zg<|Zh 0 underlying113 rfl rfl sizeOf3 Y<|Zl isAgg3 Y ?_;refine Zm Y<|Zv (IX Y Y)<|Zm Y ?_;refine Aj (t:=45) Y rfl (fun hg1=>?_) (fun hg1=>?_)
  ·
   refine A7 Y rfl<|A7 Y rfl<|A7 Y rfl<|Zv (AO Y Y)<|Zm Y<|A7 Y rfl<|A7 Y rfl<|A7 Y rfl<|Zv (AO Y Y)<|Z0<|Zn [0,1,2,3,4,11,12,13,14,54] ?_;refine Zx<|CP Y<|Aw<|Zt<|AP<|Zx<|Zg<|Zm Y<|Ya (n:=1) Y Y<|Za Y<|Z0<|Zn [11,12,0,1,2,3,4] ?_;refine Aa (e':=[(11,_),(12,_)]) (by exact ⟨i+1,o,_,so,rfl,⟨by omega,by rw [ho,MX hx (by omega)],by omega,hro⟩,rfl,rfl⟩)
  refine Zf Y Y<|Zf Y Y<|Yg (Eg Y Y)<|Zv (AC Y Y)<|Zm Y ?_;refine Aj (t:=50) Y rfl (fun hg2=>?_) (fun hg2=>?_)
  ·
   refine A7 Y rfl<|A7 Y rfl<|A7 Y rfl<|Zv (AO Y Y)<|Z0<|Zn [0,1,2,3,4,11,12,13,14,54] ?_;refine Zx<|CP Y<|Aw<|Zt<|AP<|Zx<|Zg<|Zm Y<|Ya (n:=1) Y Y<|Za Y<|Z0<|Zn [11,12,0,1,2,3,4] ?_;refine Aa (e':=[(11,_),(12,_)]) (by exact ⟨i+1,o,_,so,rfl,⟨by omega,by rw [ho,MX hx (by omega)],by omega,hro⟩,rfl,rfl⟩)
  refine Zf Y Y<|Zf Y Y<|Yg (Eu Y Y)<|Zv (AC Y Y)<|Z0<|Zn [0,1,2,3,4,11,12,13,14,54] ?_;refine Zx ?_;refine Aq Y (fun hg3=>?_) (fun hg3=>?_)
  ·
   refine Aw<|Zt<|AP<|Zx<|Zg<|Zm Y<|Ya (n:=1) Y Y<|Za Y<|Z0<|Zn [11,12,0,1,2,3,4] ?_;refine Aa (e':=[(11,_),(12,_)]) (by exact ⟨i+1,o,_,so,rfl,⟨by omega,by rw [ho,MX hx (by omega)],by omega,hro⟩,rfl,rfl⟩)
  refine AB<|Zx<|Zq<|Zg<|Zm Y<|Zv (AV underlying45 Y)<|Za Y<|Z0<|Zx<|Zb [14,15,0,1,2,3,4,11,12,13] ?_;refine CU (e0:=[(14,_),(15,_)]) (H0:=[]) (fun e H=>∃(k:Nat),(k≤o.length∧OM c o (DZ x c)=k)∧e=[(15,I4 (k:Int))]∧H=[]) Wp ?hx_5 ?hy_5
  case hx_5=>
   refine AR<|Zb [15,0,1,2,3,4,11,12,13,14] ?_;refine BB (e0:=[(15,_)]) (fun m e H=>∃(k:Nat),m=0+k∧(k≤o.length∧(∀(j:Nat) (r:AQ),k≤j→o[j]?=some r→DZ x c<DZ r c))∧e=[(15,I4 (k:Int))]∧H=[]) (by exact ⟨o.length,rfl,⟨uG _,by intro j r hj hr;have:=(tu.1 hr).1;omega⟩,rfl,rfl⟩) Wp ?_;rintro _ _ _ ⟨k,rfl,⟨hk,hab⟩,rfl,rfl⟩;refine Zq<|Zq<|Zg<|Zm Y<|Zv (DU (n:=0) Y Y)<|Zm Y ?_;refine Aj (t:=59) Y rfl (fun hkp=>?_) (fun hkp=>?_)
   ·
    obtain ⟨y,hy⟩:∃y,o[k -1]?=some y:=⟨_,tq (by omega)⟩;obtain ⟨p8,cap8,e8,hol8,hgo⟩:=Jo hro (by omega);injection e8 with e81 e82 e83
    subst e81 e83;obtain ⟨g8,off8,cur8,T8,zz8,hq8,hm8,hsz8,hex8⟩:=hgo (k -1) y hy;subst hq8;refine Zf Y Y<|Zf Y Y ?_
    (refine Fg Y (Bi (n:=1) Y Y ?_ ?_) rfl rfl ?_;(focus (omega));(focus (omega)))
    (refine Fg Y (Ac underlying45 sizeOf113 Y Y ?_) rfl rfl ?_;(focus (omega)))
    refine Qr Y (cs:=[(g8,.cells cur8 T8 zz8)]) (by simp [hm8]) (AZ (cs:=#[I4 y.t,I4 y.k,I4 y.v.a,I4 y.v.b,I4 y.v.c]) isAgg113 sizeOf113 Y (by omega) hex8) rfl rfl ?_;refine Zf Y Y<|Xr [_,_] Y call58 Y rfl (Vy y c hc) ?_;refine Zf Y Y<|Yg (Eu Y Y)<|Zv (AO Y Y)<|Z0<|Zn [0,1,2,3,4,11,12,13,14,15,69] ?_;refine Zx ?_;refine Aq Y (fun hgt=>?_) (fun hgt=>?_)
    ·
     refine AB<|Zx<|AR<|Zg<|Zm Y<|Yb (n:=1) Y Y<|Za Y<|Z0<|A8<|Zn [15,0,1,2,3,4,11,12,13,14] ?_;refine Aa (e':=[(15,_)]) (by exact ⟨k -1,rfl,⟨by omega,by intro j r hj hr;rcases uU j k with h9|h9;(have e:j=k -1:=by omega);subst e;rw [hy]at hr;injection hr with hr;subst hr;omega;exact hab j r h9 hr⟩,rfl,rfl⟩)
    refine Aw<|Zt<|Zt<|AP<|Zn [15,0,1,2,3,4,11,12,13] ?_;refine BA (e':=[(15,_)]) (by exact ⟨k,⟨hk,TJ hk hab (.inr ⟨y,hy,by omega⟩)⟩,rfl,rfl⟩)
   refine A7 Y rfl<|A7 Y rfl<|A7 Y rfl<|A7 Y rfl<|A7 Y rfl<|A7 Y rfl<|A7 Y rfl<|A7 Y rfl<|A7 Y rfl<|Zv (AC Y Y)<|Z0<|Zn [0,1,2,3,4,11,12,13,14,15,69] ?_;refine Zx<|Dn Y<|Aw<|Zt<|Zt<|AP<|Zn [15,0,1,2,3,4,11,12,13] ?_;refine BA (e':=[(15,_)]) (by exact ⟨k,⟨hk,TJ hk hab (.inl (by omega))⟩,rfl,rfl⟩)
  rintro _ _ ⟨k,⟨hk2,hpv⟩,rfl,rfl⟩;refine BK (n:=12) (0::0::0::7::0::16::0::0::192::496::1023::2047::[]) 1568 (by kernel_rfl) (by kernel_rfl) rfl ?_;refine Zi 1 0 rfl (AL Y)<|Zi 3 1 rfl (AL Y)<|Zi 7 2 rfl (AL Y) ?_;refine Zi 15 3 rfl (JW underlying45 sizeOf113 Y Y Y (by omega)) ?_;refine D9 (D':=31) 4 rfl rfl rfl Wh (Pa #[_,_,_,_,_] isAgg113 sizeOf113 Y) ?_;refine Zi 95 6 rfl (AL Y)<|Zi 223 7 rfl (AL Y) ?_;refine Zi 479 8 rfl (CE underlying45 sizeOf113 Y Y (by omega)) ?_;refine Yw 5 511 rfl (Af (vs:=[_]) (cs:=[_,_,_,_,_]) underlying45 sizeOf113 zeroValue113 Y rfl rfl rfl rfl rfl) ?_;rintro _ _ ⟨gb,rfl,rfl⟩;refine Yw 9 1023 rfl (BR (by_:=40) (sz:=5) underlying45 (rfl:Tryz.prog.info? 113=some Tryz.t113) rfl rfl rfl rfl Y (J7 5 113 gb 1 (Ae [x]) rfl (by decide)) Y (Io hro k (o.length -k) _ (by omega)) Wo Wo (by exact fun u hu=>CS o u (vP hu)) (by omega) (by omega)) ?_;rintro _ _ ⟨sa9,hra9,rfl⟩;obtain ⟨ga9,ca9,rfl⟩:=hra9.form;refine Yw 10 2047 rfl (Km (by_:=40) (sz:=5) underlying45 (rfl:Tryz.prog.info? 113=some Tryz.t113) rfl rfl rfl rfl Y (Im hro k _ hk2) Y (UM hra9) Wo Wo (by omega) (by omega) (by omega)) ?_;rintro _ _ ⟨sb9,hrb9,rfl⟩;have hnew:=BP hrb9 (n':=(o.take k++[x]++o.drop k).length) (xs':=Ae (o.take k++[x]++o.drop k)) (by simp only [u6,uD,uE,uH];omega) (by rw [Bb,Bb,De,DV,uF])
  have hins:o.take k++[x]++o.drop k=Cn (rs.take (i+1)) t c lo hi:=by rw [bV hx (by omega),←ho];unfold S9;rw [hpv]
  obtain ⟨gb9,cb9,rfl⟩:=hrb9.form;refine Zi 4095 11 rfl (Au Y)<|Ao ?_;refine A8<|Zx<|Zg<|Zm Y<|Ya (n:=1) Y Y<|Za Y<|Z0<|Zn [11,12,0,1,2,3,4] ?_;refine Aa (e':=[(11,_),(12,_)]) (by exact ⟨i+1,o.take k++[x]++o.drop k,_,_,rfl,⟨by omega,hins,by simp only [u6,uD,uE,uH];omega,hnew⟩,rfl,rfl⟩)
 have ei:i=rs.length:=by omega
 subst ei;rw [ug]at ho;subst ho;refine Aw<|Zt<|Zt<|AP<|Zx<|Zq<|Zg<|Zm Y<|Za Y<|Z0<|Zx<|AA ?_;refine AJ rfl results56 Y (by exact ⟨so,hro,rfl⟩)
end Go.Proofs.YtkdgffcfmgmemaaGreatDoor
namespace Go.Proofs.YtkdgffcfmgmemaaGreatDoor
open Go.Proofs.Tryz
open Go Go.RowKit Gw
set_option maxRecDepth 100000
attribute [local irreducible] Gw.At Gw.Nx Gw.Ops
open Go.Sort
def Bg(r:AQ)(c:Int):Int:=if c=0 then r.k else if c=1 then r.v.a else if c=2 then r.v.b else if c=3 then r.v.c else 0
set_option maxHeartbeats 1000000 in
theorem JO(r:AQ)(c:Int)(hc:0≤c∧c≤3)(W:World):Calls Tryz.prog 97 #[.agg #[I4 r.t,I4 r.k,I4 r.v.a,I4 r.v.b,I4 r.v.c],I4 c] W fun e w'=>e= .returned (I4 (Bg r c))∧∃(q:Nat) (o:Obj),w'=grow (W.drewN q) #[o]:=by
 obtain ⟨t,k,⟨va,vb,vc⟩⟩:=r;rcases (by omega:c=0∨c=1∨c=2∨c=3)with rfl|rfl|rfl|rfl
 all_goals
  go_enter func97,ntmps97
  go_wp2
  go_ret
  exact ⟨rfl,0,_,by rw [alloc_eq_grow];rfl⟩
def orL(x y:Int):Int:=if x=0 then y else x
theorem jK(b:Nat)(x y:Int)(W:World)(h0:W.cell? ⟨b,0,none⟩=some (I4 x))(h1:W.cell? ⟨b,1,none⟩=some (I4 y)):Calls Tryz.prog 211 #[I6 b 2 2] W fun e w'=>e= .returned (I4 (orL x y))∧w'=W:=by
 generalize hz:orL x y=z;have HZ:=Lib.hid hz
 clear hz
 go_enter func211,ntmps211
 go_wp2
 go_loop [5,8] (fun _ i=>∃(j:Nat),i=I4 j∧(j=0∨(j=1∧x=0)∨(j=2∧x=0∧y=0))) (fun _ i=>2 -(intOf i).toNat)
 case atStart=>exact ⟨0,rfl,.inl rfl⟩
 case round=>
  obtain ⟨j,rfl,hj⟩:=hrel;rcases hj with rfl|⟨rfl,hx⟩|⟨rfl,hx,hy⟩
  · by_cases hx:x=0
    · subst hx
      go_wp2
      go_round
      case rel=>exact ⟨1,by go_num,by simp⟩
      case measure=>simp [intOf]
    · go_wp2
      go_ret
      exact ⟨by rw [←HZ.out];unfold orL;rw [if_neg hx];rfl,rfl⟩
  · subst hx
    by_cases hy:y=0
    · subst hy
      go_wp2
      go_round
      case rel=>exact ⟨2,by go_num,by simp⟩
      case measure=>simp [intOf]
    · go_wp2
      go_ret
      exact ⟨by rw [←HZ.out];unfold orL;rw [if_pos rfl];rfl,rfl⟩
  · subst hx hy
    go_wp2
    go_ret
    exact ⟨by rw [←HZ.out];rfl,rfl⟩
theorem Vb{u w:World}{H:Hp}(h:Sat u H w)(q:Nat)(os:Array Obj):Sat u H (grow (w.drewN q) os):=by
 refine ⟨h.os,h.tape,h.output,h.nodup,fun p hp=>?_⟩;have hlt:=h.lt hp
 show(w.heap++os)[p.1]?=_;rw [xC hlt];exact h.get p hp
theorem MS(r:AQ)(c:Nat)(hc:c≤3):Bg r (c:Int)=DZ r c:=by
 rcases (by omega:c=0∨c=1∨c=2∨c=3)with rfl|rfl|rfl|rfl<;>rfl
theorem QD(r:AQ)(c:Nat)(hc:c≤3):Az Tryz.prog 97 #[.agg #[I4 r.t,I4 r.k,I4 r.v.a,I4 r.v.b,I4 r.v.c],I4 (c:Int)] [] (I4 (DZ r c)):=fun u R w hs=>
 (JO r (c:Int) (by omega) w).mono (by
   rintro e w' ⟨rfl,q,o,rfl⟩;exact .inl ⟨_,[],rfl,⟨by rw [MS r c hc],rfl⟩,Vb hs q _⟩)
theorem iW(r:AQ)(t:Int)(c:Nat)(lo hi:Int)(hc:c≤3)(b1 b2 b3 b4:Nat):Az Tryz.prog 124 #[.agg #[I4 r.t,I4 r.k,I4 r.v.a,I4 r.v.b,I4 r.v.c],I5 b1,I5 b2,I5 b3,I5 b4] [[(b1,.cells #[I4 (c:Int)] 3 (0,0))],[(b2,.cells #[I4 t] 3 (0,0))],[(b3,.cells #[I4 lo] 3 (0,0))],[(b4,.cells #[I4 hi] 3 (0,0))]] (.bool (inR t c lo hi r)):=by
 refine Se func124 ntmps124 [0,1,2,3,4] ?_;intro u R;refine Zq<|Zg<|Ze (Bx #[_,_,_,_,_]) ?_;rintro _ _ ⟨b1,rfl,rfl⟩;refine Za Y<|Z0<|Zx<|Zq<|Zg<|Zo Wh (Pa #[_,_,_,_,_] isAgg113 sizeOf113 Y) ?_;refine Zl isAgg3 Y ?_;refine Xr [_,_] Y call97 Y rfl (QD r c hc) ?_;refine Za Y<|Z0<|Zx<|Zq<|Zg<|Zh 0 underlying113 rfl rfl sizeOf3 Y<|Zl isAgg3 Y ?_;refine Zl isAgg3 Y ?_;refine Zv (CO Y Y)<|Zm Y ?_;refine Aj (t:=15) Y rfl (fun h1=>?_) (fun h1=>?_)
 ·
  refine Zf Y Y<|Yl isAgg3 Y ?_;refine Yg (Gj Y Y)<|Zv (AO Y Y)<|Zm Y ?_;refine Aj (t:=20) Y rfl (fun h2=>?_) (fun h2=>?_)
  ·
   refine Zf Y Y<|Yl isAgg3 Y ?_;refine Yg (LA Y Y)<|Zv (AO Y Y)<|Za Y<|Z0<|Zn [6] ?_;refine Zx<|AA ?_;refine AJ rfl results124 Y (by exact ⟨by unfold inR;(simp_all;done),rfl⟩)
  refine A7 Y rfl<|A7 Y rfl<|A7 Y rfl<|Zv (AC Y Y)<|Za Y<|Z0<|Zn [6] ?_;refine Zx<|AA ?_;refine AJ rfl results124 Y (by exact ⟨by unfold inR;(congr 1;simp;omega),rfl⟩)
 refine A7 Y rfl<|A7 Y rfl<|A7 Y rfl<|Zv (AC Y Y)<|Zm Y<|A7 Y rfl<|A7 Y rfl<|A7 Y rfl<|Zv (AC Y Y)<|Za Y<|Z0<|Zn [6] ?_;refine Zx<|AA ?_;refine AJ rfl results124 Y (by exact ⟨by unfold inR;(simp_all;done),rfl⟩)
end Go.Proofs.YtkdgffcfmgmemaaGreatDoor
namespace Go.Proofs.YtkdgffcfmgmemaaGreatDoor
open Go.Proofs.Tryz
open Go Go.RowKit Gw
set_option maxRecDepth 100000
attribute [local irreducible] Gw.At Gw.Nx Gw.Ops
theorem Jy:∀(n:Nat) (js:List Nat),js.Nodup→(∀j∈js,j<n)→js.length≤n
 |0,js,_,h=>by
  cases js with
  |nil=>simp
  |cons a l=>exact absurd (h a (by simp)) (Nat.not_lt_zero _)
 |n+1,js,hn,h=>by
  by_cases hm:n∈js
  · have h1:=Jy n (js.erase n) (hn.erase n) (fun j hj=>by
     have h2:=(hn.mem_erase_iff).1 hj;have h3:=h j h2.2
     have h4:=h2.1;omega)
    rw [List.length_erase_of_mem hm]at h1;omega
  · have h1:=Jy n js hn (fun j hj=>by
     have h3:=h j hj;have h4:j≠n:=fun e=>hm (e▸hj)
     omega)
    omega
def JV(r:AQ):(Int×Int)×Value:=((r.t,r.k),QP r)
theorem Ls{a b:AQ}(h:JV a=JV b):a=b:=Vi (Prod.mk.inj h).2
theorem Y3{a b:List AQ}(ha:(a.map JV).Nodup)(h:(a.map JV).Perm (b.map JV)):a.Perm b:=by
 have nd:∀{l:List AQ},(l.map JV).Nodup→l.Nodup:=fun{l} hl=>by
  rw [wB,yH]at hl;rw [wB];exact hl.imp (fun hne e=>hne (by rw [e]))
 rw [xQ (nd ha) (nd (h.nodup ha))];intro x;have h1:=h.mem_iff (a:=JV x)
 rw [vD,vD]at h1;constructor
 · intro hx
   obtain ⟨y,hy,e⟩:=h1.1 ⟨x,hx,rfl⟩;rwa [Ls e]at hy
 · intro hx
   obtain ⟨y,hy,e⟩:=h1.2 ⟨x,hx,rfl⟩;rwa [Ls e]at hy
theorem G9.perm{es:Array MapEntry}{ck:Nat}{l:List ((Int×Int)×Value)}{rs:List AQ}(hm:Ey K2 es ck l)(h:G9 l rs)(hs:BJ rs):l.Perm (rs.map JV):=by
 have h1:l.Nodup:=by
  have:=hm.keys;rw [wB,yH]at this;rw [wB];exact this.imp (fun hne e=>hne (by rw [e]))
 have h2:(rs.map JV).Nodup:=by
  rw [wB,yH];refine hs.imp (fun{a b} hab e=>?_);have e2:=Ls e
  subst e2;unfold AQ.lt2 at hab;omega
 rw [xQ h1 h2];intro p;rw [h.mem p,vD];constructor
 · rintro ⟨r,hr,rfl⟩;exact ⟨r,hr,rfl⟩
 · rintro ⟨r,hr,rfl⟩;exact ⟨r,hr,rfl⟩
structure Pg(lm:List ((Int×Int)×Value))(f:AQ→Bool)(js:List Nat)(o:List AQ):Prop where
 rows:∃rl:List AQ,rl.map JV=Ha lm js∧o=rl.filter f
theorem VZ(lm:List ((Int×Int)×Value))(f:AQ→Bool):Pg lm f [] []:=⟨[],rfl,rfl⟩
theorem Pg.push{lm:List ((Int×Int)×Value)}{rs:List AQ}{f:AQ→Bool}{js:List Nat}{o:List AQ}(h:Pg lm f js o){j:Nat}{r:AQ}(hj:lm[j]?=some (JV r)):Pg lm f (js++[j]) (o++(if f r then [r]else [])):=by
 obtain ⟨rl,h1,h2⟩:=h.rows;refine ⟨rl++[r],by rw [uW,h1,NV lm js hj];rfl,?_⟩;rw [vH,←h2];cases hf:f r<;>simp [hf]
theorem Pg.done{es:Array MapEntry}{ck:Nat}{lm:List ((Int×Int)×Value)}{rs:List AQ}(hm:Ey K2 es ck lm)(hR:G9 lm rs)(hs:BJ rs){f:AQ→Bool}{js:List Nat}{o:List AQ}(h:Pg lm f js o)(hp:(Ha lm js).Perm lm):o.Perm (rs.filter f):=by
 obtain ⟨rl,h1,rfl⟩:=h.rows;have h2:=hR.perm hm hs
 have h3:(rl.map JV).Perm (rs.map JV):=by rw [h1];exact hp.trans h2
 have h4:(rs.map JV).Nodup:=by
  rw [wB,yH];refine hs.imp (fun{a b} hab e=>?_);have e2:=Ls e
  subst e2;unfold AQ.lt2 at hab;omega
 exact (Y3 (h3.symm.nodup h4) h3).filter f
def leV(c:Nat)(a b:AQ):Prop:=DZ a c<DZ b c∨DZ a c=DZ b c∧a.k≤b.k
def ZC:Prop:=∀(cb c:Nat) (w:Value) (o:List AQ) (s:List AU),c≤3→o.length≤2000→BZ 5 113 w o.length (Ae o) s→
    CQ Tryz.prog 209 #[w,.func (.func 210) #[] #[I5 cb]] [s,[(cb,.cells #[I4 (c:Int)] 3 (0,0))]]
     (fun r H'=>r= .tuple #[]∧∃(s':List AU) (o':List AQ),o'.Perm o∧o'.Pairwise (leV c)∧BZ 5 113 w o'.length (Ae o') s'∧H'=[s',[(cb,.cells #[I4 (c:Int)] 3 (0,0))]])
theorem V5(hS:ZC)(sp mb:Nat)(p:Int)(es:Array MapEntry)(ck:Nat)(lm:List ((Int×Int)×Value))(rs:List AQ)(hm:Ey K2 es ck lm)(hR:G9 lm rs)(hs:BJ rs)(hn:rs.length≤2000)(t:Int)(c:Nat)(lo hi:Int)(hc:c≤3)(b1 b2 b3 b4:Nat):
 CQ Tryz.prog 123 #[I5 sp,I4 (c:Int),.func (.func 124) #[] #[I5 b1,I5 b2,I5 b3,I5 b4]] [[(sp,.cells #[.map (some mb),I4 p] 175 (0,0))],[(mb,.map es ck)],[(b1,.cells #[I4 (c:Int)] 3 (0,0))],[(b2,.cells #[I4 t] 3 (0,0))],[(b3,.cells #[I4 lo] 3 (0,0))],[(b4,.cells #[I4 hi] 3 (0,0))]] (fun r H'=>∃(so:List AU) (o:List AQ),BZ 5 113 r o.length (Ae o) so∧o.Perm (rs.filter (inR t c lo hi))∧o.Pairwise (leV c)∧H'=[so,[(sp,.cells #[.map (some mb),I4 p] 175 (0,0))],[(mb,.map es ck)],[(b1,.cells #[I4 (c:Int)] 3 (0,0))],[(b2,.cells #[I4 t] 3 (0,0))],[(b3,.cells #[I4 lo] 3 (0,0))],[(b4,.cells #[I4 hi] 3 (0,0))]]):=by
 have hml:=mL;have hln:=hR.len hm hs
 refine Se func123 ntmps123 [0,1,2] ?_;intro u R;refine Zq<|Zg<|Ze (Bx #[_]) ?_;rintro _ _ ⟨cb,rfl,rfl⟩;refine Za Y<|Z0<|Zx<|Zq<|Zq<|Zg<|Zm Y<|Zv (EI underlying33 Y Y)<|Z0<|Zx ?_;refine Ag Y (fun h1=>?_) (fun h1=>?_)
 ·
  cases h1
 refine AB<|Zx<|Zq<|Zg<|Za Y<|Z0<|Zx<|Zq<|Zq<|Zg<|Zm Y<|Zp Y rfl<|Zh 0 underlying175 rfl rfl sizeOf173 Y<|Zv (BI (off:=0) underlying173 rfl rfl sizeOf171 Y)<|Zl isAgg171 Y ?_;refine Ze (Q0 underlying171 Y Wh) ?_;rintro _ _ ⟨ib,rfl,rfl⟩;refine Z0<|Zx<|AR<|Bf ?_;refine Zb [7,2,4,17] ?_;refine BB (e0:=[(7,_)]) (fun m e H=>∃(js:List Nat) (seen:Array Nat) (o:List AQ) (w:Value) (so:List AU),m=lm.length -js.length∧(Ld es js seen∧Pg lm (inR t c lo hi) js o∧BZ 5 113 w o.length (Ae o) so∧o.length≤js.length)∧e=[(7,w)]∧H=[[(ib,.mapIter (some mb) ck seen ck)],so]) (by exact ⟨[],#[],[],.slice none 0 0,[],rfl,⟨Tt _,VZ _ _,Ba 5 _,uG _⟩,rfl,rfl⟩) Wp ?_;rintro _ _ _ ⟨js,seen,o,w,so,rfl,⟨hit,hse,hro,hoj⟩,rfl,rfl⟩;obtain ⟨qo,capo,rfl⟩:=hro.form;have hjl:=Jy es.size js hit.nodup hit.lt
 rw [hm.size]at hjl;refine Zq<|Zg<|Ze (Sa hm hit Y Wo Wh) ?_;rintro _ _ hnx;rcases hnx with⟨hdone,rfl,rfl⟩|⟨jn,pn,seen2,hpn,hjn,hi2,rfl,rfl⟩
 ·
  refine Zd Y rfl<|Z0<|Zx<|Zq ?_;refine Ag Y (fun hb=>?_) (fun hb=>?_)
  ·
   cases hb
  refine Aw<|Zt<|Zt<|AP<|Zx<|Zq<|Zg<|Zm Y<|Zv (Bt (vs:=[]) (us:=[_]) Y Y) ?_;refine Zc [_,_] Y call209 Y rfl (hS cb c _ o so hc (by omega) hro) ?_;rintro _ _ ⟨_,⟨rfl,so2,o2,hpm,hpw,hro2,rfl⟩,rfl⟩;refine Z0<|Zx<|Zq<|Zg<|Zm Y<|Za Y<|Z0<|Zx<|AA ?_;refine AJ rfl results123 Y (by exact ⟨so2,o2,hro2,hpm.trans (hse.done hm hR hs hdone),hpw,rfl⟩)
 obtain ⟨r,hr,rfl⟩:=(hR.mem pn).1 (uI hpn);refine Zd Y rfl<|Z0<|Zx<|Zq ?_;refine Ag Y (fun hb=>?_) (fun hb=>?_)
 ·
  have hjl2:=Jy es.size (js++[jn]) hi2.nodup hi2.lt;rw [hm.size,u6,uH]at hjl2;have hla:(js++[jn]).length=js.length+1:=by rw [u6];rfl
  have hse2:=hse.push (r:=r) (rs:=rs) hpn;have hse2t:(inR t c lo hi) r=true→Pg lm (inR t c lo hi) (js++[jn]) (o++[r]):=fun h=>by rw [h]at hse2;exact hse2
  have hse2f:(inR t c lo hi) r=false→Pg lm (inR t c lo hi) (js++[jn]) o:=fun h=>by rw [h]at hse2;simpa using hse2
  refine AB<|Zx<|AR<|Zq<|Zg<|Cm (cs:=[(ib,.mapIter (some mb) ck seen2 ck),(mb,.map es ck)]) (by simp) (Qn hm hi2 hpn Y) rfl rfl ?_;refine Zd Y rfl<|Ze (Al zeroValue113 #[_,_,_,_,_]) ?_;rintro _ _ ⟨xb,rfl,rfl⟩;refine Xe (Xw sizeOf113 #[I4 r.t,I4 r.k,I4 r.v.a,I4 r.v.b,I4 r.v.c]) ?_;refine Z0<|Zx<|Zq<|Zg<|Zm Y<|Zo Wh (Pa #[_,_,_,_,_] isAgg113 sizeOf113 Y) ?_;refine Xr [_] Y call124 Y rfl (iW r t c lo hi hc b1 b2 b3 b4) ?_;refine Z0<|Zx ?_;refine Ag Y (fun hin=>?_) (fun hin=>?_)
  ·
   refine Zg<|Zm Y<|Zo Wh (Pa #[_,_,_,_,_] isAgg113 sizeOf113 Y) ?_;refine Ze (Af (vs:=[_]) (cs:=[_,_,_,_,_]) underlying45 sizeOf113 zeroValue113 Y rfl rfl rfl rfl rfl) ?_;rintro _ _ ⟨gb,rfl,rfl⟩;refine Ze (BR (by_:=40) (sz:=5) underlying45 (rfl:Tryz.prog.info? 113=some Tryz.t113) rfl rfl rfl rfl Y (hro) Y (Da 5 gb 1 1 113 (0,0) [I4 r.t,I4 r.k,I4 r.v.a,I4 r.v.b,I4 r.v.c] rfl) Wo Wo (by simp [Value.oneCell']) (by omega) (by omega)) ?_;rintro _ _ ⟨sa9,hra9,rfl⟩;have hnew:=BP hra9 (n':=(o++[r]).length) (xs':=Ae (o++[r])) (by rw [u6];rfl) (by rw [Bb];rfl)
   obtain ⟨ga9,ca9,rfl⟩:=hra9.form;refine Za Y<|Z0<|Zn [2,4,7,17] ?_;refine A8<|Zn [7,2,4,17] ?_;refine Aa (e':=[(7,_)]) (by exact ⟨js++[jn],seen2,o++[r],_,_,rfl,⟨hi2,hse2t hin,hnew,by rw [u6,u6];simp;omega⟩,rfl,rfl⟩)
  refine AB<|A8<|Zn [7,2,4,17] ?_;refine Aa (e':=[(7,_)]) (by exact ⟨js++[jn],seen2,o,_,so,rfl,⟨hi2,hse2f hin,hro,by rw [u6];omega⟩,rfl,rfl⟩)
 cases hb
end Go.Proofs.YtkdgffcfmgmemaaGreatDoor
