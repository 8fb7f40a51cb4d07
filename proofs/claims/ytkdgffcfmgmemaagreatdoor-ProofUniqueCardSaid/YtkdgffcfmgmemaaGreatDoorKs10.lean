/- The keys of the store; a map that holds rows. -/
/- The store: New, Apply, At. -/
/- The store: At. -/
/- The reference of layer 4: At, Rows, SameRows. -/
/- The value of a column: of the reference of layer 3, of the program. -/
/- The reference of layer 4: Range. -/
/- row.Value, to the world: what the comparator of the sort wants. -/
/- The store: the predicate of Range. -/
/- The store: chosen, over a contract of the sort. -/
/- The store: chosen, called by Range. -/
import Derived.Test.YtkdgffcfmgmemaaGreatDoorEz
import Derived.Test.YtkdgffcfmgmemaaGreatDoorLg11
import Derived.Test.YtkdgffcfmgmemaaGreatDoorEx20
import Derived.Test.YtkdgffcfmgmemaaGreatDoorEx17
import Derived.WalkKit
import Derived.WalkSpells
import Derived.Sort.Grow
import Derived.Deep.Draws
import Derived.Lib.Hide
import Derived.LoopTactic
import Derived.Test.YtkdgffcfmgmemaaGreatDoorLg1
set_option linter.unusedVariables false
set_option linter.unusedSimpArgs false
namespace Go.Proofs.YtkdgffcfmgmemaaGreatDoor
open Go.Proofs.Tryz
open Go Go.RowKit Gw
set_option maxRecDepth 100000
attribute [local irreducible] Gw.At Gw.Nx Gw.Ops
def K2(k:Int×Int):Value:= .agg #[I4 k.1,I4 k.2]
def KD(k:Int×Int):Prop:=(Lit.int .i64 k.1).wf=true∧(Lit.int .i64 k.2).wf=true
def Q9(r:AP):Value:= .agg #[I4 r.t,I4 r.k,I4 r.v.a,I4 r.v.b,I4 r.v.c]
theorem qE:∀a b,K2 a=K2 b→a=b:=by
 rintro ⟨a,b⟩ ⟨c,d⟩ h;unfold K2 at h;simp only [Value.agg.injEq,Array.mk.injEq,List.cons.injEq,Value.int.injEq,and_true,true_and]at h;rw [h.1,h.2]
theorem WB(P:Program)(d:Nat)(a:Int){t:TypeId}(ht:P.underlying t=some (.int .i64))(h:(Lit.int .i64 a).wf=true):P.keyLits (d+1) t [.int .i64 a]=some [.int .i64 a]:=by
 unfold Program.keyLits;rw [ht];simp [h]
theorem jg:I8 Tryz.prog 178 K2 KD:=I8.ofLaw (deep_law (m:=3) (by decide) (by kernel_rfl) (by kernel_rfl) (by kernel_rfl)) (by
 rintro ⟨a,b⟩ ⟨ha,hb⟩;have h1:Tryz.prog.types.size+1=(Tryz.prog.types.size -1)+1+1:=by
  have:0<Tryz.prog.types.size:=of_decide_eq_true (by kernel_rfl);omega
 have hc:Tryz.prog.cellsOf 3=1:=by kernel_rfl
 have hc2:Tryz.prog.cellsOf 178=2:=by kernel_rfl
 have hk:Tryz.prog.keyType 178=true:=by kernel_rfl
 have hf:(K2 (a,b)).formed Tryz.prog 178=true:=by
  unfold Value.formed K2;rw [underlying178];simp [hc2]
 unfold keyOf;rw [underlying178];simp only [hk,hf,Bool.and_self,if_true];obtain ⟨d,hd⟩:∃d,Tryz.prog.types.size+1=d+1+1:=⟨_,h1⟩;rw [hd];unfold Program.keyLits;rw [underlying178];have la:=WB Tryz.prog d a underlying3 ha
 have lb:=WB Tryz.prog d b underlying3 hb;simp [K2,Value.cells,hc,hc2,la,lb]) qE
structure GX(l:List ((Int×Int)×Value))(rs:List AP):Prop where
 mem:∀p,p∈l↔∃r∈rs,p=((r.t,r.k),Q9 r)
 kd:∀r∈rs,KD (r.t,r.k)
theorem jI:GX [] []:=⟨fun p=>by simp,fun r h=>by cases h⟩
theorem GX.keys{l:List ((Int×Int)×Value)}{rs:List AP}(h:GX l rs):∀p∈l,KD p.1:=fun p hp=>by
 obtain ⟨r,hr,rfl⟩:=(h.mem p).1 hp;exact h.kd r hr
theorem VP{a b:AP}(h:Q9 a=Q9 b):a=b:=by
 obtain ⟨t,k,⟨x,y,z⟩⟩:=a;obtain ⟨t',k',⟨x',y',z'⟩⟩:=b;unfold Q9 at h;simp only [Value.agg.injEq,Array.mk.injEq,List.cons.injEq,Value.int.injEq,and_true,true_and]at h;obtain ⟨rfl,rfl,rfl,rfl,rfl⟩:=h;rfl
theorem GX.len{es:Array MapEntry}{ck:Nat}{l:List ((Int×Int)×Value)}{rs:List AP}(hm:Ex K2 es ck l)(h:GX l rs)(hs:BJ rs):l.length=rs.length:=by
 have h1:l.Nodup:=by
  have:=hm.keys;rw [vR,xq]at this;rw [vR];exact this.imp (fun hne e=>hne (by rw [e]))
 have h2:(rs.map (fun r=>((r.t,r.k),Q9 r))).Nodup:=by
  rw [vR,xq];refine hs.imp (fun{a b} hab e=>?_);have e2:=VP (Prod.mk.inj e).2
  subst e2;unfold AP.lt2 at hab;omega
 have hp:l.Perm (rs.map (fun r=>((r.t,r.k),Q9 r))):=by
  rw [xC h1 h2];intro p;rw [h.mem p,uh];constructor
  · rintro ⟨r,hr,rfl⟩;exact ⟨r,hr,rfl⟩
  · rintro ⟨r,hr,rfl⟩;exact ⟨r,hr,rfl⟩
 rw [hp.length_eq,tJ]
theorem GX.get{es:Array MapEntry}{ck:Nat}{l:List ((Int×Int)×Value)}{rs:List AP}(hm:Ex K2 es ck l)(h:GX l rs)(hs:BJ rs)(t k:Int):
 (IX (t,k) l).getD (Q9 AP.zero)=Q9 (FV rs t k).1∧(IX (t,k) l).isSome=(FV rs t k).2:=by
 cases hg:(FV rs t k).2 with
 |true=>
  obtain ⟨r,hr,hi,_,he⟩:=J3 hg;have hin:((t,k),Q9 r)∈l:=(h.mem _).2 ⟨r,hr,by rw [show t=r.t from hi.1.symm,show k=r.k from hi.2.symm]⟩
  rw [Ht hm.keys hin,he];exact ⟨rfl,rfl⟩
 |false=>
  have hno:∀r∈rs,¬r.is t k:=fun r hr hi=>by rw [Jo hs hr hi]at hg;cases hg
  have hn:IX (t,k) l=none:=OO (fun p hp e=>by
   obtain ⟨r,hr,rfl⟩:=(h.mem p).1 hp;injection e with e1 e2
   exact hno r hr ⟨e1,e2⟩)
  rw [hn,OV hno];exact ⟨rfl,rfl⟩
theorem GX.put{l l':List ((Int×Int)×Value)}{rs:List AP}{c:Chg}(h:GX l rs)(hs:BJ rs)(hf:FZ rs c)(hh:c.has=true)(hk:KD (c.t,c.k))(hp:∀p,p∈l'↔p=((c.t,c.k),Q9 ⟨c.t,c.k,c.n⟩)∨(p∈l∧p.1≠(c.t,c.k))):GX l' (EI rs c):=by
 refine ⟨fun p=>?_,fun r hr=>?_⟩
 · rw [hp p]
   constructor
   · rintro (rfl|⟨h1,h2⟩)
     · exact ⟨_,(FU hs hf _).2 (.inr ⟨hh,rfl⟩),rfl⟩
     · obtain ⟨r,hr,rfl⟩:=(h.mem p).1 h1
       exact ⟨r,(FU hs hf _).2 (.inl ⟨hr,fun hi=>h2 (by rw [show r.t=c.t from hi.1,show r.k=c.k from hi.2])⟩),rfl⟩
   · rintro ⟨r,hr,rfl⟩
     rcases (FU hs hf _).1 hr with⟨h1,h2⟩|⟨_,rfl⟩
     · exact .inr ⟨(h.mem _).2 ⟨r,h1,rfl⟩,fun e=>h2 (by injection e with e1 e2;exact ⟨e1,e2⟩)⟩
     · exact .inl rfl
 · rcases (FU hs hf _).1 hr with⟨h1,_⟩|⟨_,rfl⟩
   · exact h.kd r h1
   · exact hk
theorem GX.drop{l l':List ((Int×Int)×Value)}{rs:List AP}{c:Chg}(h:GX l rs)(hs:BJ rs)(hf:FZ rs c)(hh:c.has=false)(hp:∀p,p∈l'↔p∈l∧p.1≠(c.t,c.k)):GX l' (EI rs c):=by
 refine ⟨fun p=>?_,fun r hr=>?_⟩
 · rw [hp p]
   constructor
   · rintro ⟨h1,h2⟩
     obtain ⟨r,hr,rfl⟩:=(h.mem p).1 h1;exact ⟨r,(FU hs hf _).2 (.inl ⟨hr,fun hi=>h2 (by rw [show r.t=c.t from hi.1,show r.k=c.k from hi.2])⟩),rfl⟩
   · rintro ⟨r,hr,rfl⟩
     rcases (FU hs hf _).1 hr with⟨h1,h2⟩|⟨h9,_⟩
     · exact ⟨(h.mem _).2 ⟨r,h1,rfl⟩,fun e=>h2 (by injection e with e1 e2;exact ⟨e1,e2⟩)⟩
     · rw [hh]at h9;cases h9
 · rcases (FU hs hf _).1 hr with⟨h1,_⟩|⟨h9,_⟩
   · exact h.kd r h1
   · rw [hh]at h9;cases h9
theorem nk{n:Int}(h:-9223372036854775808≤n∧n≤9223372036854775807):(Lit.int .i64 n).wf=true:=by
 simp [Lit.wf,IntKind.min,IntKind.max,IntKind.signed,IntKind.bits];omega
theorem kT{c:Chg}(h:c.ok):KD (c.t,c.k):=by
 obtain ⟨h1,h2,_,_⟩:=h;have hk:(0≤c.t∧c.t≤3)∧(1≤c.k∧c.k≤1000000):=by
  cases hh:c.had with
  |true=>
   have:c.before.ok:=wK (fun hn=>h2 (.inl ⟨hh,hn⟩));rw [LD hh]at this;exact this.2
  |false=>
   cases hs:c.has with
   |true=>
    have:c.after.ok:=wK (fun hn=>h2 (.inr ⟨hs,hn⟩));rw [JQ hs]at this;exact this.2
   |false=>exact absurd (.inl ⟨by rw [hh];decide,by rw [hs];decide⟩) h1
 exact ⟨nk (by show _≤c.t∧c.t≤_;omega),nk (by show _≤c.k∧c.k≤_;omega)⟩
theorem Q0(c:Chg):Av Tryz.prog 108 #[.agg #[I4 c.t,I4 c.k,.bool c.had,I4 c.o.a,I4 c.o.b,I4 c.o.c,.bool c.has,I4 c.n.a,I4 c.n.b,I4 c.n.c]] [] (.tuple #[.agg #[I4 (EK c c.has c.n).t,I4 (EK c c.has c.n).k,I4 (EK c c.has c.n).v.a,I4 (EK c c.has c.n).v.b,I4 (EK c c.has c.n).v.c],.bool c.has]):=by
 refine Se func108 ntmps108 [0] ?_;intro u R;refine Zq<|Zg<|Ze (Bx #[_,_,_,_,_,_,_,_,_,_]) ?_;rintro _ _ ⟨b1,rfl,rfl⟩;refine Ze (Al zeroValue113 #[_,_,_,_,_]) ?_;rintro _ _ ⟨b2,rfl,rfl⟩;refine Za Y<|Z0<|Zx<|Zq<|Zg<|Zo Wh (Pa #[_,_,_,_,_,_,_,_,_,_] isAgg77 sizeOf77 Y) ?_;refine Zh 6 underlying77 rfl rfl sizeOf4 Y<|Zl isAgg4 Y ?_;refine Zh 7 underlying77 rfl rfl sizeOf75 Y<|Zo Wh (Pa #[_,_,_] isAgg75 sizeOf75 Y) ?_;refine Xr [_,_,_] Y call206 Y rfl (U5 c c.has c.n) ?_;refine Zd Y rfl<|Zd Y rfl<|Xe (Xw sizeOf113 _) ?_;refine Za Y<|Z0<|Zn [2,3] ?_;refine Zx<|A9 ?_;refine Bb rfl results108 Y Wh (Ah isAgg113 sizeOf113 Wn (rfl)) Y (by exact ⟨rfl,rfl⟩)
theorem gU:CO Tryz.prog 43 #[] [] (fun r H'=>∃sp mb,r=I5 sp∧H'=[[(sp,.cells #[.map (some mb),I4 0] 175 (0,0))],[(mb,.map #[] 0)]]):=by
 refine Se func43 ntmps43 [] ?_;intro u R;refine Zq<|Zg<|Za Y<|Z0<|Zx<|Zq<|Zg<|Ze (Np) ?_;rintro _ _ ⟨mb,rfl,rfl⟩;refine Zv (BK (vs:=[(0,_)]) (cs:=#[_,_]) Y (Aa (pl:=#[(0,1),(1,1)]) zeroValue173 underlying173 (fun _=>by kernel_rfl) rfl)) ?_;refine Zv (BK (vs:=[(0,_)]) (cs:=#[_,_]) Y (Aa (pl:=#[(0,2)]) zeroValue175 underlying175 (fun _=>by kernel_rfl) rfl)) ?_;refine Ze (Bx #[_,_]) ?_;rintro _ _ ⟨sp,rfl,rfl⟩;refine Za Y<|Z0<|Zx<|A9 ?_;refine AB rfl results43 Y (by exact ⟨sp,mb,rfl,rfl⟩)
theorem lc(sp mb:Nat)(p rp:Int)(es:Array MapEntry)(ck:Nat)(lm:List ((Int×Int)×Value))(rs:List AP)(M:List AR)(q:Option Addr)(cap:Nat)(cs:List Chg)(hm:Ex K2 es ck lm)(hR:GX lm rs)(hO:Dh M (.slice q cs.length cap) cs)(hs:BJ rs)(hn:rs.length≤2000)(hA:M9 rs p rp cs):
 Av Tryz.prog 107 #[I5 sp,.agg #[I4 rp,.slice q cs.length cap]] [[(sp,.cells #[.map (some mb),I4 p] 175 (0,0))],[(mb,.map es ck)],M] (.bool true):=by
 have hml:=mL;obtain ⟨p9,cap9,e9,hol,hg⟩:=id hO;injection e9 with e91 e92 e93
 subst e91 e93;have hok:=hA.ok
 have hpo:=hA.pos;have hcl:=hok.len
 have hrp:=hok.pos;have hasc:=RF hok.ord
 have hln:=hR.len hm hs;refine Se func107 ntmps107 [0,1] ?_;intro u R;refine Zq<|Zg<|Ze (Bx #[_,_]) ?_;rintro _ _ ⟨b1,rfl,rfl⟩;refine Za Y<|Z0<|Zx<|Zq<|Zq<|BI (n:=14) (0::1::3::7::15::31::15::79::207::463::975::1999::4095::8191::[]) 2 (by kernel_rfl) (by kernel_rfl) rfl ?_;refine Cj (D':=1) 0 rfl rfl rfl Wh (Pa #[_,_] isAgg73 sizeOf73 Y) ?_;refine Yw 1 3 rfl (Zu [_] Y call205 Y rfl (Ny rp q cap cs M hO)) ?_;rintro _ _ ⟨rfl,rfl⟩;rw [decide_eq_true hok];refine Zi 7 2 rfl (Ca Y)<|Zi 15 3 rfl (AJ Y) ?_;refine CP (t:=13) Y (fun h1=>?_) (fun h1=>?_)
 ·
  first|rw [decide_eq_true h1]|rw [h1]|skip
  cases h1
 first|rw [decide_eq_false h1]|rw [h1]|skip
 refine Ag (D':=31) 4 Y rfl rfl rfl (AZ (off:=0) underlying73 rfl rfl sizeOf3 Y) ?_;refine Bl (D':=63) 5 Y rfl rfl rfl Wh (Bf isAgg3 Y (by rfl)) ?_;refine Ag (D':=127) 6 Y rfl rfl rfl (AJ Y) ?_;refine Ag (D':=255) 7 Y rfl rfl rfl (Dz Y rfl) ?_;refine Ag (D':=511) 8 Y rfl rfl rfl (AZ (off:=0) underlying175 rfl rfl sizeOf173 Y) ?_;refine Ag (D':=1023) 9 Y rfl rfl rfl (BH (off:=1) underlying173 rfl rfl sizeOf3 Y) ?_;refine Bl (D':=2047) 10 Y rfl rfl rfl Wh (Bf isAgg3 Y (by rfl)) ?_
 (refine Ag (D':=4095) 11 Y rfl rfl rfl (JI Y Y (IntWalk.i64_in _ ?_)) ?_;(focus (omega)))
 refine Ag (D':=8191) 12 Y rfl rfl rfl (IL Y Y) ?_;refine Zi 16383 13 rfl (AA Y Y)<|Am ?_;refine Zn [0,3,23] ?_;refine Zx ?_;refine Ao Y (fun h2=>?_) (fun h2=>?_)
 ·
  exfalso;contradiction
 refine AC<|Zx<|Zq<|Zg<|Zm Y<|Zp Y rfl<|Zh 0 underlying175 rfl rfl sizeOf173 Y<|Zv (BH (off:=0) underlying173 rfl rfl sizeOf171 Y)<|Zl isAgg171 Y ?_;refine Zo Wh (bu underlying171 hm Y) ?_;refine Za Y<|Z0<|Zx<|Zq<|Zq<|Zg<|Zh 1 underlying73 rfl rfl sizeOf71 Y<|Zl isAgg71 Y ?_;refine Zv (AV underlying71 Y)<|Zm Y<|Z0<|Zx<|AQ<|Zb [5,33,0,31,32] ?_;refine Az (e0:=[(5,_),(33,_)]) (fun m e H=>∃(i:Nat),m=cs.length -i∧(i≤cs.length)∧e=[(5,I4 (GJ rs (cs.take i))),(33,I4 (i:Int))]∧H=[]) (by exact ⟨0,rfl,tX _,by rw [hln];rfl,rfl⟩) Wp ?_;rintro _ _ _ ⟨i,rfl,hi,rfl,rfl⟩;have hsl:=Mv rs cs i
 refine Zq<|Zg<|Zv (Aq Y Y)<|Z0<|Zx<|Zq ?_;refine Ao Y (fun hlt=>?_) (fun hlt=>?_)
 ·
  obtain ⟨x,hx⟩:∃x,cs[i]?=some x:=⟨_,tF hlt⟩;obtain ⟨g,off,cur,T,zz,rfl,hm9,hsz,hex⟩:=hg i x hx;have hxo:=hok.all i x hx
  have hkd:=kT hxo;obtain ⟨hf1,hf2⟩:=hA.fit x (tV hx);have hget:=hR.get hm hs x.t x.k
  obtain ⟨gr,hgr⟩:∃gr,gr=FV rs x.t x.k:=⟨_,rfl⟩;rw [←hgr]at hget hf1 hf2;clear hgr;refine AC<|Zx<|Zq<|AQ<|Zq<|Zg ?_;refine BM (AU underlying71 sizeOf77 Y Y (by first|omega|decide|(simp;done))) ?_;refine Cf (cs:=[(g,.cells cur T zz)]) (by simp [hm9]) (AX (cs:=#[I4 x.t,I4 x.k,.bool x.had,I4 x.o.a,I4 x.o.b,I4 x.o.c,.bool x.has,I4 x.n.a,I4 x.n.b,I4 x.n.c]) isAgg77 sizeOf77 Y (by omega) hex) rfl rfl ?_;refine Ze (Al zeroValue77 #[_,_,_,_,_,_,_,_,_,_]) ?_;rintro _ _ ⟨cb,rfl,rfl⟩;refine Xe (Xw sizeOf77 #[I4 x.t,I4 x.k,.bool x.had,I4 x.o.a,I4 x.o.b,I4 x.o.c,.bool x.has,I4 x.n.a,I4 x.n.b,I4 x.n.c]) ?_;refine Z0<|Zx<|Zq<|BI (n:=17) (0::1::3::7::15::0::32::0::128::480::1023::2047::4095::4095::0::24575::65535::[]) 49152 (by kernel_rfl) (by kernel_rfl) rfl ?_;refine Zi 1 0 rfl (AJ Y)<|Zi 3 1 rfl (Dz Y rfl)<|Zi 7 2 rfl (AZ (off:=0) underlying175 rfl rfl sizeOf173 Y)<|Zi 15 3 rfl (BH (off:=0) underlying173 rfl rfl sizeOf171 Y)<|Zj 31 4 rfl isAgg171 Y ?_;refine Zi 63 5 rfl (AZ (off:=0) underlying77 rfl rfl sizeOf3 Y)<|Zj 127 6 rfl isAgg3 Y ?_;refine Zi 255 7 rfl (AZ (off:=1) underlying77 rfl rfl sizeOf3 Y)<|Zj 511 8 rfl isAgg3 Y ?_;refine Zi 1023 9 rfl (BK (vs:=[(0,_),(1,_)]) (cs:=#[_,_]) Y (Aa (pl:=#[(0,1),(1,1)]) zeroValue178 underlying178 (fun _=>by kernel_rfl) rfl)) ?_;refine Cj (D':=2047) 10 rfl rfl rfl Wh (OG jg underlying171 zeroValue113 hm hR.keys (hkd) (hget) Y Y) ?_;refine Zi 4095 11 rfl (AJ Y)<|Zi 8191 12 rfl (Cc Y rfl)<|Zi 16383 13 rfl (Cc Y rfl)<|Zz (l:=[14]) ?_;refine Zy 0 32767 [10,8,6,4] [true,true,true,true] [(10,(_,_)),(8,(_,_)),(6,(_,_)),(4,(_,_))] rfl Y rfl rfl rfl rfl (Al zeroValue113 #[_,_,_,_,_]) ?hk_3 (fun _ _ h=>h.elim) ?hl_3
  case hk_3=>
   rintro _ _ ⟨ob,rfl,rfl⟩;refine ⟨Zk (Zk (Zk (Zk (Ad)))),?_⟩;refine Yw 15 65535 rfl (Xw sizeOf113 #[I4 gr.1.t,I4 gr.1.k,I4 gr.1.v.a,I4 gr.1.v.b,I4 gr.1.v.c]) ?_;rintro _ _ ⟨rfl,rfl⟩;refine Zi 131071 16 rfl (Ay Y)<|Am ?_;refine Zn [0,5,7,8,9,31,32,33] ?_;refine Zx<|Zq<|Zq<|Zg<|Zm Y<|Zh 2 underlying77 rfl rfl sizeOf4 Y<|Zl isAgg4 Y ?_;refine Zv (K6 underlying4 Y Y)<|Zm Y ?_;refine Aj (t:=55) Y rfl (fun hd1=>?_) (fun hd1=>?_)
   ·
    exfalso;contradiction
   refine Zf Y Y<|Zf Y Y ?_;refine Ai (t:=57) Y rfl (fun hd2=>?_) (fun hd2=>?_)
   ·
    refine Yf 2 underlying113 rfl rfl sizeOf75 Y<|DL Y Wh (Pa #[_,_,_] isAgg75 sizeOf75 Y) rfl rfl ?_;refine Yf 3 underlying77 rfl rfl sizeOf75 Y<|DL Y Wh (Pa #[_,_,_] isAgg75 sizeOf75 Y) rfl rfl ?_;refine Yg (K7 (by kernel_rfl) underlying75 underlying3 isAgg3 sizeOf3 Y Y) ?_;refine Yg (AL Y Y)<|Zv (AA Y Y)<|Z0<|Zn [0,5,7,31,32,33,64] ?_;refine Zx ?_;refine Ao Y (fun hd3=>?_) (fun hd3=>?_)
    ·
     exfalso;exact hd3 (hf2 hd2)
    refine AC<|Zx<|Zq<|Zq<|Zg<|Zh 2 underlying77 rfl rfl sizeOf4 Y<|Zl isAgg4 Y ?_;refine Z0<|Zx ?_;refine Af Y (fun hh1=>?_) (fun hh1=>?_)
    ·
     refine Zg<|Zm Y ?_
     (refine BM (G8 Y Y (IntWalk.i64_in _ ?_)) ?_;(focus (omega)))
     refine Za Y<|Z0<|Zx<|Zq<|Zg<|Zh 6 underlying77 rfl rfl sizeOf4 Y<|Zl isAgg4 Y ?_;refine Z0<|Zx ?_;refine Af Y (fun hh2=>?_) (fun hh2=>?_)
     ·
      refine Zg<|Zm Y<|Yi Y Y<|Za Y<|Z0<|A8<|Zx<|Zg<|Ya (n:=1) Y Y<|Zm Y<|Z0<|Zn [5,33,0,31,32] ?_;refine Ab (e':=[(5,_),(33,_)]) (by exact ⟨i+1,rfl,by omega,by rw [ZB hx hh1 hh2],rfl⟩)
     refine AC<|A8<|Zx<|Zg<|Ya (n:=1) Y Y<|Zm Y<|Z0<|Zn [5,33,0,31,32] ?_;refine Ab (e':=[(5,_),(33,_)]) (by exact ⟨i+1,rfl,by omega,by rw [ZC hx hh1 hh2],rfl⟩)
    refine AC<|Zx<|Zq<|Zg<|Zh 6 underlying77 rfl rfl sizeOf4 Y<|Zl isAgg4 Y ?_;refine Z0<|Zx ?_;refine Af Y (fun hh2=>?_) (fun hh2=>?_)
    ·
     refine Zg<|Zm Y<|Yi Y Y<|Za Y<|Z0<|A8<|Zx<|Zg<|Ya (n:=1) Y Y<|Zm Y<|Z0<|Zn [5,33,0,31,32] ?_;refine Ab (e':=[(5,_),(33,_)]) (by exact ⟨i+1,rfl,by omega,by rw [ZE hx hh1 hh2],rfl⟩)
    refine AC<|A8<|Zx<|Zg<|Ya (n:=1) Y Y<|Zm Y<|Z0<|Zn [5,33,0,31,32] ?_;refine Ab (e':=[(5,_),(33,_)]) (by exact ⟨i+1,rfl,by omega,by rw [ZF hx hh1 hh2],rfl⟩)
   refine A7 Y rfl<|A7 Y rfl<|A7 Y rfl<|A7 Y rfl<|A7 Y rfl<|Yg (AA Y Y)<|Zv (AA Y Y)<|Z0<|Zn [0,5,7,31,32,33,64] ?_;refine Zx<|Di Y<|AC<|Zx<|Zq<|Zq<|Zg<|Zh 2 underlying77 rfl rfl sizeOf4 Y<|Zl isAgg4 Y ?_;refine Z0<|Zx ?_;refine Af Y (fun hh1=>?_) (fun hh1=>?_)
   ·
    refine Zg<|Zm Y ?_
    (refine BM (G8 Y Y (IntWalk.i64_in _ ?_)) ?_;(focus (omega)))
    refine Za Y<|Z0<|Zx<|Zq<|Zg<|Zh 6 underlying77 rfl rfl sizeOf4 Y<|Zl isAgg4 Y ?_;refine Z0<|Zx ?_;refine Af Y (fun hh2=>?_) (fun hh2=>?_)
    ·
     refine Zg<|Zm Y<|Yi Y Y<|Za Y<|Z0<|A8<|Zx<|Zg<|Ya (n:=1) Y Y<|Zm Y<|Z0<|Zn [5,33,0,31,32] ?_;refine Ab (e':=[(5,_),(33,_)]) (by exact ⟨i+1,rfl,by omega,by rw [ZB hx hh1 hh2],rfl⟩)
    refine AC<|A8<|Zx<|Zg<|Ya (n:=1) Y Y<|Zm Y<|Z0<|Zn [5,33,0,31,32] ?_;refine Ab (e':=[(5,_),(33,_)]) (by exact ⟨i+1,rfl,by omega,by rw [ZC hx hh1 hh2],rfl⟩)
   refine AC<|Zx<|Zq<|Zg<|Zh 6 underlying77 rfl rfl sizeOf4 Y<|Zl isAgg4 Y ?_;refine Z0<|Zx ?_;refine Af Y (fun hh2=>?_) (fun hh2=>?_)
   ·
    refine Zg<|Zm Y<|Yi Y Y<|Za Y<|Z0<|A8<|Zx<|Zg<|Ya (n:=1) Y Y<|Zm Y<|Z0<|Zn [5,33,0,31,32] ?_;refine Ab (e':=[(5,_),(33,_)]) (by exact ⟨i+1,rfl,by omega,by rw [ZE hx hh1 hh2],rfl⟩)
   refine AC<|A8<|Zx<|Zg<|Ya (n:=1) Y Y<|Zm Y<|Z0<|Zn [5,33,0,31,32] ?_;refine Ab (e':=[(5,_),(33,_)]) (by exact ⟨i+1,rfl,by omega,by rw [ZF hx hh1 hh2],rfl⟩)
  exact Aw
 have ei:i=cs.length:=by omega
 subst ei;rw [uQ]at hsl⊢;refine Ar<|Zt<|Zt<|AO<|Zx<|Zq<|Zg<|Zm Y<|Zv (Kn Y Y)<|Za Y<|Z0<|Zx<|A9 ?_;refine AB rfl results107 Y (by exact ⟨by rw [decide_eq_true hA.size],rfl⟩)
theorem gV(sp mb:Nat)(p rp:Int)(es:Array MapEntry)(ck:Nat)(lm:List ((Int×Int)×Value))(rs:List AP)(M:List AR)(q:Option Addr)(cap:Nat)(cs:List Chg)(hm:Ex K2 es ck lm)(hR:GX lm rs)(hO:Dh M (.slice q cs.length cap) cs)(hs:BJ rs)(hn:rs.length≤2000)(hA:M9 rs p rp cs):
 CO Tryz.prog 46 #[I5 sp,.agg #[I4 rp,.slice q cs.length cap]] [[(sp,.cells #[.map (some mb),I4 p] 175 (0,0))],[(mb,.map es ck)],M] (fun r H'=>r=I4 0∧∃es' ck' lm',Ex K2 es' ck' lm'∧GX lm' (DD rs cs)∧H'=[[(sp,.cells #[.map (some mb),I4 rp] 175 (0,0))],[(mb,.map es' ck')],M]):=by
 have hml:=mL;obtain ⟨p9,cap9,e9,hol,hg⟩:=id hO;injection e9 with e91 e92 e93
 subst e91 e93;have hok:=hA.ok
 have hpo:=hA.pos;have hcl:=hok.len
 have hrp:=hok.pos;have hasc:=RF hok.ord
 refine Se func46 ntmps46 [0,1] ?_;intro u R;refine Zq<|Zg<|Ze (Bx #[_,_]) ?_;rintro _ _ ⟨b1,rfl,rfl⟩;refine Za Y<|Z0<|Zx<|Zq<|AQ<|Zq<|Zg<|Zm Y<|Zv (F7 underlying33 Y Y)<|Za Y<|Z0<|Zx ?_;refine Af Y (fun h1=>?_) (fun h1=>?_)
 ·
  cases h1
 refine Zq<|Zg<|Zm Y<|Zo Wh (Pa #[_,_] isAgg73 sizeOf73 Y) ?_;refine Xr [_,_] Y call107 Y rfl (lc sp mb p rp es ck lm rs M q cap cs hm hR hO hs hn hA) ?_;refine Zv (Ca Y)<|Za Y<|Z0<|Zx ?_;refine Af Y (fun h2=>?_) (fun h2=>?_)
 ·
  cases h2
 refine AC<|A8<|Zx<|Zq<|Zq<|Zg<|Zh 1 underlying73 rfl rfl sizeOf71 Y<|Zl isAgg71 Y ?_;refine Zv (AV underlying71 Y)<|Zm Y<|Z0<|Zn [0,3,19,20,21] ?_;refine Zx<|AQ<|Zb [21,0,3,19,20] ?_;refine Az (e0:=[(21,_)]) (fun m e H=>∃(i:Nat) (es:Array MapEntry) (ck:Nat) (lm:List ((Int×Int)×Value)),m=cs.length -i∧(i≤cs.length∧Ex K2 es ck lm∧GX lm (DD rs (cs.take i)))∧e=[(21,I4 (i:Int))]∧H=[[(mb,.map es ck)]]) (by exact ⟨0,es,ck,lm,rfl,⟨tX _,hm,by rw [ut];exact hR⟩,rfl,rfl⟩) Wp ?_;rintro _ _ _ ⟨i,es1,ck1,lm1,rfl,⟨hi,hm1,hR1⟩,rfl,rfl⟩;refine Zq<|Zg<|Zv (Aq Y Y)<|Z0<|Zx<|Zq ?_;refine Ao Y (fun hlt=>?_) (fun hlt=>?_)
 ·
  obtain ⟨x,hx⟩:∃x,cs[i]?=some x:=⟨_,tF hlt⟩;obtain ⟨g,off,cur,T,zz,rfl,hm9,hsz,hex⟩:=hg i x hx;have hxo:=hok.all i x hx
  have hkd:=kT hxo;obtain ⟨hso,hfi⟩:=Jp hs hasc hA.fit i hi;have hfx:=hfi i x (tQ _) hx
  refine AC<|Zx<|Zq<|AQ<|Zq<|Zg ?_;refine BM (AU underlying71 sizeOf77 Y Y (by first|omega|decide|(simp;done))) ?_;refine Cf (cs:=[(g,.cells cur T zz)]) (by simp [hm9]) (AX (cs:=#[I4 x.t,I4 x.k,.bool x.had,I4 x.o.a,I4 x.o.b,I4 x.o.c,.bool x.has,I4 x.n.a,I4 x.n.b,I4 x.n.c]) isAgg77 sizeOf77 Y (by omega) hex) rfl rfl ?_;refine Ze (Al zeroValue77 #[_,_,_,_,_,_,_,_,_,_]) ?_;rintro _ _ ⟨cb,rfl,rfl⟩;refine Xe (Xw sizeOf77 #[I4 x.t,I4 x.k,.bool x.had,I4 x.o.a,I4 x.o.b,I4 x.o.c,.bool x.has,I4 x.n.a,I4 x.n.b,I4 x.n.c]) ?_;refine Z0<|Zx<|Zq<|Zg<|Zh 0 underlying77 rfl rfl sizeOf3 Y<|Zl isAgg3 Y ?_;refine Zh 1 underlying77 rfl rfl sizeOf3 Y<|Zl isAgg3 Y ?_;refine Zv (BK (vs:=[(0,_),(1,_)]) (cs:=#[_,_]) Y (Aa (pl:=#[(0,1),(1,1)]) zeroValue178 underlying178 (fun _=>by kernel_rfl) rfl)) ?_;refine Ze (Al zeroValue178 #[_,_]) ?_;rintro _ _ ⟨kb,rfl,rfl⟩;refine Xe (BN sizeOf178 Y Y (by(simp [Value.oneCell',Value.cells];done)) Wu (by exact (rfl:_=(#[I4 x.t,I4 x.k]:Array Value))) (by first|rfl|(simp;done)) Wb (by exact BQ _)) ?_;refine Z0<|Zx<|Zq<|Zg<|Zo Wh (Pa #[_,_,_,_,_,_,_,_,_,_] isAgg77 sizeOf77 Y) ?_;refine Xr [_] Y call108 Y rfl (Q0 x) ?_;refine Zm Y<|Zd Y rfl<|Zd Y rfl<|Ze (Al zeroValue113 #[_,_,_,_,_]) ?_;rintro _ _ ⟨xb,rfl,rfl⟩;refine Xe (Xw sizeOf113 #[I4 (EK x x.has x.n).t,I4 (EK x x.has x.n).k,I4 (EK x x.has x.n).v.a,I4 (EK x x.has x.n).v.b,I4 (EK x x.has x.n).v.c]) ?_;refine Za Y<|Z0<|Zn [0,3,7,8,9,19,20,21] ?_;refine Zx<|Zq<|Zg<|Zm Y<|Z0<|Zx ?_;refine Af Y (fun hh=>?_) (fun hh=>?_)
  ·
   rw [jh hh];refine BI (n:=8) (0::1::3::7::15::0::0::127::[]) 128 (by kernel_rfl) (by kernel_rfl) rfl ?_;refine Zi 1 0 rfl (AJ Y)<|Zi 3 1 rfl (Dz Y rfl)<|Zi 7 2 rfl (AZ (off:=0) underlying175 rfl rfl sizeOf173 Y)<|Zi 15 3 rfl (BH (off:=0) underlying173 rfl rfl sizeOf171 Y)<|Zj 31 4 rfl isAgg171 Y ?_;refine Cj (D':=63) 5 rfl rfl rfl Wh (Pa #[_,_] isAgg178 sizeOf178 Y) ?_;refine Cj (D':=127) 6 rfl rfl rfl Wh (Pa #[_,_,_,_,_] isAgg113 sizeOf113 Y) ?_;refine Yw 7 255 rfl (KZ jg underlying171 hm1 hR1.keys (hkd) Y Y Y Wo) ?_;rintro _ _ ⟨rfl,es2,ck2,lm2,hm2,hp2,rfl⟩;have hR2:GX lm2 (DD rs (cs.take (i+1))):=by rw [E9 rs cs i x hx];exact hR1.put hso hfx hh hkd hp2
   refine Am ?_;refine A8<|Zx<|Zg<|Ya (n:=1) Y Y<|Zm Y<|Z0<|Zn [21,0,3,19,20] ?_;refine Ab (e':=[(21,_)]) (by exact ⟨i+1,es2,ck2,lm2,rfl,⟨by omega,hm2,hR2⟩,rfl,rfl⟩)
  refine BI (n:=7) (0::1::3::7::15::0::63::[]) 64 (by kernel_rfl) (by kernel_rfl) rfl ?_;refine Zi 1 0 rfl (AJ Y)<|Zi 3 1 rfl (Dz Y rfl)<|Zi 7 2 rfl (AZ (off:=0) underlying175 rfl rfl sizeOf173 Y)<|Zi 15 3 rfl (BH (off:=0) underlying173 rfl rfl sizeOf171 Y)<|Zj 31 4 rfl isAgg171 Y ?_;refine Cj (D':=63) 5 rfl rfl rfl Wh (Pa #[_,_] isAgg178 sizeOf178 Y) ?_;refine Yw 6 127 rfl (fV jg underlying171 hm1 hR1.keys (hkd) Y Y Wo) ?_;rintro _ _ ⟨rfl,es2,ck2,lm2,hm2,hp2,rfl⟩;have hR2:GX lm2 (DD rs (cs.take (i+1))):=by rw [E9 rs cs i x hx];exact hR1.drop hso hfx hh hp2
  refine Am ?_;refine A8<|Zx<|Zg<|Ya (n:=1) Y Y<|Zm Y<|Z0<|Zn [21,0,3,19,20] ?_;refine Ab (e':=[(21,_)]) (by exact ⟨i+1,es2,ck2,lm2,rfl,⟨by omega,hm2,hR2⟩,rfl,rfl⟩)
 have ei:i=cs.length:=by omega
 subst ei;rw [uQ]at hR1;refine Ar<|Zt<|Zt<|AO<|Zx<|Zq<|Zg<|Zm Y<|Zh 0 underlying73 rfl rfl sizeOf3 Y<|Zl isAgg3 Y ?_;refine Zp Y rfl<|Zh 0 underlying175 rfl rfl sizeOf173 Y<|Zv (BH (off:=1) underlying173 rfl rfl sizeOf3 Y)<|Xe (Zs sizeOf3 Y Y rfl (hc:=by exact (rfl:_=(#[.map (some mb),I4 rp]:Array Value))) (hi:=by first|omega|decide|(simp;done))) ?_;refine Z0<|Zx<|Zq<|Zg<|Za Y<|Z0<|Zx<|A9 ?_;refine AB rfl results46 Y (by exact ⟨rfl,es1,ck1,lm1,hm1,hR1,rfl⟩)
theorem qQ(q:Option Addr)(cap:Nat)(l:List Br)(M:List AR)(hRI:Du M (.slice q l.length cap) l)(hlog:DW l)(hl:l.length≤1000000)(k:Nat)(hk:k≤l.length):
 CO Tryz.prog 13 #[.slice q l.length cap,I4 (k:Int)] [M] (fun r H'=>∃sp mb es ck lm,r= .tuple #[I5 sp,I4 0]∧Ex K2 es ck lm∧GX lm (Bh (l.take k))∧H'=[[(sp,.cells #[.map (some mb),I4 (k:Int)] 175 (0,0))],[(mb,.map es ck)],M]):=by
 have hml:=mL;obtain ⟨p9,cap9,e9,⟨hol,hlc⟩,hg⟩:=id hRI;injection e9 with e91 e92 e93
 subst e91 e93;refine Se func13 ntmps13 [0,1] ?_;intro u R;refine Zq<|Zg<|Za Y<|Za Y<|Z0<|Zx<|Zq<|Zq<|Zg<|Zm Y<|Zv (Aq (n:=0) Y Y)<|Zm Y ?_;refine Aj (t:=11) Y rfl (fun h1=>?_) (fun h1=>?_)
 ·
  exfalso;(cases h1;done)
 refine Zf Y Y<|Zf Y Y<|Yg (AV underlying28 Y)<|Yg (DJ Y Y)<|Zv (AA Y Y)<|Z0<|Zx ?_;refine Ao Y (fun h2=>?_) (fun h2=>?_)
 ·
  exfalso;omega
 refine AC<|Zx<|Zq<|Zg<|Zc [] Y call43 Y rfl (gU) ?_;rintro _ _ ⟨_,⟨sp,mb,rfl,rfl⟩,rfl⟩;refine Za Y<|Z0<|Zx<|Zq<|Zq<|Zg<|Zm Y<|Zm Y ?_;refine BM (Bc underlying28 sizeOf73 Y Y (by first|omega|decide|(simp;done))) ?_;refine Zv (AV underlying28 Y)<|Zm Y<|Z0<|Zn [6,20,21,22] ?_;refine Zx<|AQ<|Zb [22,6,20,21] ?_;refine Az (e0:=[(22,_)]) (fun m e H=>∃(i:Nat) (es:Array MapEntry) (ck:Nat) (lm:List ((Int×Int)×Value)),m=k -i∧(i≤k∧Ex K2 es ck lm∧GX lm (Bh (l.take i)))∧e=[(22,I4 (i:Int))]∧H=[[(sp,.cells #[.map (some mb),I4 (i:Int)] 175 (0,0))],[(mb,.map es ck)]]) (by exact ⟨0,#[],0,[],rfl,⟨tX _,Qj _,by rw [ut];exact jI⟩,rfl,rfl⟩) Wp ?_;rintro _ _ _ ⟨i,es,ck,lm,rfl,⟨hi,hm,hR⟩,rfl,rfl⟩;refine Zq<|Zg<|Zv (Aq Y Y)<|Z0<|Zx<|Zq ?_;refine Ao Y (fun hlt=>?_) (fun hlt=>?_)
 ·
  obtain ⟨r,hr⟩:∃r,l[i]?=some r:=⟨_,tF (by omega)⟩;obtain ⟨hOr,g,off,cur,T,zz,rfl,hm9,hsz,hex⟩:=hg i r hr;obtain ⟨hA,h3⟩:=hlog i r hr;have hrp:=hA.pos
  obtain ⟨hso,hle⟩:=hlog.rows i (by omega);refine AC<|Zx<|Zq<|AQ<|Zq<|Zg ?_;refine BM (AU underlying28 sizeOf73 Y Y (by first|omega|decide|(simp;done))) ?_;refine Cf (cs:=[(g,.cells cur T zz)]) (by simp [hm9]) (AX (cs:=#[I4 r.p,.slice r.q r.cs.length r.cap]) isAgg73 sizeOf73 Y (by omega) hex) rfl rfl ?_;refine Ze (Al zeroValue73 #[_,_]) ?_;rintro _ _ ⟨rb,rfl,rfl⟩;refine Xe (Xw sizeOf73 #[I4 r.p,.slice r.q r.cs.length r.cap]) ?_;refine Z0<|Zx<|Zq<|Zg<|Zm Y<|Zo Wh (Pa #[_,_] isAgg73 sizeOf73 Y) ?_;refine Zc [_,_] Y call46 Y rfl (gV sp mb (i:Int) r.p es ck lm (Bh (l.take i)) M r.q r.cap r.cs hm hR hOr hso hle hA) ?_;rintro _ _ ⟨_,⟨rfl,es2,ck2,lm2,hm2,hR2,rfl⟩,rfl⟩;have hR3:GX lm2 (Bh (l.take (i+1))):=by rw [vK,hr];show GX lm2 (Bh (l.take i++[r]));rw [FI];exact hR2
  rw [show r.p=((i+1:Nat):Int) by rw [hrp];rfl];refine Zv (Dw (n:=0) Y Y)<|Z0<|Zx ?_;refine Ao Y (fun h4=>?_) (fun h4=>?_)
  ·
   exfalso;exact h4 rfl
  refine AC<|A8<|Zx<|Zg<|Ya (n:=1) Y Y<|Zm Y<|Z0<|Zn [22,6,20,21] ?_;refine Ab (e':=[(22,_)]) (by exact ⟨i+1,es2,ck2,lm2,rfl,⟨by omega,hm2,hR3⟩,rfl,rfl⟩)
 have ei:i=k:=by omega
 subst ei;refine Ar<|Zt<|Zt<|AO<|Zx<|Zq<|Zg<|Zm Y<|Za Y<|Za Y<|Z0<|Zx<|A9 ?_;refine Da rfl results13 Y Y (by exact ⟨sp,mb,es,ck,lm,rfl,hm,hR,rfl⟩)
theorem Vf(sp:Nat)(p rp:Int)(v:Value)(rs:List AP)(sv M:List AR)(q:Option Addr)(capc:Nat)(cs:List Chg)(hrow:BX 5 113 v rs.length (Ac rs) sv)(hO:Dh M (.slice q cs.length capc) cs)(hs:BJ rs)(hn:rs.length≤2000)(hp:0≤p∧p≤10000)(hA:M9 rs p rp cs):
 CO Tryz.prog 48 #[I5 sp,.agg #[I4 rp,.slice q cs.length capc]] [[(sp,.cells #[v,I4 p] 182 (0,0))],sv,M] (fun r H'=>r=I4 0∧∃v' sv',BX 5 113 v' (DD rs cs).length (Ac (DD rs cs)) sv'∧H'=[[(sp,.cells #[v',I4 rp] 182 (0,0))],sv',M]):=
 Jw.mono (Vg sp p rp v rs sv M q capc cs hrow hO hs hn hp) (fun r H' h=>by
  rcases h with⟨_,v',sv',rfl,h,rfl⟩|⟨h,_⟩
  · exact ⟨rfl,v',sv',h,rfl⟩
  · exact absurd hA h) (fun _ _ h=>h)
def DR(r:AP)(c:Nat):Int:=if c=0 then r.k else if c=1 then r.v.a else if c=2 then r.v.b else r.v.c
theorem lS{r:AP}{c:Nat}(h1:1≤c)(h3:c≤3):(#[I4 r.t,I4 r.k,I4 r.v.a,I4 r.v.b,I4 r.v.c]:Array Value)[0+2+(c -1)]?=some (I4 (DR r c)):=by
 rcases (by omega:c=1∨c=2∨c=3)with rfl|rfl|rfl<;>rfl
theorem Vh(r:AP)(c:Nat)(hc:c≤3):Av Tryz.prog 58 #[.agg #[I4 r.t,I4 r.k,I4 r.v.a,I4 r.v.b,I4 r.v.c],I4 (c:Int)] [] (I4 (DR r c)):=by
 refine Se func58 ntmps58 [0,1] ?_;intro u R;refine Zq<|Zg<|Ze (Bx #[_,_,_,_,_]) ?_;rintro _ _ ⟨b1,rfl,rfl⟩;refine Za Y<|Z0<|Zx<|Zq<|Zq<|Zg<|Zm Y<|Zv (C8 (n:=0) Y Y)<|Z0<|Zx ?_;refine Ao Y (fun h0=>?_) (fun h0=>?_)
 ·
  refine Zq<|Zg<|Zh 1 underlying113 rfl rfl sizeOf3 Y<|Zl isAgg3 Y ?_;refine Za Y<|Z0<|Zx<|A9<|Zt ?_;refine AB rfl results58 Y (by exact ⟨by unfold DR;rw [if_pos (by omega)],rfl⟩)
 refine AC<|Zx<|Zq<|Zq<|Zg<|Zm Y<|Xr [_,_,_] Y call130 Y rfl (Ii (c:Int) 1 3) ?_;refine Z0<|Zx ?_;refine Ao Y (fun h1=>?_) (fun h1=>?_)
 ·
  refine Zq<|Zg<|Zm Y<|Yb (n:=1) Y Y<|Zh 2 underlying113 rfl rfl sizeOf75 Y ?_;refine BM (CR underlying75 sizeOf3 Y Y (by omega)) ?_;refine Zo Wh (Bf (v:=I4 (DR r c)) isAgg3 Y (by simpa using lS (r:=r) (c:=c) (by omega) hc)) ?_;refine Za Y<|Z0<|Zx<|A9<|Zt ?_;refine AB rfl results58 Y (by exact ⟨rfl,rfl⟩)
 refine AC<|Zx<|Zq<|Zg<|Za Y<|Z0<|Zx<|A9 ?_;refine AB rfl results58 Y (by exfalso;omega)
def O8(c:Nat)(out:List AP)(v:Int):Nat:=(out.reverse.dropWhile (fun r=>decide (v<DR r c))).length
theorem Sr{c:Nat}{out:List AP}{v:Int}{k:Nat}(hk:k≤out.length)(h1:∀(j:Nat) (r:AP),k≤j→out[j]?=some r→v<DR r c)(h2:k=0∨∃r,out[k -1]?=some r∧DR r c≤v):O8 c out v=k:=by
 unfold O8;have e:out.reverse=(out.drop k).reverse++(out.take k).reverse:=by rw [←wX,uY]
 rw [e,List.dropWhile_append_of_pos]
 · rcases h2 with rfl|⟨r,hr,hv⟩
   · simp
   · have hlt:=(tH.1 hr).1
     rcases vJ k with rfl|hp
     · simp
     · obtain ⟨m,rfl⟩:∃m,k=m+1:=⟨k -1,by omega⟩
       rw [vk]at hr;rw [vK,hr];simp only [Option.toList,wX,List.reverse_cons,List.reverse_nil,vN,wH];rw [List.dropWhile_cons,if_neg (by simp;omega)];simp only [tY,xS,tL];omega
 · intro r hr
   rw [xx]at hr;obtain ⟨j,hj⟩:=uV hr;rw [uw]at hj;simpa using h1 (k+j) r (by omega) hj
def Rj(c:Nat)(out:List AP)(x:AP):List AP:=out.take (O8 c out (DR x c))++[x]++out.drop (O8 c out (DR x c))
def inR(t:Int)(c:Nat)(lo hi:Int)(r:AP):Bool:=decide (r.t=t∧lo≤DR r c∧DR r c≤hi)
def Ci(rs:List AP)(t:Int)(c:Nat)(lo hi:Int):List AP:=(rs.filter (inR t c lo hi)).foldl (Rj c) []
theorem bI{rs:List AP}{t:Int}{c:Nat}{lo hi:Int}{i:Nat}{x:AP}(hx:rs[i]?=some x)(h:x.t=t∧lo≤DR x c∧DR x c≤hi):Ci (rs.take (i+1)) t c lo hi=Rj c (Ci (rs.take i) t c lo hi) x:=by
 have h9:inR t c lo hi x=true:=decide_eq_true h;unfold Ci;rw [vK,hx];simp [um,h9,wJ]
theorem MH{rs:List AP}{t:Int}{c:Nat}{lo hi:Int}{i:Nat}{x:AP}(hx:rs[i]?=some x)(h:¬(x.t=t∧lo≤DR x c∧DR x c≤hi)):Ci (rs.take (i+1)) t c lo hi=Ci (rs.take i) t c lo hi:=by
 have h9:inR t c lo hi x=false:=decide_eq_false h;unfold Ci;rw [vK,hx];simp [um,h9]
theorem iM(sp:Nat)(p:Int)(v:Value)(rs:List AP)(sv:List AR)(t:Int)(c:Nat)(lo hi:Int)(hrow:BX 5 113 v rs.length (Ac rs) sv)(hn:rs.length≤2000)(hc:c≤3):
 CO Tryz.prog 56 #[I5 sp,I4 t,I4 (c:Int),I4 lo,I4 hi] [[(sp,.cells #[v,I4 p] 182 (0,0))],sv] (fun r H'=>∃so,BX 5 113 r (Ci rs t c lo hi).length (Ac (Ci rs t c lo hi)) so∧H'=[so,[(sp,.cells #[v,I4 p] 182 (0,0))],sv]):=by
 have hml:=mL;obtain ⟨qv,capv,rfl⟩:=hrow.form;obtain ⟨p9,cap9,e9,hol,hg⟩:=Jb hrow (by omega);injection e9 with e91 e92 e93
 subst e91 e93;refine Se func56 ntmps56 [0,1,2,3,4] ?_;intro u R;refine Zq<|Zg<|Za Y<|Z0<|Zx<|Zq<|Zq<|Zg<|Zm Y<|Zv (Aq (n:=0) Y Y)<|Zm Y ?_;refine Aj (t:=18) Y rfl (fun h1=>?_) (fun h1=>?_)
 ·
  exfalso;(cases h1;done)
 refine Zf Y Y<|Yg (FR (n:=4) Y Y)<|Zv (AA Y Y)<|Z0<|Zx ?_;refine Ao Y (fun h2=>?_) (fun h2=>?_)
 ·
  exfalso;omega
 refine AC<|Zx<|Zq<|Zg<|Za Y<|Z0<|Zx<|Zq<|Zq<|Zg<|Za Y<|Z0<|Zx<|AQ<|Bd ?_;refine Zb [11,12,0,1,2,3,4] ?_;refine Az (e0:=[(11,_),(12,_)]) (fun m e H=>∃(i:Nat) (o:List AP) (w:Value) (so:List AR),m=rs.length -i∧(i≤rs.length∧o=Ci (rs.take i) t c lo hi∧o.length≤i∧BX 5 113 w o.length (Ac o) so)∧e=[(11,w),(12,I4 (i:Int))]∧H=[so]) (by exact ⟨0,[],.slice none 0 0,[],rfl,⟨tX _,by rw [ut];rfl,tQ _,BV 5 _⟩,rfl,rfl⟩) Wp ?_;rintro _ _ _ ⟨i,o,w,so,rfl,⟨hi2,ho,hol2,hro⟩,rfl,rfl⟩;obtain ⟨qo,capo,rfl⟩:=hro.form;have hco:=FD hro
 refine Zq<|Zq<|Zg<|Zm Y<|Zm Y<|Zp Y rfl<|Zh 0 underlying182 rfl rfl sizeOf45 Y<|Zl isAgg45 Y ?_;refine Zv (AV underlying45 Y)<|Zv (Aq Y Y)<|Z0<|Zx ?_;refine Ao Y (fun hlt=>?_) (fun hlt=>?_)
 ·
  obtain ⟨x,hx⟩:∃x,rs[i]?=some x:=⟨_,tF hlt⟩;obtain ⟨g,off,cur,T,zz,rfl,hm9,hsz,hex⟩:=hg i x hx;refine AC<|Zx<|Zq<|AQ<|Zq<|Zg<|Zm Y<|Zp Y rfl<|Zh 0 underlying182 rfl rfl sizeOf45 Y<|Zl isAgg45 Y ?_;refine Zm Y ?_;refine BM (AU underlying45 sizeOf113 Y Y (by omega)) ?_;refine Cf (cs:=[(g,.cells cur T zz)]) (by simp [hm9]) (AX (cs:=#[I4 x.t,I4 x.k,I4 x.v.a,I4 x.v.b,I4 x.v.c]) isAgg113 sizeOf113 Y (by omega) hex) rfl rfl ?_;refine Ze (Al zeroValue113 #[_,_,_,_,_]) ?_;rintro _ _ ⟨xb,rfl,rfl⟩;refine Xe (Xw sizeOf113 #[I4 x.t,I4 x.k,I4 x.v.a,I4 x.v.b,I4 x.v.c]) ?_;refine Z0<|Zn [0,1,2,3,4,11,12,13] ?_;refine Zx<|Zq<|Zg<|Zo Wh (Pa #[_,_,_,_,_] isAgg113 sizeOf113 Y) ?_;refine Zm Y<|Xr [_,_] Y call58 Y rfl (Vh x c hc) ?_;refine Za Y<|Z0<|Zx<|Zq<|Zq<|Zg<|Zh 0 underlying113 rfl rfl sizeOf3 Y<|Zl isAgg3 Y ?_;refine Zm Y<|Zv (IL Y Y)<|Zm Y ?_;refine Aj (t:=45) Y rfl (fun hg1=>?_) (fun hg1=>?_)
  ·
   refine A7 Y rfl<|A7 Y rfl<|A7 Y rfl<|Zv (AL Y Y)<|Zm Y<|A7 Y rfl<|A7 Y rfl<|A7 Y rfl<|Zv (AL Y Y)<|Z0<|Zn [0,1,2,3,4,11,12,13,14,54] ?_;refine Zx<|CE Y<|Ar<|Zt<|AO<|Zx<|Zg<|Zm Y<|Ya (n:=1) Y Y<|Za Y<|Z0<|Zn [11,12,0,1,2,3,4] ?_;refine Ab (e':=[(11,_),(12,_)]) (by exact ⟨i+1,o,_,so,rfl,⟨by omega,by rw [ho,MH hx (by omega)],by omega,hro⟩,rfl,rfl⟩)
  refine Zf Y Y<|Zf Y Y<|Yg (Eb Y Y)<|Zv (AA Y Y)<|Zm Y ?_;refine Aj (t:=50) Y rfl (fun hg2=>?_) (fun hg2=>?_)
  ·
   refine A7 Y rfl<|A7 Y rfl<|A7 Y rfl<|Zv (AL Y Y)<|Z0<|Zn [0,1,2,3,4,11,12,13,14,54] ?_;refine Zx<|CE Y<|Ar<|Zt<|AO<|Zx<|Zg<|Zm Y<|Ya (n:=1) Y Y<|Za Y<|Z0<|Zn [11,12,0,1,2,3,4] ?_;refine Ab (e':=[(11,_),(12,_)]) (by exact ⟨i+1,o,_,so,rfl,⟨by omega,by rw [ho,MH hx (by omega)],by omega,hro⟩,rfl,rfl⟩)
  refine Zf Y Y<|Zf Y Y<|Yg (Es Y Y)<|Zv (AA Y Y)<|Z0<|Zn [0,1,2,3,4,11,12,13,14,54] ?_;refine Zx ?_;refine Ao Y (fun hg3=>?_) (fun hg3=>?_)
  ·
   refine Ar<|Zt<|AO<|Zx<|Zg<|Zm Y<|Ya (n:=1) Y Y<|Za Y<|Z0<|Zn [11,12,0,1,2,3,4] ?_;refine Ab (e':=[(11,_),(12,_)]) (by exact ⟨i+1,o,_,so,rfl,⟨by omega,by rw [ho,MH hx (by omega)],by omega,hro⟩,rfl,rfl⟩)
  refine AC<|Zx<|Zq<|Zg<|Zm Y<|Zv (AV underlying45 Y)<|Za Y<|Z0<|Zx<|Zb [14,15,0,1,2,3,4,11,12,13] ?_;refine CW (e0:=[(14,_),(15,_)]) (H0:=[]) (fun e H=>∃(k:Nat),(k≤o.length∧O8 c o (DR x c)=k)∧e=[(15,I4 (k:Int))]∧H=[]) Wp ?hx_5 ?hy_5
  case hx_5=>
   refine AQ<|Zb [15,0,1,2,3,4,11,12,13,14] ?_;refine Az (e0:=[(15,_)]) (fun m e H=>∃(k:Nat),m=0+k∧(k≤o.length∧(∀(j:Nat) (r:AP),k≤j→o[j]?=some r→DR x c<DR r c))∧e=[(15,I4 (k:Int))]∧H=[]) (by exact ⟨o.length,rfl,⟨tQ _,by intro j r hj hr;have:=(tH.1 hr).1;omega⟩,rfl,rfl⟩) Wp ?_;rintro _ _ _ ⟨k,rfl,⟨hk,hab⟩,rfl,rfl⟩;refine Zq<|Zq<|Zg<|Zm Y<|Zv (DJ (n:=0) Y Y)<|Zm Y ?_;refine Aj (t:=59) Y rfl (fun hkp=>?_) (fun hkp=>?_)
   ·
    obtain ⟨y,hy⟩:∃y,o[k -1]?=some y:=⟨_,tF (by omega)⟩;obtain ⟨p8,cap8,e8,hol8,hgo⟩:=Jb hro (by omega);injection e8 with e81 e82 e83
    subst e81 e83;obtain ⟨g8,off8,cur8,T8,zz8,hq8,hm8,hsz8,hex8⟩:=hgo (k -1) y hy;subst hq8;refine Zf Y Y<|Zf Y Y ?_
    (refine FX Y (Bg (n:=1) Y Y ?_ ?_) rfl rfl ?_;(focus (omega));(focus (omega)))
    (refine FX Y (AU underlying45 sizeOf113 Y Y ?_) rfl rfl ?_;(focus (omega)))
    refine Qa Y (cs:=[(g8,.cells cur8 T8 zz8)]) (by simp [hm8]) (AX (cs:=#[I4 y.t,I4 y.k,I4 y.v.a,I4 y.v.b,I4 y.v.c]) isAgg113 sizeOf113 Y (by omega) hex8) rfl rfl ?_;refine Zf Y Y<|Xr [_,_] Y call58 Y rfl (Vh y c hc) ?_;refine Zf Y Y<|Yg (Es Y Y)<|Zv (AL Y Y)<|Z0<|Zn [0,1,2,3,4,11,12,13,14,15,69] ?_;refine Zx ?_;refine Ao Y (fun hgt=>?_) (fun hgt=>?_)
    ·
     refine AC<|Zx<|AQ<|Zg<|Zm Y<|Yb (n:=1) Y Y<|Za Y<|Z0<|A8<|Zn [15,0,1,2,3,4,11,12,13,14] ?_;refine Ab (e':=[(15,_)]) (by exact ⟨k -1,rfl,⟨by omega,by intro j r hj hr;rcases uJ j k with h9|h9;(have e:j=k -1:=by omega);subst e;rw [hy]at hr;injection hr with hr;subst hr;omega;exact hab j r h9 hr⟩,rfl,rfl⟩)
    refine Ar<|Zt<|Zt<|AO<|Zn [15,0,1,2,3,4,11,12,13] ?_;refine BB (e':=[(15,_)]) (by exact ⟨k,⟨hk,Sr hk hab (.inr ⟨y,hy,by omega⟩)⟩,rfl,rfl⟩)
   refine A7 Y rfl<|A7 Y rfl<|A7 Y rfl<|A7 Y rfl<|A7 Y rfl<|A7 Y rfl<|A7 Y rfl<|A7 Y rfl<|A7 Y rfl<|Zv (AA Y Y)<|Z0<|Zn [0,1,2,3,4,11,12,13,14,15,69] ?_;refine Zx<|Di Y<|Ar<|Zt<|Zt<|AO<|Zn [15,0,1,2,3,4,11,12,13] ?_;refine BB (e':=[(15,_)]) (by exact ⟨k,⟨hk,Sr hk hab (.inl (by omega))⟩,rfl,rfl⟩)
  rintro _ _ ⟨k,⟨hk2,hpv⟩,rfl,rfl⟩;refine BI (n:=12) (0::0::0::7::0::16::0::0::192::496::1023::2047::[]) 1568 (by kernel_rfl) (by kernel_rfl) rfl ?_;refine Zi 1 0 rfl (AJ Y)<|Zi 3 1 rfl (AJ Y)<|Zi 7 2 rfl (AJ Y) ?_;refine Zi 15 3 rfl (JH underlying45 sizeOf113 Y Y Y (by omega)) ?_;refine Cj (D':=31) 4 rfl rfl rfl Wh (Pa #[_,_,_,_,_] isAgg113 sizeOf113 Y) ?_;refine Zi 95 6 rfl (AJ Y)<|Zi 223 7 rfl (AJ Y) ?_;refine Zi 479 8 rfl (Bz underlying45 sizeOf113 Y Y (by omega)) ?_;refine Yw 5 511 rfl (Ae (vs:=[_]) (cs:=[_,_,_,_,_]) underlying45 sizeOf113 zeroValue113 Y rfl rfl rfl rfl rfl) ?_;rintro _ _ ⟨gb,rfl,rfl⟩;refine Yw 9 1023 rfl (BR (by_:=40) (sz:=5) underlying45 (rfl:Tryz.prog.info? 113=some Tryz.t113) rfl rfl rfl rfl Y (Iq 5 113 gb 1 (Ac [x]) rfl (by decide)) Y (Ie hro k (o.length -k) _ (by omega)) Wo Wo (by exact fun u hu=>CL o u (vC hu)) (by omega) (by omega)) ?_;rintro _ _ ⟨sa9,hra9,rfl⟩;obtain ⟨ga9,ca9,rfl⟩:=hra9.form;refine Yw 10 2047 rfl (KW (by_:=40) (sz:=5) underlying45 (rfl:Tryz.prog.info? 113=some Tryz.t113) rfl rfl rfl rfl Y (Ic hro k _ hk2) Y (U4 hra9) Wo Wo (by omega) (by omega) (by omega)) ?_;rintro _ _ ⟨sb9,hrb9,rfl⟩;have hnew:=BO hrb9 (n':=(o.take k++[x]++o.drop k).length) (xs':=Ac (o.take k++[x]++o.drop k)) (by simp only [tK,tL,tN,tT];omega) (by rw [BZ,BZ,DX,DK,tO])
  have hins:o.take k++[x]++o.drop k=Ci (rs.take (i+1)) t c lo hi:=by rw [bI hx (by omega),←ho];unfold Rj;rw [hpv]
  obtain ⟨gb9,cb9,rfl⟩:=hrb9.form;refine Zi 4095 11 rfl (Ay Y)<|Am ?_;refine A8<|Zx<|Zg<|Zm Y<|Ya (n:=1) Y Y<|Za Y<|Z0<|Zn [11,12,0,1,2,3,4] ?_;refine Ab (e':=[(11,_),(12,_)]) (by exact ⟨i+1,o.take k++[x]++o.drop k,_,_,rfl,⟨by omega,hins,by simp only [tK,tL,tN,tT];omega,hnew⟩,rfl,rfl⟩)
 have ei:i=rs.length:=by omega
 subst ei;rw [uQ]at ho;subst ho;refine Ar<|Zt<|Zt<|AO<|Zx<|Zq<|Zg<|Zm Y<|Za Y<|Z0<|Zx<|A9 ?_;refine AB rfl results56 Y (by exact ⟨so,hro,rfl⟩)
end Go.Proofs.YtkdgffcfmgmemaaGreatDoor
namespace Go.Proofs.YtkdgffcfmgmemaaGreatDoor
open Go.Proofs.Tryz
open Go Go.RowKit Gw
set_option maxRecDepth 100000
attribute [local irreducible] Gw.At Gw.Nx Gw.Ops
open Go.Sort
def Be(r:AP)(c:Int):Int:=if c=0 then r.k else if c=1 then r.v.a else if c=2 then r.v.b else if c=3 then r.v.c else 0
set_option maxHeartbeats 1000000 in
theorem JA(r:AP)(c:Int)(hc:0≤c∧c≤3)(W:World):Calls Tryz.prog 97 #[.agg #[I4 r.t,I4 r.k,I4 r.v.a,I4 r.v.b,I4 r.v.c],I4 c] W fun e w'=>e= .returned (I4 (Be r c))∧∃(q:Nat) (o:Obj),w'=grow (W.drewN q) #[o]:=by
 obtain ⟨t,k,⟨va,vb,vc⟩⟩:=r;rcases (by omega:c=0∨c=1∨c=2∨c=3)with rfl|rfl|rfl|rfl
 all_goals
  go_enter func97,ntmps97
  go_wp2
  go_ret
  exact ⟨rfl,0,_,by rw [alloc_eq_grow];rfl⟩
def orL(x y:Int):Int:=if x=0 then y else x
theorem j3(b:Nat)(x y:Int)(W:World)(h0:W.cell? ⟨b,0,none⟩=some (I4 x))(h1:W.cell? ⟨b,1,none⟩=some (I4 y)):Calls Tryz.prog 211 #[I6 b 2 2] W fun e w'=>e= .returned (I4 (orL x y))∧w'=W:=by
 generalize hz:orL x y=z;have HZ:=Lib.hid hz
 clear hz
 go_enter func211,ntmps211
 go_wp2
 go_loop [5,8] (fun _ i=>∃(j:Nat),i=I4 j∧(j=0∨(j=1∧x=0)∨(j=2∧x=0∧y=0))) (fun _ i=>2 -(intOf i).toNat)
 case atStart=>exact ⟨0,rfl,.inl rfl⟩
 case round=>
  obtain ⟨j,rfl,hj⟩:=hrel;rcases hj with rfl|⟨rfl,hx⟩|⟨rfl,hx,hy⟩
  · by_cases hx:x=0
    · subst hx
      go_wp2
      go_round
      case rel=>exact ⟨1,by go_num,by simp⟩
      case measure=>simp [intOf]
    · go_wp2
      go_ret
      exact ⟨by rw [←HZ.out];unfold orL;rw [if_neg hx];rfl,rfl⟩
  · subst hx
    by_cases hy:y=0
    · subst hy
      go_wp2
      go_round
      case rel=>exact ⟨2,by go_num,by simp⟩
      case measure=>simp [intOf]
    · go_wp2
      go_ret
      exact ⟨by rw [←HZ.out];unfold orL;rw [if_pos rfl];rfl,rfl⟩
  · subst hx hy
    go_wp2
    go_ret
    exact ⟨by rw [←HZ.out];rfl,rfl⟩
theorem VJ{u w:World}{H:Hp}(h:Sat u H w)(q:Nat)(os:Array Obj):Sat u H (grow (w.drewN q) os):=by
 refine ⟨h.os,h.tape,h.output,h.nodup,fun p hp=>?_⟩;have hlt:=h.lt hp
 show(w.heap++os)[p.1]?=_;rw [wS hlt];exact h.get p hp
theorem ME(r:AP)(c:Nat)(hc:c≤3):Be r (c:Int)=DR r c:=by
 rcases (by omega:c=0∨c=1∨c=2∨c=3)with rfl|rfl|rfl|rfl<;>rfl
theorem Pv(r:AP)(c:Nat)(hc:c≤3):Av Tryz.prog 97 #[.agg #[I4 r.t,I4 r.k,I4 r.v.a,I4 r.v.b,I4 r.v.c],I4 (c:Int)] [] (I4 (DR r c)):=fun u R w hs=>
 (JA r (c:Int) (by omega) w).mono (by
   rintro e w' ⟨rfl,q,o,rfl⟩;exact .inl ⟨_,[],rfl,⟨by rw [ME r c hc],rfl⟩,VJ hs q _⟩)
theorem iK(r:AP)(t:Int)(c:Nat)(lo hi:Int)(hc:c≤3)(b1 b2 b3 b4:Nat):Av Tryz.prog 124 #[.agg #[I4 r.t,I4 r.k,I4 r.v.a,I4 r.v.b,I4 r.v.c],I5 b1,I5 b2,I5 b3,I5 b4] [[(b1,.cells #[I4 (c:Int)] 3 (0,0))],[(b2,.cells #[I4 t] 3 (0,0))],[(b3,.cells #[I4 lo] 3 (0,0))],[(b4,.cells #[I4 hi] 3 (0,0))]] (.bool (inR t c lo hi r)):=by
 refine Se func124 ntmps124 [0,1,2,3,4] ?_;intro u R;refine Zq<|Zg<|Ze (Bx #[_,_,_,_,_]) ?_;rintro _ _ ⟨b1,rfl,rfl⟩;refine Za Y<|Z0<|Zx<|Zq<|Zg<|Zo Wh (Pa #[_,_,_,_,_] isAgg113 sizeOf113 Y) ?_;refine Zl isAgg3 Y ?_;refine Xr [_,_] Y call97 Y rfl (Pv r c hc) ?_;refine Za Y<|Z0<|Zx<|Zq<|Zg<|Zh 0 underlying113 rfl rfl sizeOf3 Y<|Zl isAgg3 Y ?_;refine Zl isAgg3 Y ?_;refine Zv (CF Y Y)<|Zm Y ?_;refine Aj (t:=15) Y rfl (fun h1=>?_) (fun h1=>?_)
 ·
  refine Zf Y Y<|Yl isAgg3 Y ?_;refine Yg (GZ Y Y)<|Zv (AL Y Y)<|Zm Y ?_;refine Aj (t:=20) Y rfl (fun h2=>?_) (fun h2=>?_)
  ·
   refine Zf Y Y<|Yl isAgg3 Y ?_;refine Yg (Kn Y Y)<|Zv (AL Y Y)<|Za Y<|Z0<|Zn [6] ?_;refine Zx<|A9 ?_;refine AB rfl results124 Y (by exact ⟨by unfold inR;(simp_all;done),rfl⟩)
  refine A7 Y rfl<|A7 Y rfl<|A7 Y rfl<|Zv (AA Y Y)<|Za Y<|Z0<|Zn [6] ?_;refine Zx<|A9 ?_;refine AB rfl results124 Y (by exact ⟨by unfold inR;(congr 1;simp;omega),rfl⟩)
 refine A7 Y rfl<|A7 Y rfl<|A7 Y rfl<|Zv (AA Y Y)<|Zm Y<|A7 Y rfl<|A7 Y rfl<|A7 Y rfl<|Zv (AA Y Y)<|Za Y<|Z0<|Zn [6] ?_;refine Zx<|A9 ?_;refine AB rfl results124 Y (by exact ⟨by unfold inR;(simp_all;done),rfl⟩)
end Go.Proofs.YtkdgffcfmgmemaaGreatDoor
namespace Go.Proofs.YtkdgffcfmgmemaaGreatDoor
open Go.Proofs.Tryz
open Go Go.RowKit Gw
set_option maxRecDepth 100000
attribute [local irreducible] Gw.At Gw.Nx Gw.Ops
theorem NL:∀(n:Nat) (js:List Nat),js.Nodup→(∀j∈js,j<n)→js.length≤n
 |0,js,_,h=>by
  cases js with
  |nil=>simp
  |cons a l=>exact absurd (h a (by simp)) (Nat.not_lt_zero _)
 |n+1,js,hn,h=>by
  by_cases hm:n∈js
  · have h1:=NL n (js.erase n) (hn.erase n) (fun j hj=>by
     have h2:=(hn.mem_erase_iff).1 hj;have h3:=h j h2.2
     have h4:=h2.1;omega)
    rw [List.length_erase_of_mem hm]at h1;omega
  · have h1:=NL n js hn (fun j hj=>by
     have h3:=h j hj;have h4:j≠n:=fun e=>hm (e▸hj)
     omega)
    omega
def JG(r:AP):(Int×Int)×Value:=((r.t,r.k),Q9 r)
theorem La{a b:AP}(h:JG a=JG b):a=b:=VP (Prod.mk.inj h).2
theorem Xm{a b:List AP}(ha:(a.map JG).Nodup)(h:(a.map JG).Perm (b.map JG)):a.Perm b:=by
 have nd:∀{l:List AP},(l.map JG).Nodup→l.Nodup:=fun{l} hl=>by
  rw [vR,xq]at hl;rw [vR];exact hl.imp (fun hne e=>hne (by rw [e]))
 rw [xC (nd ha) (nd (h.nodup ha))];intro x;have h1:=h.mem_iff (a:=JG x)
 rw [uh,uh]at h1;constructor
 · intro hx
   obtain ⟨y,hy,e⟩:=h1.1 ⟨x,hx,rfl⟩;rwa [La e]at hy
 · intro hx
   obtain ⟨y,hy,e⟩:=h1.2 ⟨x,hx,rfl⟩;rwa [La e]at hy
theorem GX.perm{es:Array MapEntry}{ck:Nat}{l:List ((Int×Int)×Value)}{rs:List AP}(hm:Ex K2 es ck l)(h:GX l rs)(hs:BJ rs):l.Perm (rs.map JG):=by
 have h1:l.Nodup:=by
  have:=hm.keys;rw [vR,xq]at this;rw [vR];exact this.imp (fun hne e=>hne (by rw [e]))
 have h2:(rs.map JG).Nodup:=by
  rw [vR,xq];refine hs.imp (fun{a b} hab e=>?_);have e2:=La e
  subst e2;unfold AP.lt2 at hab;omega
 rw [xC h1 h2];intro p;rw [h.mem p,uh];constructor
 · rintro ⟨r,hr,rfl⟩;exact ⟨r,hr,rfl⟩
 · rintro ⟨r,hr,rfl⟩;exact ⟨r,hr,rfl⟩
structure Uu(lm:List ((Int×Int)×Value))(f:AP→Bool)(js:List Nat)(o:List AP):Prop where
 rows:∃rl:List AP,rl.map JG=Gy lm js∧o=rl.filter f
theorem gZ(lm:List ((Int×Int)×Value))(f:AP→Bool):Uu lm f [] []:=⟨[],rfl,rfl⟩
theorem Uu.push{lm:List ((Int×Int)×Value)}{rs:List AP}{f:AP→Bool}{js:List Nat}{o:List AP}(h:Uu lm f js o){j:Nat}{r:AP}(hj:lm[j]?=some (JG r)):Uu lm f (js++[j]) (o++(if f r then [r]else [])):=by
 obtain ⟨rl,h1,h2⟩:=h.rows;refine ⟨rl++[r],by rw [uK,h1,NH lm js hj];rfl,?_⟩;rw [um,←h2];cases hf:f r<;>simp [hf]
theorem Uu.done{es:Array MapEntry}{ck:Nat}{lm:List ((Int×Int)×Value)}{rs:List AP}(hm:Ex K2 es ck lm)(hR:GX lm rs)(hs:BJ rs){f:AP→Bool}{js:List Nat}{o:List AP}(h:Uu lm f js o)(hp:(Gy lm js).Perm lm):o.Perm (rs.filter f):=by
 obtain ⟨rl,h1,rfl⟩:=h.rows;have h2:=hR.perm hm hs
 have h3:(rl.map JG).Perm (rs.map JG):=by rw [h1];exact hp.trans h2
 have h4:(rs.map JG).Nodup:=by
  rw [vR,xq];refine hs.imp (fun{a b} hab e=>?_);have e2:=La e
  subst e2;unfold AP.lt2 at hab;omega
 exact (Xm (h3.symm.nodup h4) h3).filter f
def leV(c:Nat)(a b:AP):Prop:=DR a c<DR b c∨DR a c=DR b c∧a.k≤b.k
def kz:Prop:=∀(cb c:Nat) (w:Value) (o:List AP) (s:List AR),c≤3→o.length≤2000→BX 5 113 w o.length (Ac o) s→
    CO Tryz.prog 209 #[w,.func (.func 210) #[] #[I5 cb]] [s,[(cb,.cells #[I4 (c:Int)] 3 (0,0))]]
     (fun r H'=>r= .tuple #[]∧∃(s':List AR) (o':List AP),o'.Perm o∧o'.Pairwise (leV c)∧BX 5 113 w o'.length (Ac o') s'∧H'=[s',[(cb,.cells #[I4 (c:Int)] 3 (0,0))]])
theorem Ug(hS:kz)(sp mb:Nat)(p:Int)(es:Array MapEntry)(ck:Nat)(lm:List ((Int×Int)×Value))(rs:List AP)(hm:Ex K2 es ck lm)(hR:GX lm rs)(hs:BJ rs)(hn:rs.length≤2000)(t:Int)(c:Nat)(lo hi:Int)(hc:c≤3)(b1 b2 b3 b4:Nat):
 CO Tryz.prog 123 #[I5 sp,I4 (c:Int),.func (.func 124) #[] #[I5 b1,I5 b2,I5 b3,I5 b4]] [[(sp,.cells #[.map (some mb),I4 p] 175 (0,0))],[(mb,.map es ck)],[(b1,.cells #[I4 (c:Int)] 3 (0,0))],[(b2,.cells #[I4 t] 3 (0,0))],[(b3,.cells #[I4 lo] 3 (0,0))],[(b4,.cells #[I4 hi] 3 (0,0))]] (fun r H'=>∃(so:List AR) (o:List AP),BX 5 113 r o.length (Ac o) so∧o.Perm (rs.filter (inR t c lo hi))∧o.Pairwise (leV c)∧H'=[so,[(sp,.cells #[.map (some mb),I4 p] 175 (0,0))],[(mb,.map es ck)],[(b1,.cells #[I4 (c:Int)] 3 (0,0))],[(b2,.cells #[I4 t] 3 (0,0))],[(b3,.cells #[I4 lo] 3 (0,0))],[(b4,.cells #[I4 hi] 3 (0,0))]]):=by
 have hml:=mL;have hln:=hR.len hm hs
 refine Se func123 ntmps123 [0,1,2] ?_;intro u R;refine Zq<|Zg<|Ze (Bx #[_]) ?_;rintro _ _ ⟨cb,rfl,rfl⟩;refine Za Y<|Z0<|Zx<|Zq<|Zq<|Zg<|Zm Y<|Zv (F7 underlying33 Y Y)<|Z0<|Zx ?_;refine Af Y (fun h1=>?_) (fun h1=>?_)
 ·
  cases h1
 refine AC<|Zx<|Zq<|Zg<|Za Y<|Z0<|Zx<|Zq<|Zq<|Zg<|Zm Y<|Zp Y rfl<|Zh 0 underlying175 rfl rfl sizeOf173 Y<|Zv (BH (off:=0) underlying173 rfl rfl sizeOf171 Y)<|Zl isAgg171 Y ?_;refine Ze (XK underlying171 Y Wh) ?_;rintro _ _ ⟨ib,rfl,rfl⟩;refine Z0<|Zx<|AQ<|Bd ?_;refine Zb [7,2,4,17] ?_;refine Az (e0:=[(7,_)]) (fun m e H=>∃(js:List Nat) (seen:Array Nat) (o:List AP) (w:Value) (so:List AR),m=lm.length -js.length∧(M8 es js seen∧Uu lm (inR t c lo hi) js o∧BX 5 113 w o.length (Ac o) so∧o.length≤js.length)∧e=[(7,w)]∧H=[[(ib,.mapIter (some mb) ck seen ck)],so]) (by exact ⟨[],#[],[],.slice none 0 0,[],rfl,⟨dV _,gZ _ _,BV 5 _,tQ _⟩,rfl,rfl⟩) Wp ?_;rintro _ _ _ ⟨js,seen,o,w,so,rfl,⟨hit,hse,hro,hoj⟩,rfl,rfl⟩;obtain ⟨qo,capo,rfl⟩:=hro.form;have hjl:=NL es.size js hit.nodup hit.lt
 rw [hm.size]at hjl;refine Zq<|Zg<|Ze (aW hm hit Y Wo Wh) ?_;rintro _ _ hnx;rcases hnx with⟨hdone,rfl,rfl⟩|⟨jn,pn,seen2,hpn,hjn,hi2,rfl,rfl⟩
 ·
  refine Zd Y rfl<|Z0<|Zx<|Zq ?_;refine Af Y (fun hb=>?_) (fun hb=>?_)
  ·
   cases hb
  refine Ar<|Zt<|Zt<|AO<|Zx<|Zq<|Zg<|Zm Y<|Zv (Bt (vs:=[]) (us:=[_]) Y Y) ?_;refine Zc [_,_] Y call209 Y rfl (hS cb c _ o so hc (by omega) hro) ?_;rintro _ _ ⟨_,⟨rfl,so2,o2,hpm,hpw,hro2,rfl⟩,rfl⟩;refine Z0<|Zx<|Zq<|Zg<|Zm Y<|Za Y<|Z0<|Zx<|A9 ?_;refine AB rfl results123 Y (by exact ⟨so2,o2,hro2,hpm.trans (hse.done hm hR hs hdone),hpw,rfl⟩)
 obtain ⟨r,hr,rfl⟩:=(hR.mem pn).1 (tV hpn);refine Zd Y rfl<|Z0<|Zx<|Zq ?_;refine Af Y (fun hb=>?_) (fun hb=>?_)
 ·
  have hjl2:=NL es.size (js++[jn]) hi2.nodup hi2.lt;rw [hm.size,tK,tT]at hjl2;have hla:(js++[jn]).length=js.length+1:=by rw [tK];rfl
  have hse2:=hse.push (r:=r) (rs:=rs) hpn;have hse2t:(inR t c lo hi) r=true→Uu lm (inR t c lo hi) (js++[jn]) (o++[r]):=fun h=>by rw [h]at hse2;exact hse2
  have hse2f:(inR t c lo hi) r=false→Uu lm (inR t c lo hi) (js++[jn]) o:=fun h=>by rw [h]at hse2;simpa using hse2
  refine AC<|Zx<|AQ<|Zq<|Zg<|Cf (cs:=[(ib,.mapIter (some mb) ck seen2 ck),(mb,.map es ck)]) (by simp) (Xz hm hi2 hpn Y) rfl rfl ?_;refine Zd Y rfl<|Ze (Al zeroValue113 #[_,_,_,_,_]) ?_;rintro _ _ ⟨xb,rfl,rfl⟩;refine Xe (Xw sizeOf113 #[I4 r.t,I4 r.k,I4 r.v.a,I4 r.v.b,I4 r.v.c]) ?_;refine Z0<|Zx<|Zq<|Zg<|Zm Y<|Zo Wh (Pa #[_,_,_,_,_] isAgg113 sizeOf113 Y) ?_;refine Xr [_] Y call124 Y rfl (iK r t c lo hi hc b1 b2 b3 b4) ?_;refine Z0<|Zx ?_;refine Af Y (fun hin=>?_) (fun hin=>?_)
  ·
   refine Zg<|Zm Y<|Zo Wh (Pa #[_,_,_,_,_] isAgg113 sizeOf113 Y) ?_;refine Ze (Ae (vs:=[_]) (cs:=[_,_,_,_,_]) underlying45 sizeOf113 zeroValue113 Y rfl rfl rfl rfl rfl) ?_;rintro _ _ ⟨gb,rfl,rfl⟩;refine Ze (BR (by_:=40) (sz:=5) underlying45 (rfl:Tryz.prog.info? 113=some Tryz.t113) rfl rfl rfl rfl Y (hro) Y (DY 5 gb 1 1 113 (0,0) [I4 r.t,I4 r.k,I4 r.v.a,I4 r.v.b,I4 r.v.c] rfl) Wo Wo (by simp [Value.oneCell']) (by omega) (by omega)) ?_;rintro _ _ ⟨sa9,hra9,rfl⟩;have hnew:=BO hra9 (n':=(o++[r]).length) (xs':=Ac (o++[r])) (by rw [tK];rfl) (by rw [BZ];rfl)
   obtain ⟨ga9,ca9,rfl⟩:=hra9.form;refine Za Y<|Z0<|Zn [2,4,7,17] ?_;refine A8<|Zn [7,2,4,17] ?_;refine Ab (e':=[(7,_)]) (by exact ⟨js++[jn],seen2,o++[r],_,_,rfl,⟨hi2,hse2t hin,hnew,by rw [tK,tK];simp;omega⟩,rfl,rfl⟩)
  refine AC<|A8<|Zn [7,2,4,17] ?_;refine Ab (e':=[(7,_)]) (by exact ⟨js++[jn],seen2,o,_,so,rfl,⟨hi2,hse2f hin,hro,by rw [tK];omega⟩,rfl,rfl⟩)
 cases hb
end Go.Proofs.YtkdgffcfmgmemaaGreatDoor
