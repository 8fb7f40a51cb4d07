/- What Apply does to an entry. -/
/- Stale entries. -/
/- What Apply does, in plain words. -/
/- Apply, in plain words. -/
/- Apply. -/
/- New, Reset, Window, Touch; no cache. -/
/- A cache as one piece of memory. -/
/- Heads, changes, records, proofs compared. -/
/- logtree.Next, Follows. -/
/- proof.Same, Check. -/
/- The reference of layer 1: PutInt, Int, String. -/
/- The plain helpers of the laws of chapter 11. -/
import Derived.Test.YteaiajghbkenoaaGreatDoorEz
import Derived.Test.YteaiajghbkenoaaGreatDoorCa7
import Derived.Test.YteaiajghbkenoaaGreatDoorCo1
import Derived.Test.YteaiajghbkenoaaGreatDoorPy5
import Derived.Test.YteaiajghbkenoaaGreatDoorTr6
import Derived.Test.YteaiajghbkenoaaGreatDoorEx36
import Derived.Test.YteaiajghbkenoaaGreatDoorLg4
import Derived.Test.YteaiajghbkenoaaGreatDoorEx5
import Derived.Test.YteaiajghbkenoaaGreatDoorTr8
set_option linter.unusedVariables false
set_option linter.unusedSimpArgs false
namespace Go.Proofs.YteaiajghbkenoaaGreatDoor
open Go.Proofs.Tryz
open Go Go.RowKit Gw
set_option maxRecDepth 100000
attribute [local irreducible] Gw.At Gw.Nx Gw.Ops
variable{s:List A9}
theorem PW{b:Nat}{o o':Obj}(h:(b,o)∈s):(b,o')∈IB b o' s:=Bk.2 ⟨_,h,AK rfl⟩
theorem Um(b:Nat)(o o':Obj)(s:List A9):IB b o' (IB b o s)=IB b o' s:=by
 unfold IB;rw [J0];refine V1 fun p _=>?_;show(if(if p.1=b then(b,o)else p).1=b then(b,o')else(if p.1=b then(b,o)else p))=if p.1=b then(b,o')else p
 by_cases h:p.1=b
 · simp only [AK h,Hh]
 · simp only [AH h]
def ItM.upd(x:ItM)(p:Int)(cs:List Chg)(wq:Option Addr)(wc:Nat):ItM:={x with res:=(BZ x.q x.res cs).1,wq:=wq,wc:=wc,since:=p}
structure ItM.live(MR:List A9)(x:ItM):Prop where
 q:BI x.q
 rw:E8 MR (.slice x.wq x.res.rows.length x.wc) x.res.rows
 wn:x.res.rows.length<=10000000
 wv:-2000000000000000000<=x.res.val/\x.res.val<=2000000000000000000
variable{c:CZ}{x:ItM}
theorem ItM.ok.live(h:c.okb)(I:x.ok c.M c.MR c.pos c.win):x.live c.MR:=by
 obtain ⟨r0,m,g⟩:=I.run;obtain ⟨_,B,G⟩:=LM m;have X:=h.wl
 have U:(DC c.pos x.base c.win).length<=64:=by unfold DC;rw [C3];omega
 have J:=OU _ 0 (r0,x.base) _ 1000000000000000000 200 g (fun y Z=>by have:=PS h (r:=y) (I0 Z);omega) G AN B;have K:x.res.rows.length<=_:=J.2
 have O:_<=x.res.val/\x.res.val<=_:=J.1;exact ⟨I.q,I.rw,by omega,by omega,by omega⟩
variable{d:CZ}{qa:Option Addr}{cap:Nat}{cs:List Chg}{ME st:List A9}{tl:List ByteArray}{tv:Value}
set_option maxHeartbeats 1000000 in
theorem nQ(h:d.okb)(hx:x∈d.its)(O:x.live d.MR)(p:Int)(hC:Ck ME (.slice qa cs.length cap) cs)(Z:cs.length<=1000)(U:(BZ x.q x.res cs).2.2=true)(hT:Row 9 tv (tl.map Value.string) st)(gy:tl.length<=1000000)(bt br bc:Nat):Ba prog 54 #[.string x.key,.pointer (some ⟨x.b,0,none⟩),I5 bt,I5 br,I5 bc] [[(bt,.cells #[tv] 45 (0,0))],[(br,.cells #[I4 p,.slice qa cs.length cap] 50 (0,0))],[(bc,.cells #[.pointer (some ⟨d.cp,0,none⟩)] 37 (0,0))],st,[(d.cp,.cells d.A20 120 (0,0))],d.sW,d.z.S,[(d.mb,.map d.esP d.ckP)],d.su,[(d.ip,.cells #[.map (some d.mq),d.lv] 186 (0,0))],[(d.mq,.map d.esQ d.ckQ)],d.ML,[(d.mi,.map d.esI d.ckI)],[(d.mkb,.map d.esK d.ckK)],d.SI,d.M,d.MR,ME] (fun v H'=>v=undef/\∃wq wc cO cu s,Row 9 cO ((tl++[x.key]).map Value.string) cu/\E8 s (.slice wq (BZ x.q x.res cs).1.rows.length wc) (BZ x.q x.res cs).1.rows/\(d.SI.map (·.1)).Nodup/\H'=[[(bt,.cells #[cO] 45 (0,0))],[(br,.cells #[I4 p,.slice qa cs.length cap] 50 (0,0))],[(bc,.cells #[.pointer (some ⟨d.cp,0,none⟩)] 37 (0,0))],cu,[(d.cp,.cells d.A20 120 (0,0))],d.sW,d.z.S,[(d.mb,.map d.esP d.ckP)],d.su,[(d.ip,.cells #[.map (some d.mq),d.lv] 186 (0,0))],[(d.mq,.map d.esQ d.ckQ)],d.ML,[(d.mi,.map d.esI d.ckI)],[(d.mkb,.map d.esK d.ckK)],IB x.b (x.upd p cs wq wc).obj d.SI,d.M,s++d.MR,ME]):=by
 have gq:=mL;have B:(x.b,Obj.cells x.A19 126 (0,0))∈d.SI:=h.its.sub x hx
 obtain ⟨gt,ct,rfl⟩:=hT.form;refine Se func54 ntmps54 [0,1,2,3,4] ?_;intro u R;refine Zq<|GM (s:=d.SI) Wo (fun af=>?_);refine Zg<|Zl KB Y ?_;refine Zm Y<|Ze (Ah (vs:=[_]) (cs:=[_]) CN F0 HM Y V rfl V rfl V)<|AD fun gb=>Ze (EQ (by_:=16) (news:=[_]) CN (V:Tryz.prog.info? 9=some Tryz.t9) V rfl V rfl Y hT Y Wo Wh AM V Fm AN (by(simp only [B2];omega)) (by(simp only [B2];omega))) ?_;rintro _ _ ⟨ax,K,rfl⟩;obtain ⟨gm,ek,rfl⟩:=K.form;refine Xe (Zs HF Y Y V) ?_;refine A4<|Zq<|Az (n:=19) (0::1::3::7::15::0::32::96::224::0::1023::2047::4095::4095::4095::0::40959::114687::262143::[]) 99328 A6 A6 V<|A2 0 V (AQ Y)<|A2 1 V (Ap Y V)<|A2 2 V (AB (off:=0) HL V rfl H4 Y)<|A2 3 V (Aq (off:=0) FG V rfl C7 Y)<|DI (D':=31) 4 V rfl V (F8 Wo (B)) (AA (cs:=#[_,_,_,_,_,_,_]) Dg C7 Y As (by exact (by apply HI.1;rfl))) ?_;refine A2 5 V (AQ Y)<|A2 6 V (Ap Y V)<|A2 7 V (AB (off:=11) HL V rfl Ax Y)<|DI (D':=511) 8 V rfl V (F8 Wo (B)) (AA (cs:=#[_,_,_]) Bm Ax Y As (by exact (by apply HI.1;rfl))) ?_;refine E6 9 V Wh (AA (cs:=#[_,_]) Hc F2 Y As (by exact BN V)) ?_;refine Zz (l:=[10,15])<|B1 [false,false,false] [] V rfl (Zw [_,_,_] Y call55 Y V (JH x.q O.q p qa cap cs hC Z O.rw O.wn O.wv)) ?_ Bv ?_
 ·
  rintro _ _ ⟨_,⟨d9,s3,rfl,g,rfl⟩,rfl⟩;refine ⟨AZ,?_⟩;obtain ⟨G,m,rfl⟩:=g.form;rw [U];refine A2 11 V (AQ Y)<|A2 12 V (Bw Y V)<|A2 13 V (Bw Y V)<|A2 14 V (Bw Y V)<|Zz (l:=[15])<|B1 [] [] V rfl (Al G4 #[_,_,_]) ?_ (fun _ _ h=>h.elim) Ag;rintro _ _ ⟨bn,rfl,rfl⟩;refine B5<|Yw 16 131071 V (Xw Ax #[.slice G (BZ x.q x.res cs).1.rows.length m,I4 (BZ x.q x.res cs).1.val,.bool (BZ x.q x.res cs).1.fnd])<|CM<|A2 17 V (Aw Y)<|A2 18 V (Aw Y)<|Ai<|Zn [0,1,3,4,7,9] ?_;refine Zx<|Zq<|A0<|Zm Y<|Zv (Br Y)<|A4<|AV Y (fun I=>by cases I)<|fun I=>AC<|Zx ?_;have X:=MH g
  have J:(x.b,Obj.cells #[I4 x.q.kd,I4 x.q.tb,I4 x.q.cl,I4 x.q.lo,I4 x.q.hi,I4 x.q.bq,I4 x.q.ot,I4 x.tn,I4 x.base,.slice x.rq x.L.length x.rc,I4 x.id,.slice G (BZ x.q x.res cs).1.rows.length m,I4 (BZ x.q x.res cs).1.val,.bool (BZ x.q x.res cs).1.fnd,I4 x.since] 126 (0,0))∈IB x.b (.cells #[I4 x.q.kd,I4 x.q.tb,I4 x.q.cl,I4 x.q.lo,I4 x.q.hi,I4 x.q.bq,I4 x.q.ot,I4 x.tn,I4 x.base,.slice x.rq x.L.length x.rc,I4 x.id,.slice G (BZ x.q x.res cs).1.rows.length m,I4 (BZ x.q x.res cs).1.val,.bool (BZ x.q x.res cs).1.fnd,I4 x.since] 126 (0,0)) d.SI:=PW B;refine CK (s1:=s3) (s2:=d.MR) Wo Wo ?_;refine Az (n:=11) (0::0::0::0::8::5::37::101::255::511::1023::[]) 1152 A6 A6 V<|A2 0 V (AQ Y)<|A2 1 V (AQ Y)<|E6 2 V Wh (AA (cs:=#[_,_,_]) Bm Ax Y As (by exact BN V)) ?_;refine A2 3 V (AB (off:=0) GF V rfl A5 Y)<|B3 4 V AE Y ?_;refine A2 5 rfl (Ap Y rfl)<|A2 6 rfl (AB (off:=11) HL rfl rfl Ax Y)<|Zz (l:=[7])<|B1 [true,false] [(4,(_,_))] rfl rfl (O6 Ax Y Y HR Wo (B) (by exact congrArg (fun a=>IB x.b (Obj.cells a 126 (0,0)) d.SI) (rfl:_=(#[I4 x.q.kd,I4 x.q.tb,I4 x.q.cl,I4 x.q.lo,I4 x.q.hi,I4 x.q.bq,I4 x.q.ot,I4 x.tn,I4 x.base,.slice x.rq x.L.length x.rc,I4 x.id,.slice G (BZ x.q x.res cs).1.rows.length m,I4 (BZ x.q x.res cs).1.val,.bool (BZ x.q x.res cs).1.fnd,I4 x.since]:Array Value))) E7 As (by exact BA _)) ?_ (fun _ _ h=>h.elim) Ag;rintro _ _ ⟨rfl,rfl⟩;refine B5<|A2 8 V (Ap Y V)<|A2 9 V (AB (off:=14) HL V rfl A5 Y)<|Zz (l:=[10])<|B1 [false] [] V rfl (Gh A5 Y Y V Wo (J) (by exact (Um _ _ _ _).trans (congrArg (fun a=>IB x.b (Obj.cells a 126 (0,0)) d.SI) (V:_=(#[I4 x.q.kd,I4 x.q.tb,I4 x.q.cl,I4 x.q.lo,I4 x.q.hi,I4 x.q.bq,I4 x.q.ot,I4 x.tn,I4 x.base,.slice x.rq x.L.length x.rc,I4 x.id,.slice G (BZ x.q x.res cs).1.rows.length m,I4 (BZ x.q x.res cs).1.val,.bool (BZ x.q x.res cs).1.fnd,I4 p]:Array Value)))) As (by exact BA _)) ?_ (fun _ _ h=>h.elim) Ag;rintro _ _ ⟨rfl,rfl⟩
  refine B5<|Ai<|Cv rfl results54 (by exact ⟨rfl,G,m,_,ax,s3,(by rw [BW];exact K),DT g X,af,rfl⟩)
 refine B1 [true,true,true] [(9,(_,_)),(8,(_,_)),(4,(_,_))] V rfl (Al G4 #[_,_,_]) ?_ (fun _ _ h=>h.elim) Ag;rintro _ _ ⟨bn,rfl,rfl⟩;refine ⟨Zk (FH (by simp [*]) (FH (by simp [*]) (AZ))),?_⟩;refine Zz (l:=[10])<|B1 [false,false,false] [] V rfl (Zw [_,_,_] Y call55 Y V (JH x.q O.q p qa cap cs hC Z O.rw O.wn O.wv)) ?_ Bv Ag;rintro _ _ ⟨_,⟨d9,s3,rfl,g,rfl⟩,rfl⟩;refine ⟨AZ,?_⟩;obtain ⟨G,m,rfl⟩:=g.form;rw [U];refine A2 11 V (AQ Y)<|A2 12 V (Bw Y V)<|A2 13 V (Bw Y V)<|A2 14 V (Bw Y V)<|Zz (l:=[16])<|B1 [] [] V rfl (Xw Ax #[.slice G (BZ x.q x.res cs).1.rows.length m,I4 (BZ x.q x.res cs).1.val,.bool (BZ x.q x.res cs).1.fnd]) ?_ (fun _ _ h=>h.elim) Ag;rintro _ _ ⟨rfl,rfl⟩;refine B5<|A2 17 V (Aw Y)<|A2 18 V (Aw Y)<|Ai<|Zn [0,1,3,4,7,9] ?_;refine Zx<|Zq<|A0<|Zm Y<|Zv (Br Y)<|A4<|AV Y (fun I=>by cases I)<|fun I=>AC<|Zx ?_;have X:=MH g
 have J:(x.b,Obj.cells #[I4 x.q.kd,I4 x.q.tb,I4 x.q.cl,I4 x.q.lo,I4 x.q.hi,I4 x.q.bq,I4 x.q.ot,I4 x.tn,I4 x.base,.slice x.rq x.L.length x.rc,I4 x.id,.slice G (BZ x.q x.res cs).1.rows.length m,I4 (BZ x.q x.res cs).1.val,.bool (BZ x.q x.res cs).1.fnd,I4 x.since] 126 (0,0))∈IB x.b (.cells #[I4 x.q.kd,I4 x.q.tb,I4 x.q.cl,I4 x.q.lo,I4 x.q.hi,I4 x.q.bq,I4 x.q.ot,I4 x.tn,I4 x.base,.slice x.rq x.L.length x.rc,I4 x.id,.slice G (BZ x.q x.res cs).1.rows.length m,I4 (BZ x.q x.res cs).1.val,.bool (BZ x.q x.res cs).1.fnd,I4 x.since] 126 (0,0)) d.SI:=PW B;refine CK (s1:=s3) (s2:=d.MR) Wo Wo ?_;refine Az (n:=11) (0::0::0::0::8::5::37::101::255::511::1023::[]) 1152 A6 A6 V<|A2 0 V (AQ Y)<|A2 1 V (AQ Y)<|E6 2 V Wh (AA (cs:=#[_,_,_]) Bm Ax Y As (by exact BN V)) ?_;refine A2 3 V (AB (off:=0) GF V rfl A5 Y)<|B3 4 V AE Y ?_;refine A2 5 rfl (Ap Y rfl)<|A2 6 rfl (AB (off:=11) HL rfl rfl Ax Y)<|Zz (l:=[7])<|B1 [true,false] [(4,(_,_))] rfl rfl (O6 Ax Y Y HR Wo (B) (by exact congrArg (fun a=>IB x.b (Obj.cells a 126 (0,0)) d.SI) (rfl:_=(#[I4 x.q.kd,I4 x.q.tb,I4 x.q.cl,I4 x.q.lo,I4 x.q.hi,I4 x.q.bq,I4 x.q.ot,I4 x.tn,I4 x.base,.slice x.rq x.L.length x.rc,I4 x.id,.slice G (BZ x.q x.res cs).1.rows.length m,I4 (BZ x.q x.res cs).1.val,.bool (BZ x.q x.res cs).1.fnd,I4 x.since]:Array Value))) E7 As (by exact BA _)) ?_ (fun _ _ h=>h.elim) Ag;rintro _ _ ⟨rfl,rfl⟩;refine B5<|A2 8 V (Ap Y V)<|A2 9 V (AB (off:=14) HL V rfl A5 Y)<|Zz (l:=[10])<|B1 [false] [] V rfl (Gh A5 Y Y V Wo (J) (by exact (Um _ _ _ _).trans (congrArg (fun a=>IB x.b (Obj.cells a 126 (0,0)) d.SI) (V:_=(#[I4 x.q.kd,I4 x.q.tb,I4 x.q.cl,I4 x.q.lo,I4 x.q.hi,I4 x.q.bq,I4 x.q.ot,I4 x.tn,I4 x.base,.slice x.rq x.L.length x.rc,I4 x.id,.slice G (BZ x.q x.res cs).1.rows.length m,I4 (BZ x.q x.res cs).1.val,.bool (BZ x.q x.res cs).1.fnd,I4 p]:Array Value)))) As (by exact BA _)) ?_ (fun _ _ h=>h.elim) Ag;rintro _ _ ⟨rfl,rfl⟩
 refine B5<|Ai<|Cv rfl results54 (by exact ⟨rfl,G,m,_,ax,s3,(by rw [BW];exact K),DT g X,af,rfl⟩)
set_option maxHeartbeats 1000000 in
theorem nR(h:d.okb)(hx:x∈d.its)(G:x.live d.MR)(p:Int)(hC:Ck ME (.slice qa cs.length cap) cs)(cu:cs.length<=1000)(I:(BZ x.q x.res cs).2.2=false)(hT:Row 9 tv (tl.map Value.string) st)(gy:tl.length<=1000000)(bt br bc:Nat):Ba prog 54 #[.string x.key,.pointer (some ⟨x.b,0,none⟩),I5 bt,I5 br,I5 bc] [[(bt,.cells #[tv] 45 (0,0))],[(br,.cells #[I4 p,.slice qa cs.length cap] 50 (0,0))],[(bc,.cells #[.pointer (some ⟨d.cp,0,none⟩)] 37 (0,0))],st,[(d.cp,.cells d.A20 120 (0,0))],d.sW,d.z.S,[(d.mb,.map d.esP d.ckP)],d.su,[(d.ip,.cells #[.map (some d.mq),d.lv] 186 (0,0))],[(d.mq,.map d.esQ d.ckQ)],d.ML,[(d.mi,.map d.esI d.ckI)],[(d.mkb,.map d.esK d.ckK)],d.SI,d.M,d.MR,ME] (fun v H'=>v=undef/\∃(d2:CZ) (tv':Value) (st':List A9),d2.okb/\d.like d2/\d2.next=d.next/\(d2.M=d.M/\d2.MR=d.MR)/\d2.SI=d.SI/\d2.its=(d.its.filter fun y=>y.key≠x.key)/\(∀e∈d2.PL,e∈d.PL)/\Row 9 tv' ((tl++[x.key]).map Value.string) st'/\H'=[[(bt,.cells #[tv'] 45 (0,0))],[(br,.cells #[I4 p,.slice qa cs.length cap] 50 (0,0))],[(bc,.cells #[.pointer (some ⟨d.cp,0,none⟩)] 37 (0,0))],st',[(d2.cp,.cells d2.A20 120 (0,0))],d2.sW,d2.z.S,[(d2.mb,.map d2.esP d2.ckP)],d2.su,[(d2.ip,.cells #[.map (some d2.mq),d2.lv] 186 (0,0))],[(d2.mq,.map d2.esQ d2.ckQ)],d2.ML,[(d2.mi,.map d2.esI d2.ckI)],[(d2.mkb,.map d2.esK d2.ckK)],d2.SI,d2.M,d2.MR,ME]):=by
 have gq:=mL;have ax:(x.b,Obj.cells x.A19 126 (0,0))∈d.SI:=h.its.sub x hx
 obtain ⟨gt,ct,rfl⟩:=hT.form;refine Se func54 ntmps54 [0,1,2,3,4] ?_;intro u R;refine A0<|Zl KB Y ?_;refine Zm Y<|Ze (Ah (vs:=[_]) (cs:=[_]) CN F0 HM Y V rfl V rfl V)<|AD fun gb=>Ze (EQ (by_:=16) (news:=[_]) CN (V:Tryz.prog.info? 9=some Tryz.t9) V rfl V rfl Y hT Y Wo Wh AM V Fm AN (by(simp only [B2];omega)) (by(simp only [B2];omega))) ?_;rintro _ _ ⟨cO,B,rfl⟩;obtain ⟨gm,ek,rfl⟩:=B.form;refine Xe (Zs HF Y Y V) ?_;refine A4<|Zq<|Az (n:=19) (0::1::3::7::15::0::32::96::224::0::1023::2047::4095::4095::4095::0::40959::114687::262143::[]) 99328 A6 A6 V<|A2 0 V (AQ Y)<|A2 1 V (Ap Y V)<|A2 2 V (AB (off:=0) HL V rfl H4 Y)<|A2 3 V (Aq (off:=0) FG V rfl C7 Y)<|DI (D':=31) 4 V rfl V (F8 Wo (ax)) (AA (cs:=#[_,_,_,_,_,_,_]) Dg C7 Y As (by exact (by apply HI.1;rfl))) ?_;refine A2 5 V (AQ Y)<|A2 6 V (Ap Y V)<|A2 7 V (AB (off:=11) HL V rfl Ax Y)<|DI (D':=511) 8 V rfl V (F8 Wo (ax)) (AA (cs:=#[_,_,_]) Bm Ax Y As (by exact (by apply HI.1;rfl))) ?_;refine E6 9 V Wh (AA (cs:=#[_,_]) Hc F2 Y As (by exact BN V)) ?_;refine Zz (l:=[10,15])<|B1 [false,false,false] [] V rfl (Zw [_,_,_] Y call55 Y V (JH x.q G.q p qa cap cs hC cu G.rw G.wn G.wv)) ?_ Bv ?_
 ·
  rintro _ _ ⟨_,⟨d9,s3,rfl,g,rfl⟩,rfl⟩;refine ⟨AZ,?_⟩;obtain ⟨w3,c3,rfl⟩:=g.form;rw [I];refine A2 11 V (AQ Y)<|A2 12 V (Bw Y V)<|A2 13 V (Bw Y V)<|A2 14 V (Bw Y V)<|Zz (l:=[15])<|B1 [] [] V rfl (Al G4 #[_,_,_]) ?_ (fun _ _ h=>h.elim) Ag;rintro _ _ ⟨bn,rfl,rfl⟩;refine B5<|Yw 16 131071 V (Xw Ax #[.slice w3 (BZ x.q x.res cs).1.rows.length c3,I4 (BZ x.q x.res cs).1.val,.bool (BZ x.q x.res cs).1.fnd])<|CM<|A2 17 V (Aw Y)<|A2 18 V (Aw Y)<|Ai<|Zn [0,1,3,4,7,9] ?_;refine Zx<|Zq<|A0<|Zm Y<|Zv (Br Y)<|A4<|AV Y (fun m=>?_) (fun m=>?_)
  ·
   refine A0<|Zl IH Y ?_;refine Zm Y<|Zc [_,_] Y call26 Y V (XO h hx) ?_;rintro _ _ ⟨_,⟨rfl,d2,J,K,O,U,X,_,Z,af,rfl⟩,rfl⟩;refine A4<|AJ<|Zt<|Cv rfl results54 (by exact ⟨rfl,d2,_,cO,J,K,O,U,X,Z,af,(by rw [BW];exact B),rfl⟩)
  cases m
 refine B1 [true,true,true] [(9,(_,_)),(8,(_,_)),(4,(_,_))] V rfl (Al G4 #[_,_,_]) ?_ (fun _ _ h=>h.elim) Ag;rintro _ _ ⟨bn,rfl,rfl⟩;refine ⟨Zk (FH (by simp [*]) (FH (by simp [*]) (AZ))),?_⟩;refine Zz (l:=[10])<|B1 [false,false,false] [] V rfl (Zw [_,_,_] Y call55 Y V (JH x.q G.q p qa cap cs hC cu G.rw G.wn G.wv)) ?_ Bv Ag;rintro _ _ ⟨_,⟨d9,s3,rfl,g,rfl⟩,rfl⟩;refine ⟨AZ,?_⟩;obtain ⟨w3,c3,rfl⟩:=g.form;rw [I];refine A2 11 V (AQ Y)<|A2 12 V (Bw Y V)<|A2 13 V (Bw Y V)<|A2 14 V (Bw Y V)<|Zz (l:=[16])<|B1 [] [] V rfl (Xw Ax #[.slice w3 (BZ x.q x.res cs).1.rows.length c3,I4 (BZ x.q x.res cs).1.val,.bool (BZ x.q x.res cs).1.fnd]) ?_ (fun _ _ h=>h.elim) Ag;rintro _ _ ⟨rfl,rfl⟩;refine B5<|A2 17 V (Aw Y)<|A2 18 V (Aw Y)<|Ai<|Zn [0,1,3,4,7,9] ?_;refine Zx<|Zq<|A0<|Zm Y<|Zv (Br Y)<|A4<|AV Y (fun m=>?_) (fun m=>?_)
 ·
  refine A0<|Zl IH Y ?_;refine Zm Y<|Zc [_,_] Y call26 Y V (XO h hx) ?_;rintro _ _ ⟨_,⟨rfl,d2,J,K,O,U,X,_,Z,af,rfl⟩,rfl⟩;refine A4<|AJ<|Zt<|Cv rfl results54 (by exact ⟨rfl,d2,_,cO,J,K,O,U,X,Z,af,(by rw [BW];exact B),rfl⟩)
 cases m
variable{P:Program}{f:FuncId}{args:Array Value}
theorem aN{A B g:List A9}{Q:Value->List A9->Prop}(G:s.Perm (A++(B++g)))(h:Ba P f args [A,B] (fun r H'=>∃m,Q r m/\H'=[A,B,m])):Ba P f args [s] (fun r H'=>∃m,Q r m/\H'=[s,m]):=fun u R w J=>by
 have I:Sat u ([A,B]++([g]++R)) w:=J.perm (by
  simp only [P2,KK,C4];have:=G.append_right R.flatten
  simpa only [CA]using this)
 refine (h u ([g]++R) w I).mono ?_;rintro e K (⟨v,H',rfl,⟨m,hq,rfl⟩,hsat⟩|⟨_,_,_,h,_⟩)
 · refine .inl ⟨v,_,rfl,⟨m,hq,rfl⟩,hsat.perm ?_⟩
   simp only [P2,KK,C4];have e1:(A++(B++(m++(g++R.flatten)))).Perm ((A++(B++g))++(m++R.flatten)):=by
    simp only [CA];refine RC A (RC B ?_);rw [<-CA,<-CA];exact LO.append_right _
   exact e1.trans (G.symm.append_right _)
 · exact h.elim
theorem yM{a b:A9}(O:(s.map (·.1)).Nodup)(J:a∈s)(K:b∈s)(m:a.1≠b.1):∃g,s.Perm ([a]++([b]++g)):=by
 obtain ⟨X,Y,rfl⟩:=ao J;have B:b∈X++Y:=by
  rcases B9.1 K with h|h
  · exact DS _ h
  · rcases D0.1 h with h|h
    · exact absurd (by rw [h]) m
    · exact G1 _ h
 obtain ⟨G,I,h2⟩:=ao B;refine ⟨G++I,RR.trans (List.Perm.cons a ?_)⟩;rw [h2];exact RR
noncomputable def J7(c:CZ)(k:ByteArray):Bool:=@decide (∃x∈c.its,x.key=k/\x.base<c.pos -64) (Classical.propDecidable _)
def zP(c:CZ)(pre:List ByteArray)(s:List A9):Prop:=∃d:CZ,d.okb/\d.cp=c.cp/\d.mi=c.mi/\d.pos=c.pos/\(∀y,y∈d.its↔y∈c.its/\y.key∉pre)/\(d.cp,Obj.cells d.A20 120 (0,0))∈s/\(d.mi,Obj.map d.esI d.ckI)∈s/\∀q∈d.SI,q∈s
def au(c:CZ)(p:List ByteArray):Prop:=∃zs:List ByteArray,zs.Perm (c.its.map ItM.key)/\∃post,zs.filter (J7 c)=p++post
def WA(c:CZ)(ys:List ByteArray):Prop:=∃zs:List ByteArray,zs.Perm (c.its.map ItM.key)/\ys=zs.filter (J7 c)
theorem PZ(G:(c.its.map ItM.key).Nodup)(g:x∈c.its):J7 c x.key=true↔x.base<c.pos -64:=by
 unfold J7;rw [@decide_eq_true_eq _ (Classical.propDecidable _)];constructor
 · rintro ⟨y,I,B,m⟩
   rwa [G9 G I g B]at m
 · intro h;exact ⟨x,g,rfl,h⟩
variable{α:Type}{i:Nat}
theorem Qk{l:List α}{f:α->Bool}{x:α}(h:l[i]?=some x):(l.take (i+1)).filter f=(l.take i).filter f++(if f x=true then [x]else [])/\∃g,l.filter f=(l.take i).filter f++(if f x=true then [x]else [])++g:=by
 have e:(l.take (i+1)).filter f=(l.take i).filter f++(if f x=true then [x]else []):=by
  rw [Bh h,HU];congr 1;by_cases m:f x=true
  · rw [AK m,List.filter_cons_of_pos m];rfl
  · rw [AH m,iz m];rfl
 refine ⟨e,(l.drop (i+1)).filter f,?_⟩;rw [<-e,<-HU,Hx]
theorem bO{l:List ByteArray}(g:l.Nodup){x:ByteArray}(h:l[i]?=some x)(f:ByteArray->Bool):x∉(l.take i).filter f:=fun I=>by
 have m:=(F1.1 I).1;have h2:l=l.take i++x::l.drop (i+1):=by
  obtain ⟨B,G⟩:=BE.1 h;rw [<-G,<-R0 B,Hx]
 rw [h2,Ge]at g;exact g.2.2 x m x (Dd ..) V
theorem uB(h:c.okb)(I:(s.map (·.1)).Nodup)(g:(c.cp,Obj.cells c.A20 120 (0,0))∈s)(h2:(c.mi,Obj.map c.esI c.ckI)∈s):Ba prog 19 #[.pointer (some ⟨c.cp,0,none⟩)] [s] (fun r H'=>∃m,(∃zs:List ByteArray,zs.Perm (c.its.map ItM.key)/\(zs.Pairwise fun x y=>x.data.toList<=y.data.toList)/\Row 9 r (zs.map Value.string) m)/\H'=[s,m]):=by
 have G:c.cp≠c.mi:=fun O=>by
  have B:=G9 I g h2 O;injection B with _ B
  cases B
 obtain ⟨J,U⟩:=yM I g h2 G;refine aN U ((Nu h).mono ?_);rintro r H' ⟨zs,m,g,h2,K,rfl⟩;exact ⟨m,⟨zs,g,h2,K⟩,V⟩
theorem bU(c:CZ):Ba prog 57 #[.pointer (some ⟨c.cp,0,none⟩)] [] (fun r H'=>∃g,r= .func (.func 115) #[] #[I5 g]/\H'=[[(g,.cells #[.pointer (some ⟨c.cp,0,none⟩)] 37 (0,0))]]):=by
 refine Se func57 ntmps57 [0] ?_;intro u R;refine A0<|Ze (Bx #[_])<|AD fun g=>A3 Y<|A0<|Zv (Bg (vs:=[]) (us:=[_]) Y Y)<|A3 Y<|AJ<|AO V results57 Y (by exact ⟨g,V,V⟩)
set_option maxHeartbeats 1000000 in
theorem bW(h:c.okb)(bc:Nat):KM prog 115 #[I5 bc] [[(bc,.cells #[.pointer (some ⟨c.cp,0,none⟩)] 37 (0,0))]] (zP c) (fun x:ByteArray=>#[.string x]) (au c) (WA c):=by
 intro l J hA hy s K;obtain ⟨d0,af,O,p9,pg,bn,gq,ic,pq⟩:=hA _ _ K;have U:(d0.its.map ItM.key).Perm (c.its.map ItM.key):=(NX af.its.keys h.its.keys).2 fun a=>by
  simp only [Bk,bn,RM,not_false_eq_true,fS]
 have pz:=h.its.len;have cu:=h.its.keys
 refine Se func115 ntmps115 [0,1] ?_;intro u R;refine Zq<|GM (s:=s) Wo (fun l9=>?_);rw [<-O];refine Zg<|Zl IH Y ?_;refine Zc [_] Y call19 Y V (uB af l9 gq ic) ?_;rintro _ _ ⟨_,⟨sk,⟨zs,g,qb,Z⟩,rfl⟩,rfl⟩;replace g:=g.trans U;have o9:=g.length_eq
 rw [B2]at o9;have p8:zs.Nodup:=g.nodup_iff.2 cu
 obtain ⟨pk,ck,rfl⟩:=Z.form;simp only [B2];rw [B2]at Z;refine Zv (Ab CN Y)<|Zm Y<|A4<|AP<|Zb [8,0,1,6,7] ?_;refine BB (e0:=[(8,_)]) (fun m e H=>∃(i:Nat) (s:List A9),m=zs.length -i/\(i<=zs.length/\J ((zs.take i).filter (J7 c)) s)/\e=[(8,I4 (i:Int))]/\H=[s]) (by exact ⟨0,s,V,⟨C0 _,K⟩,V,V⟩) Wp ?_;rintro _ _ _ ⟨i,s,rfl,⟨hi,K⟩,rfl,rfl⟩;refine A0<|Zv (Au Y Y)<|A4<|Zq<|Av Y (fun X=>?_) (fun X=>?_)
 ·
  obtain ⟨k,hk⟩:∃k,zs[i]?=some k:=⟨_,B4 A1⟩;obtain ⟨x,hx,rfl⟩:=Bk.1 (g.mem_iff.1 (DG hk));obtain ⟨ax,gm,G⟩:=Qk (f:=J7 c) hk;have l8:=bO p8 hk (J7 c)
  obtain ⟨d,hd,kv,q9,cO,l5,hC,hM,hS⟩:=hA _ _ K;have ek:x∈d.its:=(l5 x).2 ⟨hx,l8⟩
  have hg:=hd.its.get ek;have j3:(x.b,Obj.cells x.A19 126 (0,0))∈s:=hS _ (hd.its.sub x ek)
  have d9:=PZ cu hx;rw [show d.cp=d0.cp from kv.trans O.symm]at hC;have qa:zs[i]?=some x.key:=hk
  rcases Z with⟨_,h0,_⟩|⟨gk,capk,curk,zk,hvk,rfl,hlek,hcmk,hcsk,htkk,hfrk⟩
  · simp at h0;subst h0;simp at X
  injection hvk with hv1 hv2 hv3
  subst hv1 hv3;have j5:curk[i]?=some (.string x.key):=by
   have h:=congrArg (fun l=>l[i]?) htkk;simp only [H3,B2,AK X,DH,hk]at h;simpa using h
  refine AC<|Zx<|Zq<|AP<|A0<|BX (BS CN F0 Y Y (by first|omega|(simp;omega)))<|Zl HC Y (hv:=by exact j5) ?_;refine A3 Y<|Zq<|Az (n:=22) (0::1::3::7::0::31::63::127::255::511::0::1024::3072::7168::15360::32767::65535::131071::131071::524287::1048575::2097151::[]) 524288 A6 A6 V<|B3 0 V IH Y ?_;refine A2 1 V (Ap Y V)<|A2 2 V (AB (off:=4) Ek V rfl Q2 Y)<|DI (D':=15) 3 V rfl V (F8 Wo (hC)) (BO NO Y AM) ?_;refine A2 4 rfl (AQ Y)<|DI (D':=63) 5 rfl rfl rfl (F8 Wo (hM)) (Dj (Dn GO (D:=fun _=>True)) Pc Tr hd.its.im (fun _ _=>trivial) (trivial) (by rw [hg];first|done|rfl) Y Y) ?_;refine A2 6 V (Ap Y V)<|A2 7 V (AB (off:=0) HL V rfl H4 Y)<|A2 8 V (Aq (off:=8) FG V rfl A5 Y)<|DI (D':=1023) 9 V rfl V (F8 Wo (j3)) (BO AE Y AM) ?_;refine B3 10 V IH Y ?_;refine A2 11 V (Ap Y V)<|A2 12 V (AB (off:=0) Ek V rfl A5 Y)<|DI (D':=16383) 13 V rfl V (F8 Wo (hC)) (BO AE Y AM) ?_
  (refine Dl (D':=32767) 14 (GG Y Y (IntWalk.i64_in _ ?_)) ?_;(focus (have:=hd.pos;omega)))
  refine A2 15 V (Dq Y Y)<|A2 16 V (AQ Y)<|Db (t:=28) Y (fun B=>?_) (fun B=>?_)
  ·
   rw [DA B];have I:J7 c x.key=true:=d9.2 (by rw [<-cO];exact B)
   rw [AK I]at G;have o8:=hy _ x.key s ⟨zs,g,gm,G⟩ K
   refine An 17 V (AQ Y)<|An 18 V (AQ Y)<|Yw 19 1048575 V (GR (vs:=[_]) Y Y (o8) Wp) ?_;rintro _ _ ⟨_,⟨s',rfl,rfl,gy⟩,rfl⟩;refine An 20 V (Br Y)<|A2 21 V (AX Y Y)<|Ai<|Zn [0,1,6,7,8,33] ?_;refine Zx<|AV Y (fun hb=>by cases hb)<|fun hb=>AC<|A8<|Zx<|Zg<|Ya (n:=1) Y Y<|Zm Y<|Z0<|Zn [8,0,1,6,7] ?_;refine Aa (e':=[(8,_)]) (by exact ⟨i+1,s',rfl,⟨by omega,by rw [ax,AK I];exact gy⟩,rfl,rfl⟩)
  rw [CI B];have I:¬J7 c x.key=true:=fun h9=>B (by rw [cO];exact d9.1 h9)
  refine AF 17 V<|AF 18 V<|AF 19 V<|AF 20 V<|A2 21 V (AL Y Y)<|Ai<|Zn [0,1,6,7,8,33] ?_;refine Zx<|D5 Y<|AC<|A8<|Zx<|Zg<|Ya (n:=1) Y Y<|Zm Y<|Z0<|Zn [8,0,1,6,7] ?_;refine Aa (e':=[(8,_)]) (by exact ⟨i+1,s,rfl,⟨by omega,by rw [ax,AH I,Cp];exact K⟩,rfl,rfl⟩)
 obtain rfl:i=zs.length:=by omega
 rw [FF]at K;refine Ay<|Zt<|Zt<|AR<|Cv V results115 (by exact ⟨_,s,⟨zs,g,V⟩,V,K⟩)
def ItM.core(x:ItM):ItM:={x with res:=CF.none,wq:=none,wc:=0,since:=0}
variable{y:ItM}
theorem Ir(h:y.core=x.core):y.b=x.b/\y.id=x.id/\y.q=x.q/\y.tn=x.tn/\y.base=x.base/\y.rq=x.rq/\y.rc=x.rc/\y.L=x.L:=by
 obtain ⟨b,id,q,tn,base,rq,rc,L,res,wq,wc,since⟩:=x;obtain ⟨Z,G,q',K,m,J,I,X,B,U,O,g⟩:=y;unfold ItM.core at h;simp only [ItM.mk.injEq]at h;exact ⟨h.1,h.2.1,h.2.2.1,h.2.2.2.1,h.2.2.2.2.1,h.2.2.2.2.2.1,h.2.2.2.2.2.2.1,h.2.2.2.2.2.2.2.1⟩
theorem M3(h:y.core=x.core):y.key=x.key:=by unfold ItM.key;rw [(Ir h).2.2.1]
theorem Vt(W:List α)(r:α){n:Nat}(h:n<=W.length):(W++[r]).drop n=W.drop n++[r]:=fW h
def Jh(W W':List BU)(r:BU):Prop:=(W'=W++[r]/\W.length<64)\/(W'=(W++[r]).drop 1/\W.length=64)
variable{W' W:List BU}{r:BU}
theorem jT{pos base:Int}(g:Jh W W' r)(B:(pos -base).toNat<=W.length)(G:base<=pos)(I:pos+1 -64<=base):DC (pos+1) base W'=DC pos base W++[r]/\(pos+1 -base).toNat<=W'.length:=by
 have e:(pos+1 -base).toNat=(pos -base).toNat+1:=by omega
 unfold DC;rcases g with⟨rfl,m⟩|⟨rfl,m⟩
 · rw [B7,E0,e,show W.length+1 -((pos -base).toNat+1)=W.length -(pos -base).toNat by omega,Vt _ _ A1]
   exact ⟨V,by omega⟩
 · rw [C3,B7,E0,e,XS,show 1+(W.length+1 -1 -((pos -base).toNat+1))=W.length -(pos -base).toNat by omega,Vt _ _ A1]
   exact ⟨V,by omega⟩
theorem LA{pos base:Int}(h:pos<=base):DC pos base W=[]:=by
 unfold DC;rw [show(pos -base).toNat=0 by omega,Sh,fz]
def QL(cs:List Chg)(x:ItM):Prop:=∃ch∈cs,Ce x.q ch=true
variable{q:QM}
theorem RZ(g:∀c∈cs,c.ok):cs.any (Df q)=true↔∃ch∈cs,Ce q ch=true:=by
 rw [fy];constructor
 · rintro ⟨c,hc,h⟩
   unfold Df at h;rw [Fo]at h;exact ⟨c,hc,h.2⟩
 · rintro ⟨c,hc,h⟩
   refine ⟨c,hc,?_⟩;unfold Df;rw [DA (g c hc),h];rfl
theorem ai:∀{cs:List Chg} {r:CF},¬cs.any (Df q)=true->BZ q r cs=(r,false,true):=fun{cs r} h=>by
 have g:∀{cs:List Chg},(∀c∈cs,Df q c=false)->Ha q r cs=some r:=fun{cs}=>by
  induction cs with
  |nil=>intro _;rfl
  |cons c cs ih=>
   intro h;have h2:D6 q c r=(r,true):=by unfold D6;rw [h c (Dd ..)];rfl
   unfold Ha;rw [h2];exact ih fun d B=>h d (E3 _ B)
 have m:∀c∈cs,Df q c=false:=fun c hc=>by
  cases h4:Df q c with
  |false=>rfl
  |true=>exact absurd (fy.2 ⟨c,hc,h4⟩) h
 unfold BZ;rw [g m];show(r,cs.any (Df q),true)=_
 rw [nh]at h;rw [h]
structure rN(cs:List Chg)(p:Int)(ids:List Int)(MR:List A9)(x y:ItM):Prop where
 core:y.core=x.core
 how:(y=x/\¬(x.id∈ids/\x.base<p))\/((x.id∈ids/\x.base<p)/\(BZ x.q x.res cs).2.2=true/\y.res=(BZ x.q x.res cs).1/\y.since=p/\E8 MR (.slice y.wq y.res.rows.length y.wc) y.res.rows)
structure Gx(c d:CZ)(cs:List Chg)(p:Int)(W':List BU)(M1:List A9)(ids:List Int)(tl:List ByteArray):Prop where
 okb:d.okb
 cp:d.cp=c.cp
 pos:d.pos=p
 win:d.win=W'
 M:d.M=M1
 ns:d.ns=c.ns
 cap:d.z.cap=c.z.cap
 next:d.next=c.next
 PL:∀e∈d.PL,e∈c.PL
 MR:∀q∈c.MR,q∈d.MR
 i1:∀y∈d.its,∃x∈c.its,rN cs p ids d.MR x y
 i2:∀x∈c.its,(x.id∈ids->x.base<p->(BZ x.q x.res cs).2.2=true)->∃y∈d.its,y.core=x.core
 t1:∀k,k∈tl↔∃x∈c.its,x.key=k/\x.id∈ids/\x.base<p
 t2:tl.Nodup
theorem Jc(h:c.okb)(g:x∈c.its)(m:y∈c.its)(e:x.id=y.id):x=y:=by
 have hi:=h.its.idx.ids;rw [J0]at hi;exact G9 hi g m e
variable{p:Int}{M1:List A9}{ids:List Int}
theorem Gx.next_it(h:Gx c d cs p W' M1 ids tl)(hc:c.okb)(J:x∈c.its)(G:x.id∉ids):x∈d.its:=by
 obtain ⟨y,K,B⟩:=h.i2 x J fun g=>absurd g G;obtain ⟨U,m,I⟩:=h.i1 y K;have O:=Jc hc m J (by rw [<-(Ir I.core).2.1,(Ir B).2.1])
 subst O;rcases I.how with⟨rfl,_⟩|⟨⟨g,_⟩,_⟩
 · exact K
 · exact absurd g G
theorem uT(h:Gx c d cs p W' M1 ids tl)(hc:c.okb)(O:x∈c.its)(J:¬x.base<p):Gx c d cs p W' M1 (ids++[x.id]) tl:=by
 have g:∀z∈c.its,z.base<p->(z.id∈ids++[x.id]↔z.id∈ids):=fun z hz B=>by
  rw [B9,BT];refine ⟨fun m=>m.elim id fun h2=>?_,.inl⟩;rw [Jc hc hz O h2]at B;exact absurd B J
 refine ⟨h.okb,h.cp,h.pos,h.win,h.M,h.ns,h.cap,h.next,h.PL,h.MR,fun y U=>?_,fun z hz K=>h.i2 z hz fun m h2=>K ((g z hz h2).2 m) h2,fun k=>?_,h.t2⟩
 · obtain ⟨z,hz,I⟩:=h.i1 y U
   refine ⟨z,hz,I.core,?_⟩;rcases I.how with⟨e,m⟩|⟨m,h2⟩
   · exact .inl ⟨e,fun G=>m ⟨(g z hz G.2).1 G.1,G.2⟩⟩
   · exact .inr ⟨⟨(g z hz m.2).2 m.1,m.2⟩,h2⟩
 · rw [h.t1]
   constructor
   · rintro ⟨z,hz,a,b,e⟩;exact ⟨z,hz,a,(g z hz e).2 b,e⟩
   · rintro ⟨z,hz,a,b,e⟩;exact ⟨z,hz,a,(g z hz e).1 b,e⟩
theorem uS(hc:c.okb)(t1:∀k,k∈tl↔∃x∈c.its,x.key=k/\x.id∈ids/\x.base<p)(t2:tl.Nodup)(B:x∈c.its)(J:x.base<p)(O:x.id∉ids):(∀k,k∈tl++[x.key]↔∃y∈c.its,y.key=k/\y.id∈ids++[x.id]/\y.base<p)/\(tl++[x.key]).Nodup:=by
 constructor
 · intro k
   rw [B9,BT,t1];constructor
   · rintro (⟨y,g,a,b,e⟩|rfl)
     · exact ⟨y,g,a,DS _ b,e⟩
     · exact ⟨x,B,rfl,by simp,J⟩
   · rintro ⟨y,g,rfl,b,e⟩
     rcases B9.1 b with b|b
     · exact .inl ⟨y,g,rfl,b,e⟩
     · rw [Jc hc g B (BT.1 b)];exact .inr rfl
 · rw [Ge]
   refine ⟨t2,by simp,fun a I b m=>?_⟩;obtain rfl:=BT.1 m;intro K;obtain ⟨y,g,G,h2,_⟩:=(t1 a).1 I;rw [G9 hc.its.keys g B (G.trans K)]at h2;exact O h2
theorem wZ{its:List ItM}{next:Int}{esQ:Array MapEntry}{ckQ:Nat}{lmQ:List (Int×Value)}{lv:Value}{ML:List A9}{esI:Array MapEntry}{ckI:Nat}{lmI:List (ByteArray×Value)}{esK:Array MapEntry}{ckK:Nat}{lmK:List (Int×Value)}{SI:List A9}(h:GQ its next esQ ckQ lmQ lv ML esI ckI lmI esK ckK lmK SI)(J:(SI.map (·.1)).Nodup)(G:x∈its)(p:Int)(cs:List Chg)(wq:Option Addr)(wc:Nat):
 GQ (its.map fun y=>if y.id=x.id then x.upd p cs wq wc else y) next esQ ckQ lmQ lv ML esI ckI lmI esK ckK lmK (IB x.b (x.upd p cs wq wc).obj SI):=by
 have B:∀y∈its,y.id=x.id->y=x:=fun y g e=>by
  have hi:=h.idx.ids;rw [J0]at hi;exact G9 hi g G e
 have m:∀y∈its,(if y.id=x.id then x.upd p cs wq wc else y).key=y.key/\(if y.id=x.id then x.upd p cs wq wc else y).iq=y.iq/\(if y.id=x.id then x.upd p cs wq wc else y).b=y.b/\(if y.id=x.id then x.upd p cs wq wc else y).id=y.id/\(if y.id=x.id then x.upd p cs wq wc else y).q=y.q:=fun y g=>by
  by_cases e:y.id=x.id
  · rw [B y g e,AK rfl];exact ⟨rfl,rfl,rfl,rfl,rfl⟩
  · rw [AH e];exact ⟨rfl,rfl,rfl,rfl,rfl⟩
 have e1:((its.map fun y=>if y.id=x.id then x.upd p cs wq wc else y).map ItM.iq)=its.map ItM.iq:=by
  rw [J0];exact V1 fun y g=>(m y g).2.1
 have e2:((its.map fun y=>if y.id=x.id then x.upd p cs wq wc else y).map ItM.key)=its.map ItM.key:=by
  rw [J0];exact V1 fun y g=>(m y g).1
 refine ⟨by rw [e1];exact h.idx,by rw [e1];exact h.ist,h.im,fun q=>?_,h.km,fun q=>?_,by rw [e2];exact h.keys,fun y g=>?_,h.nx,by rw [B2];exact h.len,fun y g=>?_,fun y g=>?_⟩
 · rw [h.imem]
   constructor
   · rintro ⟨y,g,rfl⟩;exact ⟨_,DM g,by rw [(m y g).1,(m y g).2.2.1]⟩
   · rintro ⟨z,hz,rfl⟩
     obtain ⟨y,g,rfl⟩:=Bk.1 hz;exact ⟨y,g,by rw [(m y g).1,(m y g).2.2.1]⟩
 · rw [h.kmem]
   constructor
   · rintro ⟨y,g,rfl⟩;exact ⟨_,DM g,by rw [(m y g).1,(m y g).2.2.2.1]⟩
   · rintro ⟨z,hz,rfl⟩
     obtain ⟨y,g,rfl⟩:=Bk.1 hz;exact ⟨y,g,by rw [(m y g).1,(m y g).2.2.2.1]⟩
 · obtain ⟨z,hz,rfl⟩:=Bk.1 g
   rw [(m z hz).2.2.2.1];exact h.ids z hz
 · obtain ⟨z,hz,rfl⟩:=Bk.1 g
   rw [(m z hz).2.2.2.2];exact h.q z hz
 · obtain ⟨z,hz,rfl⟩:=Bk.1 g
   by_cases e:z.id=x.id
   · simp only [AK e]
     exact PW (h.sub x G)
   · simp only [AH e]
     refine Bk.2 ⟨z.ch,h.sub z hz,AH fun e2=>?_⟩;have I:=G9 J (h.sub z hz) (h.sub x G) e2
     unfold ItM.ch ItM.obj at I;simp only [gS,Obj.cells.injEq,nt,kc,Value.int.injEq,Wc,fS]at I;exact e (by simp_all)
theorem xV(h:Gx c d cs p W' M1 ids tl)(hc:c.okb)(hn:(d.SI.map (·.1)).Nodup)(O:x∈c.its)(hb:x.base<p)(I:x.id∉ids)(X:(BZ x.q x.res cs).2.2=true){wq:Option Addr}{wc:Nat}(hr:E8 s (.slice wq (BZ x.q x.res cs).1.rows.length wc) (BZ x.q x.res cs).1.rows):
 Gx c {d with SI:=IB x.b (x.upd p cs wq wc).obj d.SI,MR:=s++d.MR,its:=d.its.map fun y=>if y.id=x.id then x.upd p cs wq wc else y} cs p W' M1 (ids++[x.id]) (tl++[x.key]):=by
 have g:=h.next_it hc O I;have G:=wZ h.okb.its hn g p cs wq wc
 have U:(x.upd p cs wq wc).core=x.core:=rfl;obtain ⟨af,ax⟩:=uS hc h.t1 h.t2 O hb I;have e2:((d.its.map fun y=>if y.id=x.id then x.upd p cs wq wc else y).map ItM.key)=d.its.map ItM.key:=by
  rw [J0];refine V1 fun y m=>?_;show(if y.id=x.id then x.upd p cs wq wc else y).key=y.key
  split
  · rename_i e;rw [Jc h.okb m g e];rfl
  · rfl
 refine ⟨⟨h.okb.pos,h.okb.win,h.okb.wl,h.okb.wp,h.okb.pool,fun k=>by rw [e2];exact h.okb.pk k,G,fun y m=>?_⟩,h.cp,h.pos,h.win,h.M,h.ns,h.cap,h.next,h.PL,fun q J=>G1 _ (h.MR q J),fun y m=>?_,fun z hz hk=>?_,af,ax⟩
 · obtain ⟨z,hz,rfl⟩:=Bk.1 m
   split
   · rename_i e;rw [<-Jc h.okb hz g e];exact h.okb.tns z hz
   · exact h.okb.tns z hz
 · obtain ⟨z,hz,rfl⟩:=Bk.1 m
   by_cases e:z.id=x.id
   · rw [AK e]
     exact ⟨x,O,U,.inr ⟨⟨by simp,hb⟩,X,V,V,hr.mono fun q J=>DS _ J⟩⟩
   · rw [AH e]
     obtain ⟨w,hw,Z⟩:=h.i1 z hz;have bn:w.id≠x.id:=fun B=>e (by rw [(Ir Z.core).2.1,B])
     refine ⟨w,hw,Z.core,?_⟩;have hm:w.id∈ids++[x.id]↔w.id∈ids:=by rw [B9,BT];exact ⟨fun B=>B.elim id fun h2=>absurd h2 bn,.inl⟩
     rcases Z.how with⟨a,b⟩|⟨a,b,e1,e3,e4⟩
     · exact .inl ⟨a,fun h3=>b ⟨hm.1 h3.1,h3.2⟩⟩
     · exact .inr ⟨⟨hm.2 a.1,a.2⟩,b,e1,e3,e4.mono fun q J=>G1 _ J⟩
 · by_cases e:z.id=x.id
   · obtain rfl:=Jc hc hz O e
     exact ⟨_,Bk.2 ⟨z,g,AK V⟩,V⟩
   · obtain ⟨y,m,K⟩:=h.i2 z hz fun B h2=>hk (DS _ B) h2
     exact ⟨y,Bk.2 ⟨y,m,AH (by rw [(Ir K).2.1];exact e)⟩,K⟩
variable{d2:CZ}
theorem xW(h:Gx c d cs p W' M1 ids tl)(hc:c.okb)(J:x∈c.its)(hb:x.base<p)(O:x.id∉ids)(B:(BZ x.q x.res cs).2.2=false)
 (g:d2.okb)(h2:d.like d2)(I:d2.next=d.next)(K:d2.M=d.M/\d2.MR=d.MR)(h6:d2.its=d.its.filter fun y=>y.key≠x.key)(h7:∀e∈d2.PL,e∈d.PL):Gx c d2 cs p W' M1 (ids++[x.id]) (tl++[x.key]):=by
 obtain ⟨X,Z⟩:=uS hc h.t1 h.t2 J hb O;have m:∀y,y∈d2.its↔y∈d.its/\y.key≠x.key:=fun y=>by rw [h6,F1];simp
 refine ⟨g,h2.cp.trans h.cp,h2.pos.trans h.pos,h2.win.trans h.win,K.1.trans h.M,h2.ns.trans h.ns,h2.cap.trans h.cap,I.trans h.next,fun e he=>h.PL e (h7 e he),fun q hq=>by rw [K.2];exact h.MR q hq,fun y hy=>?_,fun z hz hk=>?_,X,Z⟩
 · obtain ⟨ax,bn⟩:=(m y).1 hy
   obtain ⟨w,hw,U⟩:=h.i1 y ax;have af:w.id≠x.id:=fun e=>bn (by rw [M3 U.core,Jc hc hw J e])
   refine ⟨w,hw,U.core,?_⟩;have m:w.id∈ids++[x.id]↔w.id∈ids:=by rw [B9,BT];exact ⟨fun g=>g.elim id fun h2=>absurd h2 af,.inl⟩
   rcases U.how with⟨a,b⟩|⟨a,b,e1,e3,e4⟩
   · exact .inl ⟨a,fun I=>b ⟨m.1 I.1,I.2⟩⟩
   · exact .inr ⟨⟨m.2 a.1,a.2⟩,b,e1,e3,by rw [K.2];exact e4⟩
 · by_cases e:z.id=x.id
   · obtain rfl:=Jc hc hz J e
     rw [hk B0 hb]at B;cases B
   · obtain ⟨y,hy,G⟩:=h.i2 z hz fun g h2=>hk (DS _ g) h2
     refine ⟨y,(m y).2 ⟨hy,fun h9=>e ?_⟩,G⟩;rw [M3 G]at h9;rw [G9 hc.its.keys hz J h9]
theorem xX(h:Gx c d r.cs r.p W' M1 ids tl)(hc:c.ok)(hr:EG r.p r.cs)(hp:r.p=c.pos+1){r':BU}(X:r'.pc=r.pc)(hW:Jh c.win W' r')(hM:∀q∈c.M,q∈d.M)(G:∀x∈c.its,x.id∈ids↔QL r.cs x)(hy:y∈d.its)(d9:r.p -64<=y.base):y.ok d.M d.MR r.p W':=by
 obtain ⟨x,hx,hs⟩:=h.i1 y hy;have g:=hc.all x hx
 obtain ⟨c1,c2,c3,c4,c5,c6,c7,c8⟩:=Ir hs.core;have B:∀ch∈r.cs,ch.ok:=fun ch af=>by
  obtain ⟨i,hi⟩:=GW af;exact hr.all i ch hi
 have J:r'.p=r.p:=congrArg Prod.fst X;have K:r'.cs=r.cs:=congrArg Prod.snd X
 have I:E8 d.MR (.slice y.wq y.res.rows.length y.wc) y.res.rows:=by
  rcases hs.how with⟨rfl,_⟩|⟨_,_,_,_,h5⟩
  · exact g.rw.mono h.MR
  · exact h5
 obtain ⟨r0,O,m⟩:=g.run;by_cases hb:x.base<r.p
 · obtain ⟨Z,U⟩:=jT hW g.reach A1 A1
   rw [<-hp]at Z U;refine ⟨by rw [c3];exact g.q,by rw [c5];exact g.base,by rw [c4];exact g.tn,by rw [c6,c7,c8];exact g.rp.mono hM,by rw [c8];exact g.rl,by rw [c8];exact g.fit,I,by rw [c5];exact U,r0,by rw [c3,c8];exact O,?_⟩;rw [c3,c5,Z,OV,m,I2];have hl:=O5 g.reach
   have cO:=hc.pos;have cu:=g.base
   unfold GD GD;rw [J,K];rcases hs.how with⟨rfl,ax⟩|⟨⟨hin,_⟩,hok,e1,e2,_⟩
   · have hq:¬r.cs.any (Df y.q)=true:=fun h9=>ax ⟨(G y hx).2 ((RZ B).1 h9),hb⟩
     rw [ai hq,AK ⟨rfl,by rw [hl];omega,by rw [hl];omega⟩];rfl
   · have hq:r.cs.any (Df x.q)=true:=(RZ B).2 ((G x hx).1 hin)
     rw [AK ⟨hok,by rw [hl];omega,by rw [hl];omega⟩,(M6 hok).2,AK hq,e1,e2]
 · have bn:y=x:=by
    rcases hs.how with⟨e,_⟩|⟨⟨_,h9⟩,_⟩
    · exact e
    · exact absurd h9 hb
   subst bn;rw [LA A1]at m;exact ⟨g.q,g.base,g.tn,g.rp.mono hM,g.rl,g.fit,I,by omega,r0,O,by rw [LA A1];exact m⟩
theorem TB{α:Type} [DecidableEq α]:∀{a b:List α},a.Nodup->(∀x∈a,x∈b)->a.length<=b.length
 |[],_,_,_=>C0 _
 |x::a,b,g,hs=>by
  obtain ⟨G,g⟩:=HW.1 g;have h2:=TB (a:=a) (b:=b.erase x) g fun y B=>by
   have m:y≠x:=fun e=>G (e▸B);exact (List.mem_erase_of_ne m).2 (hs y (E3 _ B))
  have I:=mN (hs x (Dd ..));have J:=List.length_pos_of_mem (hs x (Dd ..))
  rw [DE];omega
theorem nu(h:c.okb)(U:Jh c.win W r)(Z:r.p=c.pos+1)(O:EG r.p r.cs)(K:∀q∈c.M,q∈M1)(J:Ck M1 (.slice r.q r.cs.length r.cap) r.cs):W.length<=64/\∀(i:Nat) (g:BU),W[i]?=some g->g.p=r.p -(W.length:Int)+1+(i:Int)/\Ck M1 (.slice g.q g.cs.length g.cap) g.cs/\EG g.p g.cs:=by
 have B:∀(i:Nat) (g:BU),(c.win++[r])[i]?=some g->g.p=c.pos -(c.win.length:Int)+1+(i:Int)/\Ck M1 (.slice g.q g.cs.length g.cap) g.cs/\EG g.p g.cs:=fun i g m=>by
  rcases EV i c.win.length with h1|h1
  · rw [a8 h1]at m
    exact WL h K i g m
  · rw [SJ h1]at m
    have h2:i -c.win.length=0:=by
     have:=(BE.1 m).1;simp at this;omega
    rw [h2]at m;have I:r=g:=by simpa using m
    subst I;exact ⟨by omega,J,O⟩
 have G:(c.win++[r]).length=c.win.length+1:=by rw [B7];rfl
 rcases U with⟨rfl,X⟩|⟨rfl,X⟩
 · refine ⟨by omega,fun i g m=>?_⟩
   obtain ⟨a,b,e⟩:=B i g m;exact ⟨by rw [G];omega,b,e⟩
 · refine ⟨by rw [C3];omega,fun i g m=>?_⟩
   rw [OR]at m;obtain ⟨a,b,e⟩:=B (1+i) g m;exact ⟨by rw [C3,G];omega,b,e⟩
theorem uV(h:c.okb){wq:Option Addr}{wc:Nat}{sW:List A9}(J:Jh c.win W r)(g:Bc 2 50 (.slice wq W.length wc) W.length (Dp W) sW)(O:r.p=c.pos+1)(m:EG r.p r.cs)(I:∀q∈c.M,q∈M1)(G:Ck M1 (.slice r.q r.cs.length r.cap) r.cs){lv2:Value}{ML2:List A9}(hst:WG (c.its.map ItM.iq) lv2 ML2):
 Gx c {c with pos:=r.p,wq:=wq,wc:=wc,win:=W,sW:=sW,lv:=lv2,ML:=ML2,M:=M1} r.cs r.p W M1 [] []:=by
 have B:=nu h J O m I G;have U:=m.pos
 exact ⟨⟨⟨by show 0<=r.p;omega,by show r.p<=10000;omega⟩,g,B.1,B.2,h.pool,h.pk,{h.its with ist:=hst},h.tns⟩,V,V,V,V,V,V,V,fun e K=>K,fun q X=>X,fun y hy=>⟨y,hy,V,.inl ⟨V,fun h=>absurd h.1 B0⟩⟩,fun x Z _=>⟨x,Z,V⟩,fun k=>by simp,kh⟩
structure J2(c d:CZ)(p:Int)(cs:List Chg)(q2:Option Addr)(cap2:Nat)(zs:List ByteArray):Prop where
 ok:d.ok
 cp:d.cp=c.cp
 pos:d.pos=p
 win:Jh c.win d.win ⟨p,q2,cap2,cs⟩
 ns:d.ns=c.ns
 cap:d.z.cap=c.z.cap
 next:d.next=c.next
 PL:∀e∈d.PL,e∈c.PL
 i1:∀y∈d.its,p -64<=y.base/\∃x∈c.its,y.core=x.core/\((¬(QL cs x/\x.base<p)/\y.res=x.res/\y.since=x.since)\/((QL cs x/\x.base<p)/\(BZ x.q x.res cs).2.2=true/\y.since=p))
 i2:∀x∈c.its,p -64<=x.base->(QL cs x->x.base<p->(BZ x.q x.res cs).2.2=true)->∃y∈d.its,y.core=x.core
 z1:∀k,k∈zs↔∃x∈c.its,x.key=k/\QL cs x/\x.base<p
 z2:zs.Nodup
 z3:zs.Pairwise fun x y=>x.data.toList<=y.data.toList
theorem x8{its:List ItM}(g:((its.map ItM.iq).map (·.1)).Nodup){B:List Int}(h:∀i,i∈B↔JL (its.map ItM.iq) cs i)(m:x∈its):x.id∈B↔QL cs x:=by
 rw [h];constructor
 · rintro ⟨y,J,G,hc⟩
   obtain ⟨w,I,rfl⟩:=Bk.1 J;rw [J0]at g;have:=G9 g I m G
   subst this;exact hc
 · intro hc
   exact ⟨x.iq,DM m,V,hc⟩
structure JI(d d2:CZ)(pre:List ByteArray):Prop where
 okb:d2.okb
 like:d.like d2
 next:d2.next=d.next
 M:d2.M=d.M/\d2.MR=d.MR
 mi:d2.mi=d.mi
 PL:∀e∈d2.PL,e∈d.PL
 its:∀y,y∈d2.its↔y∈d.its/\y.key∉pre
theorem Ri(h:d.okb):JI d d []:=⟨h,⟨rfl,rfl,rfl,rfl,rfl⟩,rfl,⟨rfl,rfl⟩,rfl,fun e g=>g,fun y=>by simp⟩
theorem bV{pre:List ByteArray}{k:ByteArray}(h:JI d d2 pre)(K:d.okb)(J:au d (pre++[k])):∃x∈d2.its,x.key=k:=by
 obtain ⟨zs,B,G,g⟩:=J;have m:(zs.filter (J7 d)).Nodup:=(B.nodup_iff.2 K.its.keys).sublist SU
 have O:k∈zs:=(F1.1 (by rw [g];simp:k∈zs.filter (J7 d))).1;obtain ⟨x,U,rfl⟩:=Bk.1 (B.mem_iff.1 O);refine ⟨x,(h.its x).2 ⟨U,fun I=>?_⟩,V⟩;rw [g,CA,Ge]at m;exact m.2.2 _ I _ B0 V
theorem Rh{g:CZ}{pre:List ByteArray}(h:JI d d2 pre)(B:g.okb)(h2:d2.like g)(G:g.next=d2.next)(m:g.M=d2.M/\g.MR=d2.MR)(I:g.mi=d2.mi)(J:g.its=d2.its.filter fun y=>y.key≠x.key)(K:∀e∈g.PL,e∈d2.PL):JI d g (pre++[x.key]):=by
 refine ⟨B,h.like.trans h2,G.trans h.next,⟨m.1.trans h.M.1,m.2.trans h.M.2⟩,I.trans h.mi,fun e O=>h.PL e (K e O),fun y=>?_⟩;rw [J,F1,h.its,B9,BT];simp only [G2,ne_eq,not_or];exact ⟨fun⟨⟨a,b⟩,e⟩=>⟨a,b,e⟩,fun⟨a,b,e⟩=>⟨⟨a,b⟩,e⟩⟩
theorem uU{q2:Option Addr}{cap2:Nat}{zi:List Int}{zs ys:List ByteArray}(hc:c.ok)(hR:EG p cs)(hp:p=c.pos+1)(hW:Jh c.win W ⟨p,q2,cap2,cs⟩)(h:Gx c d cs p W M1 zi tl)(hM:∀q∈c.M,q∈M1)(cu:∀i,i∈zi↔JL (c.its.map ItM.iq) cs i)(I:JI d d2 ys)(Z:WA d ys)(hz:zs.Perm tl)(cO:zs.Pairwise fun x y=>x.data.toList<=y.data.toList):J2 c d2 p cs q2 cap2 zs:=by
 have g:∀x∈c.its,x.id∈zi↔QL cs x:=fun x B=>x8 hc.its.idx.ids cu B;have m:∀y,y∈d2.its↔y∈d.its/\p -64<=y.base:=fun y=>by
  rw [I.its];constructor
  · rintro ⟨G,hn⟩
    refine ⟨G,a7 fun X=>hn ?_⟩;obtain ⟨ks,af,rfl⟩:=Z;refine F1.2 ⟨af.mem_iff.2 (DM G),(PZ h.okb.its.keys G).2 ?_⟩;rw [h.pos];omega
  · rintro ⟨G,hb⟩
    refine ⟨G,fun X=>?_⟩;obtain ⟨ks,af,rfl⟩:=Z;have:=(PZ h.okb.its.keys G).1 (F1.1 X).2
    rw [h.pos]at this;omega
 have J:d2.pos=p:=I.like.pos.trans h.pos;have K:d2.win=W:=I.like.win.trans h.win
 refine ⟨⟨I.okb,fun y G=>?_⟩,I.like.cp.trans h.cp,J,by rw [K];exact hW,I.like.ns.trans h.ns,I.like.cap.trans h.cap,I.next.trans h.next,fun e he=>h.PL e (I.PL e he),fun y G=>?_,fun x B hb hk=>?_,fun k=>?_,hz.nodup_iff.2 h.t2,cO⟩
 · obtain ⟨O,U⟩:=(m y).1 G
   rw [J,K,I.M.1,I.M.2];exact xX (r:=⟨p,q2,cap2,cs⟩) h hc hR hp rfl hW (fun q hq=>by rw [h.M];exact hM q hq) g O U
 · obtain ⟨O,U⟩:=(m y).1 G
   obtain ⟨x,B,hs⟩:=h.i1 y O;refine ⟨U,x,B,hs.core,?_⟩;rcases hs.how with⟨rfl,bn⟩|⟨⟨hin,hb⟩,hok,_,hsi,_⟩
   · exact .inl ⟨fun X=>bn ⟨(g y B).2 X.1,X.2⟩,rfl,rfl⟩
   · exact .inr ⟨⟨(g x B).1 hin,hb⟩,hok,hsi⟩
 · obtain ⟨y,G,ax⟩:=h.i2 x B fun h1 h2=>hk ((g x B).1 h1) h2
   exact ⟨y,(m y).2 ⟨G,by rw [(Ir ax).2.2.2.2.1];exact hb⟩,ax⟩
 · rw [hz.mem_iff,h.t1]
   constructor
   · rintro ⟨x,B,a,b,e⟩;exact ⟨x,B,a,(g x B).1 b,e⟩
   · rintro ⟨x,B,a,b,e⟩;exact ⟨x,B,a,(g x B).2 b,e⟩
theorem gP(h:Gx c d cs p W' M1 ids tl)(hc:c.ok)(hC:Ck ME (.slice qa cs.length cap) cs)(O:cs.length<=1000)(hx:x∈c.its)(hb:x.base<p)(G:x.id∉ids)(hT:Row 9 tv (tl.map Value.string) st)(U:tl.length<=1000000)(K J I:Nat):
 Ba prog 54 #[.string x.key,.pointer (some ⟨x.b,0,none⟩),I5 K,I5 J,I5 I] [[(K,.cells #[tv] 45 (0,0))],[(J,.cells #[I4 p,.slice qa cs.length cap] 50 (0,0))],[(I,.cells #[.pointer (some ⟨c.cp,0,none⟩)] 37 (0,0))],st,[(c.cp,.cells d.A20 120 (0,0))],d.sW,d.z.S,[(d.mb,.map d.esP d.ckP)],d.su,[(d.ip,.cells #[.map (some d.mq),d.lv] 186 (0,0))],[(d.mq,.map d.esQ d.ckQ)],d.ML,[(d.mi,.map d.esI d.ckI)],[(d.mkb,.map d.esK d.ckK)],d.SI,d.M,d.MR,ME] (fun v H'=>v=undef/\∃(d2:CZ) (m:Value) (g:List A9),Gx c d2 cs p W' M1 (ids++[x.id]) (tl++[x.key])/\Row 9 m ((tl++[x.key]).map Value.string) g/\H'=[[(K,.cells #[m] 45 (0,0))],[(J,.cells #[I4 p,.slice qa cs.length cap] 50 (0,0))],[(I,.cells #[.pointer (some ⟨c.cp,0,none⟩)] 37 (0,0))],g,[(c.cp,.cells d2.A20 120 (0,0))],d2.sW,d2.z.S,[(d2.mb,.map d2.esP d2.ckP)],d2.su,[(d2.ip,.cells #[.map (some d2.mq),d2.lv] 186 (0,0))],[(d2.mq,.map d2.esQ d2.ckQ)],d2.ML,[(d2.mi,.map d2.esI d2.ckI)],[(d2.mkb,.map d2.esK d2.ckK)],d2.SI,d2.M,d2.MR,ME]):=by
 rw [<-h.cp];have X:=h.next_it hc.tookb hx G
 have hl:x.live d.MR:=by
  have B:=(hc.all x hx).live hc.tookb;exact ⟨B.q,B.rw.mono h.MR,B.wn,B.wv⟩
 cases hok:(BZ x.q x.res cs).2.2 with
 |true=>
  refine (nQ h.okb X hl p hC O hok hT U K J I).mono ?_;rintro v H' ⟨B,wq,wc,m,g,s,h2,Z,h4,rfl⟩;exact ⟨B,_,m,g,xV h hc.tookb h4 hx hb G hok Z,h2,V⟩
 |false=>
  refine (nR h.okb X hl p hC O hok hT U K J I).mono ?_;rintro v H' ⟨B,d2,m,g,h2,Z,h4,h5,_,h6,h7,h8,rfl⟩;exact ⟨B,d2,m,g,xW h hc.tookb hx hb G hok h2 Z h4 h5 h6 h7,h8,by rw [Z.cp]⟩
theorem Rc{l:List α}(g:l.Nodup){x:α}(h:l[i]?=some x):x∉l.take i:=fun m=>by
 have h2:l=l.take i++x::l.drop (i+1):=by
  obtain ⟨B,G⟩:=BE.1 h;rw [<-G,<-R0 B,Hx]
 rw [h2,Ge]at g;exact g.2.2 x m x (Dd ..) V
theorem aW(h:c.ok)(hC:Ck ME (.slice qa cs.length cap) cs)(hR:EG p cs)(hp:p=c.pos+1):Ba prog 16 #[.pointer (some ⟨c.cp,0,none⟩),.agg #[I4 p,.slice qa cs.length cap]] [[(c.cp,.cells c.A20 120 (0,0))],c.sW,c.z.S,[(c.mb,.map c.esP c.ckP)],c.su,[(c.ip,.cells #[.map (some c.mq),c.lv] 186 (0,0))],[(c.mq,.map c.esQ c.ckQ)],c.ML,[(c.mi,.map c.esI c.ckI)],[(c.mkb,.map c.esK c.ckK)],c.SI,c.M,c.MR,ME] (fun r H'=>∃(d:CZ) (q2:Option Addr) (cap2:Nat) (zs:List ByteArray) (tv:Value) (s sM:List A9),r= .tuple #[tv,I4 0]/\J2 c d p cs q2 cap2 zs/\d.M=sM++c.M/\Row 9 tv (zs.map Value.string) s/\H'=[[(d.cp,.cells d.A20 120 (0,0))],d.sW,d.z.S,[(d.mb,.map d.esP d.ckP)],d.su,[(d.ip,.cells #[.map (some d.mq),d.lv] 186 (0,0))],[(d.mq,.map d.esQ d.ckQ)],d.ML,[(d.mi,.map d.esI d.ckI)],[(d.mkb,.map d.esK d.ckK)],d.SI,d.M,d.MR,ME,s]):=by
 have zt:=mL;obtain ⟨p9,zf,e9,zu,zq⟩:=id hC;injection e9 with e91 e92 e93
 subst e91 e93;have FT:=h.pos
 have zy:=hR.pos;have zn:=hR.len
 have Gw:=h.wl;have Gl:=Es h.win
 have j3:∀ch∈cs,ch.ok:=fun ch ax=>by
  obtain ⟨i,hi⟩:=GW ax;exact hR.all i ch hi
 have sO:∀x∈c.its.map ItM.iq,BI x.2:=fun y hy=>by
  obtain ⟨x,hx,rfl⟩:=Bk.1 hy;exact h.its.q x hx
 have sJ:(c.its.map ItM.iq).length<=500:=by rw [B2];exact h.its.len
 refine DK func16 V ntmps16 V ?_;intro u R;refine Zb [0,1] ?_;refine A0<|Ze (Bx #[_])<|AD fun bc=>Ze (Bx #[I4 p,.slice qa cs.length cap])<|AD fun br=>Za Y<|A3 Y<|Zq<|AP<|A0<|Zl IH Y ?_;refine Zv (Be Pr Y Y)<|A3 Y<|AV Y (fun ic=>by cases ic)<|fun ic=>Zq<|Az (n:=14) (0::1::3::7::15::31::15::79::207::463::975::2047::4095::8191::[]) 2 A6 A6 V<|E6 0 V Wh (AA (cs:=#[I4 p,.slice qa cs.length cap]) Hc F2 Y As (by exact BN V)) ?_;refine Yw 1 3 V (Zu [_] Y call51 Y V (Pf p qa cap cs ME hC)) ?_;rintro _ _ ⟨rfl,rfl⟩;rw [DA hR];refine A2 2 V (Br Y)<|A2 3 V (AQ Y)<|Cf (t:=19) Y (fun g1=>?_) (fun g1=>?_)
 ·
  rw [g1];cases g1
 rw [g1];refine An 4 V (AB (off:=0) GF V rfl A5 Y)<|DQ 5 V Wh (BO AE Y AM) ?_;refine DQ 6 V Wh (BO IH Y AM) ?_;refine An 7 V (Ap Y V)<|An 8 V (AB (off:=0) Ek V rfl A5 Y)<|DQ 9 V Wh (BO AE Y AM) ?_
 (refine An 10 rfl (H6 Y Y (IntWalk.i64_in _ ?_)) ?_;(focus (omega)))
 refine An 11 V (Kw Y Y)<|A2 12 V (AL Y Y)<|A2 13 V (Aw Y)<|Ai<|Zn [2,3,15] ?_;refine Zx<|Av Y (fun h3=>by omega)<|fun h3=>AC<|A8<|Zx<|A0<|Zl IH Y ?_;refine Zh 0 GF V rfl A5 Y<|Zl AE Y ?_;refine Zp Y V<|Zh 0 Ek V rfl A5 Y<|Xe (Zs A5 Y Y V) ?_;refine A4<|Zq<|Az (n:=12) (0::0::2::6::14::0::32::96::254::511::1023::2047::[]) 2496 A6 A6 V<|B3 0 V IH Y ?_;refine B3 1 V IH Y ?_;refine A2 2 V (Ap Y V)<|A2 3 V (AB (off:=1) Ek V rfl S5 Y)<|B3 4 V isAgg25 Y ?_;refine E6 5 V Wh (AA (cs:=#[I4 p,.slice qa cs.length cap]) Hc F2 Y As (by exact BN V)) ?_;refine Zz (l:=[6])<|B1 [false,true,true,true] [(4,(_,_)),(1,(_,_)),(0,(_,_))] V rfl (Zw [_] Y call52 Y V (Qf p hC A1)) ?_ Bv Ag;rintro _ _ ⟨_,⟨q2,cap2,s2,rfl,gq,rfl⟩,rfl⟩;refine B5<|Yz 7 96 255 [4,1,0] [true,true,true] [(4,(_,_)),(1,(_,_)),(0,(_,_))] V Y V rfl V rfl (Ah (vs:=[_]) (cs:=[_,_]) GB F2 Ss Y V rfl V rfl V)<|AD fun gb=>B5<|Yz 8 254 511 [4,1,0] [false,false,true] [(0,(_,_))] V Y V rfl V rfl (BQ (by_:=32) (sz:=2) GB (V:Tryz.prog.info? 50=some Tryz.t50) V rfl V rfl Y (h.win) Y (DJ 2 gb 1 1 50 (0,0) [I4 p,.slice q2 cs.length cap2] V) Wo Wo Fm A1 A1) ?_;rintro _ _ ⟨J,Z,rfl⟩;refine ⟨Zk (AZ),?_⟩;obtain ⟨U,K,rfl⟩:=Z.form;refine A2 9 V (Ap Y V)<|A2 10 V (AB (off:=1) Ek V rfl S5 Y)<|Zz (l:=[11])<|B1 [false] [] V rfl (Zs S5 Y Y V (hi:=by(simp;done))) ?_ (fun _ _ h=>h.elim) Ag;rintro _ _ ⟨rfl,rfl⟩;refine B5<|Ai<|Zn [2,3] ?_;refine Zx ?_;have X:=BR Z (n':=(c.win++[(⟨p,q2,cap2,cs⟩:BU)]).length) (xs':=Dp (c.win++[(⟨p,q2,cap2,cs⟩:BU)])) (by rw [B7];rfl) (by rw [KU];rfl)
 have B:(c.win++[(⟨p,q2,cap2,cs⟩:BU)]).length=c.win.length+1:=by rw [B7];rfl
 refine CK (s1:=s2) (s2:=c.M) Wo Wo ?_;refine Zb [2,3] ?_;refine D7 (e0:=[]) (H0:=[[(c.cp,.cells #[I4 p,.slice U (c.win.length+1) K,.pointer (some ⟨c.z.r,0,none⟩),.pointer (some ⟨c.ip,0,none⟩),.map (some c.mi),.map (some c.mkb),I4 c.next] 120 (0,0))],J,(s2++c.M)]) (fun e H=>∃(W:List BU) (wq:Option Addr) (wc:Nat) (sW s0:List A9),(Jh c.win W ⟨p,q2,cap2,cs⟩/\Bc 2 50 (.slice wq W.length wc) W.length (Dp W) sW)/\e=[]/\H=[[(c.cp,.cells #[I4 p,.slice wq W.length wc,.pointer (some ⟨c.z.r,0,none⟩),.pointer (some ⟨c.ip,0,none⟩),.map (some c.mi),.map (some c.mkb),I4 c.next] 120 (0,0))],sW,(s0++(s2++c.M))]) Wp ?hx_6 ?hy_6
 case hx_6=>
  refine A0<|Zl IH Y ?_;refine Zp Y V<|Zh 1 Ek V rfl S5 Y<|Zl isAgg25 Y ?_;refine Zv (Ab GB Y)<|Zv (DF (n:=64) Y Y)<|A4<|Av Y (fun h6=>?_) (fun h6=>?_)
  ·
   have l9:EW (J++(s2++c.M)) (.slice U (c.win.length+1) K) (c.win++[(⟨p,q2,cap2,cs⟩:BU)]):=by
    rw [B]at X;rw [<-B];refine Jv (by rw [B];exact X) A1 fun r hr=>?_;rcases B9.1 hr with hr|hr
    · obtain ⟨i,hi⟩:=GW hr
      exact Gt (h.wp i r hi).2.1 s2
    · rw [BT.1 hr];exact Je gq c.M
   have o8:EW (J++(s2++c.M)) (.slice (ET U 1 K 2) c.win.length (K -1)) ((c.win++[(⟨p,q2,cap2,cs⟩:BU)]).drop 1):=by
    rw [<-B]at l9;have h9:=NS (a:=1) l9 A1
    rwa [B,RE]at h9
   refine CK (s1:=J) (s2:=(s2++c.M)) Wo Wo ?_;refine Az (n:=10) (0::0::2::6::14::30::62::127::255::511::[]) 576 A6 A6 V<|B3 0 V IH Y ?_;refine B3 1 V IH Y ?_;refine A2 2 V (Ap Y V)<|A2 3 V (AB (off:=1) Ek V rfl S5 Y)<|B3 4 V isAgg25 Y ?_;refine A2 5 rfl (C8 (l:=1) GB F2 Y Y A1)<|Zz (l:=[6])<|B1 [false,false,true] [(0,(_,_))] rfl rfl (Zw [_] Y call53 Y rfl (I7 o8 (by rw [C3];omega))) ?_ Bv Ag;rintro _ _ ⟨_,⟨sR,l8,rfl⟩,rfl⟩;refine ⟨Zk (AZ),?_⟩;obtain ⟨gR,cR,rfl⟩:=l8.form;refine A2 7 V (Ap Y V)<|A2 8 V (AB (off:=1) Ek V rfl S5 Y)<|Zz (l:=[9])<|B1 [false] [] V rfl (Zs S5 Y Y V (hi:=by(simp;done))) ?_ (fun _ _ h=>h.elim) Ag;rintro _ _ ⟨rfl,rfl⟩;refine B5<|Ai<|Zn [2,3] ?_;refine BL (e':=[]) (by exact ⟨(c.win++[(⟨p,q2,cap2,cs⟩:BU)]).drop 1,gR,cR,sR,J,⟨.inr ⟨V,by omega⟩,l8⟩,V,V⟩)
  refine AC<|Zn [2,3] ?_;refine BL (e':=[]) (by exact ⟨c.win++[(⟨p,q2,cap2,cs⟩:BU)],U,K,J,[],⟨.inl ⟨rfl,by omega⟩,by rw [B]at X⊢;exact X⟩,rfl,by rw [B]⟩)
 rintro _ _ ⟨W,wq,wc,sW,s0,⟨gy,ve⟩,rfl,rfl⟩;refine A0<|Ze (Al UP #[_])<|AD fun bt=>A4<|A0<|Zv (Bg (vs:=[]) (us:=[_,_,_]) Y Y)<|A3 Y<|Zq<|Zq<|Az (n:=8) (0::1::3::7::0::31::63::0::[]) 32 A6 A6 V<|B3 0 V IH Y ?_;refine A2 1 V (Ap Y V)<|A2 2 V (AB (off:=3) Ek V rfl sizeOf116 Y)<|B3 3 V isAgg116 Y ?_;refine E6 4 V Wh (AA (cs:=#[I4 p,.slice qa cs.length cap]) Hc F2 Y As (by exact BN V)) ?_;refine A2 7 V (AQ Y)<|Zz (l:=[5])<|B1 [false,false,false] [] V rfl (Zw [_,_] Y call56 Y V (eO h.its.idx sO sJ h.its.ist p (MC:=ME) hC A1 j3)) ?_ Bv Ag;rintro _ _ ⟨_,⟨zi,sz,lv2,ML2,p8,yt,Hf,ek,o9,rfl⟩,rfl⟩;refine ⟨AZ,?_⟩;obtain ⟨pk,ck,rfl⟩:=ek.form;simp only [B2];rw [B2]at ek;refine A2 6 V (Ab Cd Y)<|Ai<|Zx<|AP<|BV<|Zb [68,2,3,6,7,66,67] ?_;refine BB (e0:=[(68,_)]) (fun m e H=>∃(k:Nat) (d:CZ) (tl:List ByteArray) (tv:Value) (st:List A9),m=zi.length -k/\(k<=zi.length/\Gx c d cs p W (s0++(s2++c.M)) (zi.take k) tl/\Row 9 tv (tl.map Value.string) st)/\e=[(68,I4 (k:Int))]/\H=[[(c.cp,.cells d.A20 120 (0,0))],d.sW,d.z.S,[(d.mb,.map d.esP d.ckP)],d.su,[(d.ip,.cells #[.map (some d.mq),d.lv] 186 (0,0))],[(d.mq,.map d.esQ d.ckQ)],d.ML,[(d.mi,.map d.esI d.ckI)],[(d.mkb,.map d.esK d.ckK)],d.SI,d.M,d.MR,[(bt,.cells #[tv] 45 (0,0))],st]) (by exact ⟨0,({c with pos:=p,wq:=wq,wc:=wc,win:=W,sW:=sW,lv:=lv2,ML:=ML2,M:=s0++(s2++c.M)}:CZ),[],.slice none 0 0,[],rfl,⟨C0 _,by rw [HX];exact uV h.tookb gy ve hp hR (fun q hq=>G1 _ (G1 _ hq)) (Gt (Je gq c.M) s0) o9,Fu _⟩,rfl,rfl⟩) Wp ?_;rintro _ _ _ ⟨k,d,tl,tv,st,rfl,⟨hk,g,hT⟩,rfl,rfl⟩;refine A0<|Zv (Au Y Y)<|A4<|Zq<|Av Y (fun bn=>?_) (fun bn=>?_)
 ·
  obtain ⟨i9,O⟩:∃i,zi[k]?=some i:=⟨_,B4 A1⟩;obtain ⟨y9,y5,cO,zl⟩:=(p8 i9).1 (DG O);obtain ⟨x,hx,rfl⟩:=Bk.1 y5;replace cO:x.id=i9:=cO;subst cO;have l5:x.id∉zi.take k:=Rc yt O
  have cu:=g.next_it h.tookb hx l5;have kv:=g.okb.its.get cu
  have sj:EF x.id d.lmK=some (.string x.key):=Cw g.okb.its.km.keys ((g.okb.its.kmem _).2 ⟨x,cu,rfl⟩);have ax:(x.b,Obj.cells x.A19 126 (0,0))∈d.SI:=g.okb.its.sub x cu
  have vz:tl.length<=500:=N1 (TB g.t2 fun a ha=>by
   obtain ⟨w,hw,rfl,_⟩:=(g.t1 a).1 ha;exact DM hw) (by rw [B2];exact h.its.len)
  rcases ek with⟨_,h0,_⟩|⟨gk,capk,curk,zk,hvk,rfl,hlek,hcmk,hcsk,htkk,hfrk⟩
  · simp at h0;subst h0;simp at bn
  injection hvk with hv1 hv2 hv3
  subst hv1 hv3;have q9:curk[k]?=some (I4 x.id):=by
   have h:=congrArg (fun l=>l[k]?) htkk;simp only [H3,B2,AK bn,DH,O]at h;simpa using h
  refine AC<|Zx<|Zq<|AP<|A0<|BX (BS Cd A5 Y Y (by first|omega|decide|(simp;done)|(simp;omega)))<|Zl AE Y (hv:=by exact q9) ?_;refine A3 Y<|A0<|Zl IH Y ?_;refine Zp Y V<|Zh 5 Ek V rfl sizeOf91 Y<|Zl isAgg91 Y ?_;refine Zm Y<|Zo Wh (Dj (CX Cl (D:=fun _=>True)) cT HM g.okb.its.km (fun _ _=>trivial) (trivial) (by rw [sj];first|done|rfl) Y Y) ?_;refine A3 Y<|Zq<|Az (n:=13) (0::1::3::7::0::31::63::127::255::511::0::1024::4095::[]) 0 A6 A6 V<|B3 0 V IH Y ?_;refine A2 1 V (Ap Y V)<|A2 2 V (AB (off:=4) Ek V rfl Q2 Y)<|B3 3 V NO Y ?_;refine A2 4 rfl (AQ Y)<|E6 5 rfl Wh (Dj (Dn GO (D:=fun _=>True)) Pc Tr g.okb.its.im (fun _ _=>trivial) (trivial) (by rw [kv];first|done|rfl) Y Y) ?_;refine A2 6 V (Ap Y V)<|A2 7 V (AB (off:=0) HL V rfl H4 Y)<|A2 8 V (Aq (off:=8) FG V rfl A5 Y)<|DI (D':=1023) 9 V rfl V (F8 Wo (ax)) (BO AE Y AM) ?_;refine A2 10 V (AB (off:=0) GF V rfl A5 Y)<|B3 11 V AE Y ?_;refine A2 12 V (Dq Y Y)<|Ai<|Zn [2,3,6,7,10,66,67,68,90] ?_;refine Zx<|Av Y (fun af=>?_) (fun af=>?_)
  ·
   refine Zg<|Zm Y<|Zm Y<|Zl IH Y ?_;refine Zp Y V<|Zh 4 Ek V rfl Q2 Y<|Zl NO Y ?_;refine Zm Y<|Zo Wh (Dj (Dn GO (D:=fun _=>True)) Pc Tr g.okb.its.im (fun _ _=>trivial) (trivial) (by rw [kv];first|done|rfl) Y Y) ?_;refine Zc [_,_] Y call54 Y V (gP g h hC A1 hx af l5 hT A1 bt br bc) ?_;rintro _ _ ⟨_,⟨rfl,d2,zb,za,gm,pz,rfl⟩,rfl⟩;refine Z0<|A8<|Zx<|Zg<|Ya (n:=1) Y Y<|Zm Y<|Z0<|Zn [68,2,3,6,7,66,67] ?_;refine Aa (e':=[(68,_)]) (by exact ⟨k+1,d2,tl++[x.key],zb,za,rfl,⟨by omega,by rw [Bh O];exact gm,pz⟩,rfl,rfl⟩)
  refine AC<|A8<|Zx<|Zg<|Ya (n:=1) Y Y<|Zm Y<|Z0<|Zn [68,2,3,6,7,66,67] ?_;refine Aa (e':=[(68,_)]) (by exact ⟨k+1,d,tl,tv,st,rfl,⟨by omega,by rw [Bh O];exact uT g h.tookb hx af,hT⟩,rfl,rfl⟩)
 obtain rfl:k=zi.length:=by omega
 rw [FF]at g;have vz:tl.length<=500:=N1 (TB g.t2 fun a ha=>by
  obtain ⟨w,hw,rfl,_⟩:=(g.t1 a).1 ha;exact DM hw) (by rw [B2];exact h.its.len)
 refine Ay<|Zt<|Zt<|AR<|Zx<|Zq<|Zq ?_;rw [<-g.cp];refine Zg<|Zl IH Y ?_;refine Zc [_] Y call57 Y V (bU d) ?_;rintro _ _ ⟨_,⟨bs,rfl,rfl⟩,rfl⟩;refine A4<|AP<|Zb [2,6,102] ?_;refine Iy (H0:=_) (R:=_) (I:=(fun(pre:List ByteArray) H=>∃d2:CZ,JI d d2 pre/\H=[[(d.cp,.cells d2.A20 120 (0,0))],d2.sW,d2.z.S,[(d2.mb,.map d2.esP d2.ckP)],d2.su,[(d2.ip,.cells #[.map (some d2.mq),d2.lv] 186 (0,0))],[(d2.mq,.map d2.esQ d2.ckQ)],d2.ML,[(d2.mi,.map d2.esI d2.ckI)],[(d2.mkb,.map d2.esK d2.ckK)],d2.SI,d2.M,d2.MR,[(bc,.cells #[.pointer (some ⟨d.cp,0,none⟩)] 37 (0,0))]])) (E:=fun x e Hn=>e=[(11,.string x),(103,.string x)]/\Hn=[]) rfl Y call115 (bW g.okb bs) (fun pre H1 c9 d9 h9=>by obtain ⟨d2,G,rfl⟩:=h9;exact ⟨d2,G.okb,G.like.cp,G.mi,G.like.pos,G.its,by rw [G.like.cp];simp,by simp,fun q hq=>by simp [hq]⟩) Y rfl Wp (⟨d,Ri g.okb,rfl⟩) ?ha_16 ?hbd_16 ?hk_16
 case ha_16=>
  intro _ x _ _;refine Zg<|AG Y<|Li (e:=[(11,_),(103,_)]) (Hn:=[]) ?_;exact ⟨V,V⟩
 case hbd_16=>
  intro l pre x u e9 zm H1 R1 r9 wz hI pg;obtain ⟨rfl,rfl⟩:=pg;obtain ⟨d2,G,rfl⟩:=hI;obtain ⟨x2,wo,rfl⟩:=bV G g.okb wz;rw [<-G.like.cp];refine AP<|Zg<|Zl IH Y ?_;refine Zm Y<|Zc [_,_] Y call26 Y V (XO G.okb wo) ?_;rintro _ _ ⟨_,⟨rfl,d3,qb,j5,qj,ql,_,qo,qw,qx,rfl⟩,rfl⟩;rw [j5.cp];refine Z0<|A8<|Ez V (by exact ⟨d3,Rh G qb j5 qj ql qo qw qx,V⟩)
 intro D1 ys H2 qz pq;obtain ⟨d2,G,rfl⟩:=pq;rw [<-G.like.cp];refine Zn [6] ?_;refine A8<|Zx<|A0<|Zl KB Y ?_;refine Zc [_] Y call58 Y V (Rm hT A1) ?_;rintro _ _ ⟨_,⟨zs,s3,rfl,sw,vw,vo,rfl⟩,rfl⟩;refine A4<|A0<|Zl KB Y ?_;refine Za Y<|A3 Y<|AJ<|GI V (pF results16 Y Y) Wo (by exact ⟨d2,q2,cap2,zs,tv,s3,s0++s2,V,uU h hR hp gy g (fun q hq=>G1 _ (G1 _ hq)) p8 G qz sw vw,G.M.1.trans (g.M.trans (CA _ _ _).symm),vo,V⟩)
theorem rX:GQ [] 0 #[] 0 [] (.pointer none) [] #[] 0 [] #[] 0 [] []:=⟨lg,.inl ⟨rfl,rfl⟩,ER _,fun p=>by simp,ER _,fun p=>by simp,kh,fun x g=>by simp at g,by decide,by decide,fun x g=>by simp at g,fun x g=>by simp at g⟩
theorem tu(h:d.okb)(hi:d.its=[])(pos:Int)(m:0<=pos/\pos<=10000):({d with pos:=pos,wq:=none,wc:=0,win:=[],sW:=[]}:CZ).ok:=
 ⟨⟨m,Bf 2 _,C0 _,fun i r B=>by simp at B,h.pool,h.pk,h.its,h.tns⟩,fun x G=>by have g:x∈d.its:=G;rw [hi]at g;simp at g⟩
theorem CZ.okb.noPL(h:c.okb)(hi:c.its=[]):c.PL=[]:=by
 cases hP:c.PL with
 |nil=>rfl
 |cons e l=>
  have g:=(h.pk e.key).1 (by rw [hP];simp);rw [hi]at g;simp at g
theorem nD{v:Value}{sh:List Int}{K:List A9}(U:Row 3 v (sh.map (Value.int .i64)) K)(pos cap:Int)(O:0<=pos/\pos<=10000)(hc:1<=cap/\cap<=1000000)(X:1<=sh.length/\sh.length<=8)(h0:∀x∈sh,0<=x)(I:sh.sum<=cap):Ba prog 13 #[I4 pos,I4 cap,v] [K] (fun r H'=>∃c:CZ,r= .tuple #[.pointer (some ⟨c.cp,0,none⟩),I4 0]/\c.ok/\(c.its=[]/\c.PL=[]/\c.win=[])/\c.pos=pos/\c.next=0/\c.ns=sh.length/\c.z.cap=cap/\H'=[[(c.cp,.cells c.A20 120 (0,0))],c.sW,c.z.S,[(c.mb,.map c.esP c.ckP)],c.su,[(c.ip,.cells #[.map (some c.mq),c.lv] 186 (0,0))],[(c.mq,.map c.esQ c.ckQ)],c.ML,[(c.mi,.map c.esI c.ckI)],[(c.mkb,.map c.esK c.ckK)],c.SI,c.M,c.MR,K]):=by
 refine Se func13 ntmps13 [0,1,2] ?_;intro u R;refine A0<|Za Y<|A3 Y<|Zq<|A0<|Zm Y<|Xr [_] Y call41 Y V (JE pos) ?_;rw [DA O];refine Zv (Br Y)<|A4<|AV Y (fun m=>by cases m)<|fun m=>AC<|Zx<|A0<|Zm Y<|Zm Y<|Zc [_,_] Y call42 Y V (ku U cap hc X h0 I) ?_;rintro _ _ ⟨_,⟨z,mb,su,rfl,G,g,rfl⟩,rfl⟩;refine Zm Y<|Zd Y V<|Zd Y V<|Za Y<|AG Y<|Zn [0,8,9] ?_;refine Zx<|Zq<|A0<|Zm Y<|Zv (FR (n:=0) Y Y)<|A4<|Av Y (fun B=>?_) (fun B=>?_)
 ·
  exfalso;exact B rfl
 refine AC<|Zx<|Zq<|BV<|BV<|BV<|BV<|BV<|Zg<|Zm Y<|Zm Y<|Zc [] Y call43 Y V (jO) ?_;rintro _ _ ⟨_,⟨ip,mq,rfl,rfl⟩,rfl⟩;refine Ze (DR)<|AD fun mi=>Ze (DR)<|AD fun mkb=>Zv (BK (vs:=[(0,_),(2,_),(3,_),(4,_),(5,_)]) (cs:=#[_,_,_,_,_,_,_]) Y (AY (pl:=#[(0,1),(1,1),(2,1),(3,1),(4,1),(5,1),(6,1)]) zeroValue120 Ek (fun _=>by kernel_rfl) V))<|Ze (Bx #[_,_,_,_,_,_,_])<|AD fun cp=>Za Y<|A3 Y<|AJ<|Cu V results13 Y Y (by refine ⟨({cp:=cp,pos:=pos,wq:=none,wc:=0,win:=[],sW:=[],z:=z,ns:=sh.length,PL:=[],mb:=mb,esP:=#[],ckP:=0,lmP:=[],su:=su,ip:=ip,mq:=mq,mi:=mi,mkb:=mkb,next:=0,its:=[],esQ:=#[],ckQ:=0,lmQ:=[],lv:= .pointer none,ML:=[],esI:=#[],ckI:=0,lmI:=[],esK:=#[],ckK:=0,lmK:=[],SI:=[],M:=[],MR:=[]}:CZ),V,⟨⟨O,Bf 2 _,by simp,fun i r Z=>by simp at Z,g,fun k=>by simp,rX,fun x J=>by simp at J⟩,fun x J=>by simp at J⟩,⟨V,V,V⟩,V,V,V,G,V⟩)
theorem uA(pos:Int)(cap:Int)(v:Value)(m:¬(0<=pos/\pos<=10000)):BJ prog 13 #[I4 pos,I4 cap,v] [] (.tuple #[.pointer none,I4 180]):=by
 refine Se func13 ntmps13 [0,1,2] ?_;intro u R;refine A0<|Za Y<|A3 Y<|Zq<|A0<|Zm Y<|Xr [_] Y call41 Y V (JE pos) ?_;rw [CI m];refine Zv (Br Y)<|A4<|AV Y (fun g=>?_) (fun g=>?_)
 ·
  refine A0<|Za Y<|A3 Y<|AJ<|Zt<|Cu V results13 Y Y (by exact ⟨V,V⟩)
 cases g
theorem dE(h:c.ok)(pos:Int)(hp:0<=pos/\pos<=10000):Ba prog 28 #[.pointer (some ⟨c.cp,0,none⟩),I4 pos] [[(c.cp,.cells c.A20 120 (0,0))],c.sW,c.z.S,[(c.mb,.map c.esP c.ckP)],c.su,[(c.ip,.cells #[.map (some c.mq),c.lv] 186 (0,0))],[(c.mq,.map c.esQ c.ckQ)],c.ML,[(c.mi,.map c.esI c.ckI)],[(c.mkb,.map c.esK c.ckK)],c.SI,c.M,c.MR] (fun v H'=>v=undef/\∃d:CZ,d.ok/\d.cp=c.cp/\(d.its=[]/\d.PL=[]/\d.win=[])/\d.pos=pos/\d.next=c.next/\d.ns=c.ns/\d.z.cap=c.z.cap/\H'=[[(d.cp,.cells d.A20 120 (0,0))],d.sW,d.z.S,[(d.mb,.map d.esP d.ckP)],d.su,[(d.ip,.cells #[.map (some d.mq),d.lv] 186 (0,0))],[(d.mq,.map d.esQ d.ckQ)],d.ML,[(d.mi,.map d.esI d.ckI)],[(d.mkb,.map d.esK d.ckK)],d.SI,d.M,d.MR]):=by
 refine Se func28 ntmps28 [0,1] ?_;intro u R;refine Zq<|A0<|Zm Y<|Zv (Be Pr Y Y)<|Zm Y<|Af (t:=8) Y V (fun g1=>by cases g1)<|fun g1=>Zf Y Y<|Xr [_] Y call41 Y V (JE pos) ?_;rw [DA hp];refine Yg (Br Y)<|Zv (AL Y Y)<|A4<|AV Y (fun K=>by cases K)<|fun K=>AC<|Zx<|Zq<|A0<|Zm Y<|Zc [_] Y call19 Y V (Nu h.tookb) ?_;rintro _ _ ⟨_,⟨zs,sk,B,gy,J,rfl⟩,rfl⟩;have gm:zs.Nodup:=B.nodup_iff.2 h.its.keys
 have ek:=B.length_eq;rw [B2]at ek;have gq:=h.its.len
 obtain ⟨pk,ck,rfl⟩:=J.form;simp only [B2];rw [B2]at J;refine Zv (Ab CN Y)<|Zm Y<|A4<|AP<|Zb [16,0,1,14,15] ?_;refine BB (e0:=[(16,_)]) (fun m e H=>∃(i:Nat) (d:CZ),m=zs.length -i/\(i<=zs.length/\JI c d (zs.take i))/\e=[(16,I4 (i:Int))]/\H=[[(c.cp,.cells d.A20 120 (0,0))],d.sW,d.z.S,[(d.mb,.map d.esP d.ckP)],d.su,[(d.ip,.cells #[.map (some d.mq),d.lv] 186 (0,0))],[(d.mq,.map d.esQ d.ckQ)],d.ML,[(d.mi,.map d.esI d.ckI)],[(d.mkb,.map d.esK d.ckK)],d.SI,d.M,d.MR]) (by exact ⟨0,c,rfl,⟨C0 _,by rw [HX];exact Ri h.tookb⟩,rfl,rfl⟩) Wp ?_;rintro _ _ _ ⟨i,d,rfl,⟨hi,g⟩,rfl,rfl⟩;refine A0<|Zv (Au Y Y)<|A4<|Zq<|Av Y (fun I=>?_) (fun I=>?_)
 ·
  obtain ⟨k,U⟩:∃k,zs[i]?=some k:=⟨_,B4 A1⟩;obtain ⟨x,hx,rfl⟩:=Bk.1 (B.mem_iff.1 (DG U));have d9:x∈d.its:=(g.its x).2 ⟨hx,Rc gm U⟩
  rcases J with⟨_,h0,_⟩|⟨gk,capk,curk,zk,hvk,rfl,hlek,hcmk,hcsk,htkk,hfrk⟩
  · simp at h0;subst h0;simp at I
  injection hvk with hv1 hv2 hv3
  subst hv1 hv3;have X:curk[i]?=some (.string x.key):=by
   have h:=congrArg (fun l=>l[i]?) htkk;simp only [H3,B2,AK I,DH,U]at h;simpa using h
  refine AC<|Zx<|Zq<|AP<|A0<|BX (BS CN F0 Y Y de)<|Zl HC Y (hv:=by exact X) ?_;refine AG Y<|Zx ?_;rw [<-g.like.cp];refine Zg<|Zm Y<|Zm Y<|Zc [_,_] Y call26 Y V (XO g.okb d9) ?_;rintro _ _ ⟨_,⟨rfl,d3,Z,O,af,ax,_,bn,cu,cO,rfl⟩,rfl⟩;rw [O.cp,g.like.cp];refine Z0<|A8<|Zx<|Zg<|Ya (n:=1) Y Y<|Zm Y<|Z0<|Zn [16,0,1,14,15] ?_;refine Aa (e':=[(16,_)]) (by exact ⟨i+1,d3,rfl,⟨by omega,by rw [Bh U];exact Rh g Z O af ax bn cu cO⟩,rfl,rfl⟩)
 obtain rfl:i=zs.length:=by omega
 rw [FF]at g;have G:d.its=[]:=pA.2 fun y hy=>by
  obtain ⟨h1,h2⟩:=(g.its y).1 hy;exact h2 (B.mem_iff.2 (DM h1))
 refine Ay<|Zt<|Zt<|AR<|Zx ?_;rw [<-g.like.cp];refine BV<|Zg<|Zm Y<|Zm Y<|Zm Y<|Zp Y V<|Zh 0 Ek V rfl A5 Y<|Xe (Zs A5 Y Y V (hi:=by(simp;done))) ?_;refine Zp Y V<|Zh 1 Ek V rfl S5 Y<|Xe (Zs S5 Y Y V (hi:=by(simp;done))) ?_;refine Z0<|Cv V results28 (by exact ⟨V,({d with pos:=pos,wq:=none,wc:=0,win:=[],sW:=[]}:CZ),tu g.okb G pos hp,V,⟨G,g.okb.noPL G,V⟩,V,g.next,g.like.ns,g.like.cap,V⟩)
theorem aX(h:c.okb)(G:Ck ME (.slice qa cs.length cap) cs)(K:EG p cs)(hp:p≠c.pos+1):BJ prog 16 #[.pointer (some ⟨c.cp,0,none⟩),.agg #[I4 p,.slice qa cs.length cap]] [[(c.cp,.cells c.A20 120 (0,0))],ME] (.tuple #[.slice none 0 0,I4 180]):=by
 have U:=mL;obtain ⟨p9,B,I,X,O⟩:=id G;injection I with e91 e92 e93
 subst e91 e93;refine DK func16 V ntmps16 V ?_;intro u R;refine Zb [0,1] ?_;refine A0<|Ze (Bx #[_])<|AD fun Z=>Ze (Bx #[I4 p,.slice qa cs.length cap])<|AD fun b2=>Za Y<|A3 Y<|Zq<|AP<|A0<|Zl IH Y ?_;refine Zv (Be Pr Y Y)<|A3 Y<|AV Y (fun g=>by cases g)<|fun g=>Zq<|Az (n:=14) (0::1::3::7::15::31::15::79::207::463::975::2047::4095::8191::[]) 2 A6 A6 V<|E6 0 V Wh (AA (cs:=#[I4 p,.slice qa cs.length cap]) Hc F2 Y As (by exact BN V)) ?_;refine Yw 1 3 V (Zu [_] Y call51 Y V (Pf p qa cap cs ME G)) ?_;rintro _ _ ⟨rfl,rfl⟩;rw [DA K];refine A2 2 V (Br Y)<|A2 3 V (AQ Y)<|Cf (t:=19) Y (fun m=>?_) (fun m=>?_)
 ·
  rw [m];cases m
 rw [m];refine An 4 V (AB (off:=0) GF V rfl A5 Y)<|DQ 5 V Wh (BO AE Y AM) ?_;refine DQ 6 V Wh (BO IH Y AM) ?_;refine An 7 V (Ap Y V)<|An 8 V (AB (off:=0) Ek V rfl A5 Y)<|DQ 9 V Wh (BO AE Y AM) ?_
 (refine An 10 rfl (H6 Y Y (IntWalk.i64_in _ ?_)) ?_;(focus (have:=h.pos;omega)))
 refine An 11 V (Kw Y Y)<|A2 12 V (AL Y Y)<|A2 13 V (Aw Y)<|Ai<|Zn [2,3,15] ?_;refine Zx<|Av Y (fun J=>?_) (fun J=>?_)
 ·
  refine A0<|Za Y<|A3 Y<|AJ<|Ac<|Zt<|Ol V (pF results16 Y Y) (by exact ⟨V,V⟩)
 exfalso;omega
theorem EY{H H1:Hp}{Q m:Value->Hp->Prop}(h:Ba P f args H Q)(R:List A9)(K:H1.flatten.Perm (H.flatten++R))(O:∀v H',Q v H'->∃g,m v g/\g.flatten.Perm (H'.flatten++R)):Ba P f args H1 m:=fun u B w U=>by
 have G:Sat u (H++([R]++B)) w:=U.perm (by
  simp only [GP,C4,FA,Cp];rw [<-CA];exact K.append_right _)
 refine (h u ([R]++B) w G).mono ?_;rintro e X (⟨v,H',rfl,h2,h3⟩|⟨_,_,_,h,_⟩)
 · obtain ⟨g,I,J⟩:=O v H' h2
   refine .inl ⟨v,g,V,I,h3.perm ?_⟩;simp only [GP,C4,FA,Cp];rw [<-CA];exact J.symm.append_right _
 · exact h.elim
theorem Kl{H H1:Hp}{r:Value}(h:BJ P f args H r)(R:List A9)(g:H1.flatten.Perm (H.flatten++R)):BJ P f args H1 r:=EY h R g (by
 rintro v H' ⟨rfl,rfl⟩;exact ⟨_,⟨V,V⟩,g⟩)
def CZ.mem(c:CZ):List A9:=([(c.cp,.cells c.A20 120 (0,0))]:List A9)++((c.sW:List A9)++((c.z.S:List A9)++(([(c.mb,.map c.esP c.ckP)]:List A9)++((c.su:List A9)++(([(c.ip,.cells #[.map (some c.mq),c.lv] 186 (0,0))]:List A9)++(([(c.mq,.map c.esQ c.ckQ)]:List A9)++((c.ML:List A9)++(([(c.mi,.map c.esI c.ckI)]:List A9)++(([(c.mkb,.map c.esK c.ckK)]:List A9)++((c.SI:List A9)++((c.M:List A9)++((c.MR:List A9)))))))))))))
theorem Wl(h:c.okb){B:Int}(J:∀e∈c.PL,e.sz<=B):c.z.cap -(c.its.length:Int)*B<=c.z.fr:=by
 have I:∀L:List Bt,(∀e∈L,e.sz<=B)->L8 L<=(L.length:Int)*B:=fun L=>by
  induction L with
  |nil=>intro _;simp [L8]
  |cons e l ih=>
   intro G;have h2:=ih fun x K=>G x (E3 _ K)
   have g:=G e (Dd ..);have m:L8 (e::l)=e.sz+L8 l:=by unfold L8;rw [DO,gh]
   rw [m,DE];push_cast;rw [Int.add_mul];omega
 have h2:(c.PL.map (·.key)).Perm (c.its.map ItM.key):=(NX h.pool.keys h.its.keys).2 h.pk;have g:=h2.length_eq
 rw [B2,B2]at g;have m:=I c.PL J
 rw [g]at m;have O:=h.pool.free
 omega
def ox(c d:CZ)(q:QM)(tn base:Int)(L:List RP)(R:CF×Int×Bool)(b:Bool):Prop:=
 (b=false/\d=c/\¬((c.pos -base).toNat<=c.win.length/\R.2.2=true))\/
 (b=true/\((c.pos -base).toNat<=c.win.length/\R.2.2=true)/\(∀e∈d.PL,e∈c.PL\/e.sz=1+(R.1.rows.length:Int))/\
   ((d=c/\∃x∈c.its,x.key=str (Cr q)/\base<=x.base)\/
    ((∀x∈c.its,x.key=str (Cr q)->x.base<base)/\∃y:ItM,d.its=(c.its.filter fun x=>x.key≠str (Cr q))++[y]/\y.q=q/\y.base=base/\y.L=L/\y.res=R.1/\y.since=R.2.1/\((y.tn=tn/\∀x∈c.its,x.key≠str (Cr q))\/∃x∈c.its,x.key=str (Cr q)/\y.tn=x.tn))))
theorem sE(c:CZ):BJ prog 29 #[.pointer (some ⟨c.cp,0,none⟩)] [c.mem] (I4 c.pos):=Kl (mr c) ((c.sW:List A9)++(c.z.S:List A9)++([(c.mb,.map c.esP c.ckP)]:List A9)++(c.su:List A9)++([(c.ip,.cells #[.map (some c.mq),c.lv] 186 (0,0))]:List A9)++([(c.mq,.map c.esQ c.ckQ)]:List A9)++(c.ML:List A9)++([(c.mi,.map c.esI c.ckI)]:List A9)++([(c.mkb,.map c.esK c.ckK)]:List A9)++(c.SI:List A9)++(c.M:List A9)++(c.MR:List A9)++[]) (CB fun f g=>by simp only [C4,FA,Cp,CZ.mem,CZ.A20,g]<;>omega)
variable{k:Nat}
theorem pt(h:c.okb)(m:k<c.ns):BJ prog 30 #[.pointer (some ⟨c.cp,0,none⟩),I4 (k:Int)] [c.mem] (I4 (FU c.PL (k:Int))):=Kl (fe h m) ((c.sW:List A9)++([(c.ip,.cells #[.map (some c.mq),c.lv] 186 (0,0))]:List A9)++([(c.mq,.map c.esQ c.ckQ)]:List A9)++(c.ML:List A9)++([(c.mi,.map c.esI c.ckI)]:List A9)++([(c.mkb,.map c.esK c.ckK)]:List A9)++(c.SI:List A9)++(c.M:List A9)++(c.MR:List A9)++[]) (CB fun f g=>by simp only [C4,FA,Cp,CZ.mem,CZ.A20,g]<;>omega)
theorem lN(h:c.ok)(B:x∈c.its)(g:c.pos<x.base):BJ prog 17 #[.pointer (some ⟨c.cp,0,none⟩),.string x.key] [c.mem] (.tuple #[.agg #[I4 0,I4 0,I4 0,I4 0,I4 0,I4 0,I4 0,.slice none 0 0,I4 0,.bool false,I4 0,I4 0,I4 0,.slice none 0 0,.slice none 0 0],.bool false]):=Kl (sP h B g) ((c.sW:List A9)++(c.z.S:List A9)++([(c.mb,.map c.esP c.ckP)]:List A9)++(c.su:List A9)++([(c.ip,.cells #[.map (some c.mq),c.lv] 186 (0,0))]:List A9)++([(c.mq,.map c.esQ c.ckQ)]:List A9)++(c.ML:List A9)++([(c.mkb,.map c.esK c.ckK)]:List A9)++(c.MR:List A9)++[]) (CB fun f m=>by simp only [C4,FA,Cp,CZ.mem,CZ.A20,m]<;>omega)
theorem lQ(h:c.ok)(I:x∈c.its):Ba prog 21 #[.pointer (some ⟨c.cp,0,none⟩),.string x.key] [c.mem] (fun r H'=>∃m g s,r= .tuple #[.agg #[I4 x.q.kd,I4 x.q.tb,I4 x.q.cl,I4 x.q.lo,I4 x.q.hi,I4 x.q.bq,I4 x.q.ot,I4 x.tn,I4 x.base,.slice m x.L.length g],.bool true]/\Fj s (.slice m x.L.length g) x.L/\H'=[c.mem,s]):=EY (Tt h I) ((c.sW:List A9)++(c.z.S:List A9)++([(c.mb,.map c.esP c.ckP)]:List A9)++(c.su:List A9)++([(c.ip,.cells #[.map (some c.mq),c.lv] 186 (0,0))]:List A9)++([(c.mq,.map c.esQ c.ckQ)]:List A9)++(c.ML:List A9)++([(c.mkb,.map c.esK c.ckK)]:List A9)++(c.MR:List A9)++[]) (CB fun f B=>by simp only [C4,FA,Cp,CZ.mem,CZ.A20,B]<;>omega) (by
 rintro r H' ⟨m,g,s,G,h2,rfl⟩;exact ⟨_,⟨m,g,s,G,h2,V⟩,CB fun f B=>by simp only [C4,FA,Cp,CZ.mem,CZ.A20,B]<;>omega⟩)
theorem XA(h:c.ok)(J:x∈c.its)(I:x.base<=c.pos):Ba prog 17 #[.pointer (some ⟨c.cp,0,none⟩),.string x.key] [c.mem] (fun r H'=>∃(z:Xp) (l:List BU) (s:List A9),z.a=⟨x.q,x.res,x.since,c.pos,x.base,x.L,l⟩/\l.map BU.pc=(DC c.pos x.base c.win).map BU.pc/\z.ok s/\r= .tuple #[.agg z.A18,.bool true]/\H'=[c.mem,s]):=EY (zF h J I) ((c.z.S:List A9)++([(c.mb,.map c.esP c.ckP)]:List A9)++(c.su:List A9)++([(c.ip,.cells #[.map (some c.mq),c.lv] 186 (0,0))]:List A9)++([(c.mq,.map c.esQ c.ckQ)]:List A9)++(c.ML:List A9)++([(c.mkb,.map c.esK c.ckK)]:List A9)++(c.MR:List A9)++[]) (CB fun f g=>by simp only [C4,FA,Cp,CZ.mem,CZ.A20,g]<;>omega) (by
 rintro r H' ⟨z,l,s,m,h2,B,G,rfl⟩;exact ⟨_,⟨z,l,s,m,h2,B,G,V⟩,CB fun f g=>by simp only [C4,FA,Cp,CZ.mem,CZ.A20,g]<;>omega⟩)
theorem y8(h:c.okb):Ba prog 19 #[.pointer (some ⟨c.cp,0,none⟩)] [c.mem] (fun r H'=>∃(zs:List ByteArray) (s:List A9),zs.Perm (c.its.map ItM.key)/\(zs.Pairwise fun x y=>x.data.toList<=y.data.toList)/\Row 9 r (zs.map Value.string) s/\H'=[c.mem,s]):=EY (Nu h) ((c.sW:List A9)++(c.z.S:List A9)++([(c.mb,.map c.esP c.ckP)]:List A9)++(c.su:List A9)++([(c.ip,.cells #[.map (some c.mq),c.lv] 186 (0,0))]:List A9)++([(c.mq,.map c.esQ c.ckQ)]:List A9)++(c.ML:List A9)++([(c.mkb,.map c.esK c.ckK)]:List A9)++(c.SI:List A9)++(c.M:List A9)++(c.MR:List A9)++[]) (CB fun f g=>by simp only [C4,FA,Cp,CZ.mem,CZ.A20,g]<;>omega) (by
 rintro r H' ⟨zs,s,m,h2,B,rfl⟩;exact ⟨_,⟨zs,s,m,h2,B,V⟩,CB fun f g=>by simp only [C4,FA,Cp,CZ.mem,CZ.A20,g]<;>omega⟩)
theorem yu(h:c.ok)(pos:Int)(U:0<=pos/\pos<=10000):Ba prog 28 #[.pointer (some ⟨c.cp,0,none⟩),I4 pos] [c.mem] (fun r H'=>r=undef/\∃d:CZ,d.ok/\d.cp=c.cp/\(d.its=[]/\d.PL=[]/\d.win=[])/\d.pos=pos/\d.next=c.next/\d.ns=c.ns/\d.z.cap=c.z.cap/\H'=[d.mem]):=EY (dE h pos U) [] (CB fun f g=>by simp only [C4,FA,Cp,CZ.mem,CZ.A20,g]<;>omega) (by
 rintro r H' ⟨m,d,h2,B,G,I,J,K,O,rfl⟩;exact ⟨_,⟨m,d,h2,B,G,I,J,K,O,V⟩,CB fun f g=>by simp only [C4,FA,Cp,CZ.mem,CZ.A20,g]<;>omega⟩)
theorem oE{v:Value}{sh:List Int}{m:List A9}(U:Row 3 v (sh.map (Value.int .i64)) m)(pos cap:Int)(hp:0<=pos/\pos<=10000)(hc:1<=cap/\cap<=1000000)(Z:1<=sh.length/\sh.length<=8)(h0:∀x∈sh,0<=x)(g:sh.sum<=cap):Ba prog 13 #[I4 pos,I4 cap,v] [m] (fun r H'=>∃c:CZ,r= .tuple #[.pointer (some ⟨c.cp,0,none⟩),I4 0]/\c.ok/\(c.its=[]/\c.PL=[]/\c.win=[])/\c.pos=pos/\c.next=0/\c.ns=sh.length/\c.z.cap=cap/\H'=[c.mem,m]):=EY (nD U pos cap hp hc Z h0 g) [] (B0) (by
 rintro r H' ⟨c,B,h2,G,I,J,K,O,rfl⟩;exact ⟨_,⟨c,B,h2,G,I,J,K,O,V⟩,CB fun f X=>by simp only [C4,FA,Cp,CZ.mem,CZ.A20,X]<;>omega⟩)
theorem yx(h:c.ok)(G:Ck ME (.slice qa cs.length cap) cs)(I:EG p cs)(J:p=c.pos+1):Ba prog 16 #[.pointer (some ⟨c.cp,0,none⟩),.agg #[I4 p,.slice qa cs.length cap]] [c.mem,ME] (fun r H'=>∃(d:CZ) (q2:Option Addr) (cap2:Nat) (zs:List ByteArray) (tv:Value) (s:List A9),r= .tuple #[tv,I4 0]/\J2 c d p cs q2 cap2 zs/\Row 9 tv (zs.map Value.string) s/\H'=[d.mem,ME,s]):=EY (aW h G I J) [] (CB fun f g=>by simp only [C4,FA,Cp,CZ.mem,CZ.A20,g]<;>omega) (by
 rintro r H' ⟨d,q2,cap2,zs,tv,s,K,m,h2,_,B,rfl⟩;exact ⟨_,⟨d,q2,cap2,zs,tv,s,m,h2,B,V⟩,CB fun f g=>by simp only [C4,FA,Cp,CZ.mem,CZ.A20,g]<;>omega⟩)
theorem ZA(h:c.okb)(g:Ck ME (.slice qa cs.length cap) cs)(m:EG p cs)(G:p≠c.pos+1):BJ prog 16 #[.pointer (some ⟨c.cp,0,none⟩),.agg #[I4 p,.slice qa cs.length cap]] [c.mem,ME] (.tuple #[.slice none 0 0,I4 180]):=Kl (aX h g m G) ((c.sW:List A9)++(c.z.S:List A9)++([(c.mb,.map c.esP c.ckP)]:List A9)++(c.su:List A9)++([(c.ip,.cells #[.map (some c.mq),c.lv] 186 (0,0))]:List A9)++([(c.mq,.map c.esQ c.ckQ)]:List A9)++(c.ML:List A9)++([(c.mi,.map c.esI c.ckI)]:List A9)++([(c.mkb,.map c.esK c.ckK)]:List A9)++(c.SI:List A9)++(c.M:List A9)++(c.MR:List A9)++[]) (CB fun f B=>by simp only [C4,FA,Cp,CZ.mem,CZ.A20,B]<;>omega)
theorem sC(h:c.ok)(hq:BI q)(hk:k<c.ns)(J:k<=1000000)(base:Int)(hb:0<=base/\base<=10000){pg:Option Addr}{cg:Nat}{L:List RP}(hL:Fj ME (.slice pg L.length cg) L)(I:L.length<=1000000)(B:∀x∈L,x.fits){r0:CF}(K:EX q L=some r0)(ax:c.next<1000000000)(af:c.its.length<500)(O:(c.pos -base).toNat<=c.win.length->1+((BC q r0 base (DC c.pos base c.win)).1.rows.length:Int)<=c.z.fr)(Tp:TypeId)(zp:Nat×Nat):Ba prog 14 #[.pointer (some ⟨c.cp,0,none⟩),.agg #[I4 q.kd,I4 q.tb,I4 q.cl,I4 q.lo,I4 q.hi,I4 q.bq,I4 q.ot,I4 (k:Int),I4 base,.slice pg L.length cg]] [c.mem,ME,[(1,.cells (Lib.pow10Tab.map fun z=>Value.int .u64 z).toArray Tp zp)]] (fun w H'=>∃(b:Bool) (d:CZ),w= .bool b/\d.ok/\c.like d/\(c.next<=d.next/\d.next<=c.next+1)/\ox c d q (k:Int) base L (BC q r0 base (DC c.pos base c.win)) b/\H'=[d.mem,ME,[(1,.cells (Lib.pow10Tab.map fun z=>Value.int .u64 z).toArray Tp zp)]]):=by
 have G:c.like c:=⟨rfl,rfl,rfl,rfl,rfl⟩;by_cases g:(c.pos -base).toNat<=c.win.length
 · cases hrun:(BC q r0 base (DC c.pos base c.win)).2.2 with
   |false=>
    refine EY (pU h hq hk J base hb hL I B K g hrun Tp zp) ((c.z.S:List A9)++([(c.mb,.map c.esP c.ckP)]:List A9)++(c.su:List A9)++([(c.ip,.cells #[.map (some c.mq),c.lv] 186 (0,0))]:List A9)++([(c.mq,.map c.esQ c.ckQ)]:List A9)++(c.ML:List A9)++([(c.mi,.map c.esI c.ckI)]:List A9)++([(c.mkb,.map c.esK c.ckK)]:List A9)++(c.SI:List A9)++(c.MR:List A9)++[]) (CB fun f m=>by simp only [C4,FA,Cp,CZ.mem,CZ.A20,m]<;>omega) ?_;rintro w H' ⟨rfl,rfl⟩;exact ⟨_,⟨false,c,rfl,h,G,⟨Xs _,by omega⟩,.inl ⟨rfl,rfl,fun h9=>by rw [hrun]at h9;exact absurd h9.2 AN⟩,rfl⟩,CB fun f m=>by simp only [C4,FA,Cp,CZ.mem,CZ.A20,m]<;>omega⟩
   |true=>
    by_cases hx:∃x∈c.its,x.key=str (Cr q)
    · obtain ⟨x,hx,U⟩:=hx
      have cu:∀y∈c.its,y.key=str (Cr q)->y=x:=fun y hy X=>G9 h.its.keys hy hx (X.trans U.symm);by_cases bn:base<=x.base
      · refine EY (pR h hq hk J base hb hL I B K g hrun hx U bn Tp zp) ((c.z.S:List A9)++([(c.mb,.map c.esP c.ckP)]:List A9)++(c.su:List A9)++([(c.ip,.cells #[.map (some c.mq),c.lv] 186 (0,0))]:List A9)++([(c.mq,.map c.esQ c.ckQ)]:List A9)++(c.ML:List A9)++([(c.mkb,.map c.esK c.ckK)]:List A9)++(c.MR:List A9)++[]) (CB fun f m=>by simp only [C4,FA,Cp,CZ.mem,CZ.A20,m]<;>omega) ?_
        rintro w H' ⟨rfl,rfl⟩;exact ⟨_,⟨true,c,V,h,G,⟨Xs _,by omega⟩,.inr ⟨V,⟨g,hrun⟩,fun e he=> .inl he,.inl ⟨V,x,hx,U,bn⟩⟩,V⟩,CB fun f m=>by simp only [C4,FA,Cp,CZ.mem,CZ.A20,m]<;>omega⟩
      · refine EY (kE h hq hk J base hb hL I B K g hrun ax hx U A1 (O g) Tp zp) [] (CB fun f m=>by simp only [C4,FA,Cp,CZ.mem,CZ.A20,m]<;>omega) ?_
        rintro w H' ⟨rfl,d,b,rq,wq,rc,wc,s,h1,h2,h3,_,h5,h6,rfl⟩;exact ⟨_,⟨true,d,rfl,h1,h2,⟨by omega,by omega⟩,.inr ⟨rfl,⟨g,hrun⟩,h6,.inr ⟨fun y hy X=>by rw [cu y hy X];omega,_,h5,rfl,rfl,rfl,rfl,rfl,.inr ⟨x,hx,U,rfl⟩⟩⟩,rfl⟩,CB fun f m=>by simp only [C4,FA,Cp,CZ.mem,CZ.A20,m]<;>omega⟩
    · have Z:∀y∈c.its,y.key≠str (Cr q):=fun y hy cO=>hx ⟨y,hy,cO⟩
      refine EY (pQ h hq hk J base hb hL I B K g hrun ax Z af (O g) Tp zp) [] (CB fun f m=>by simp only [C4,FA,Cp,CZ.mem,CZ.A20,m]<;>omega) ?_;rintro w H' ⟨rfl,d,b,rq,wq,rc,wc,s,h1,h2,h3,_,h5,h6,rfl⟩;exact ⟨_,⟨true,d,rfl,h1,h2,⟨by omega,by omega⟩,.inr ⟨rfl,⟨g,hrun⟩,h6,.inr ⟨fun y hy X=>absurd X (Z y hy),_,by rw [h5,aD Z],rfl,rfl,rfl,rfl,rfl,.inl ⟨rfl,Z⟩⟩⟩,rfl⟩,CB fun f m=>by simp only [C4,FA,Cp,CZ.mem,CZ.A20,m]<;>omega⟩
 · refine EY (vk h hq hk J base hb hL I B K g Tp zp) ((c.z.S:List A9)++([(c.mb,.map c.esP c.ckP)]:List A9)++(c.su:List A9)++([(c.ip,.cells #[.map (some c.mq),c.lv] 186 (0,0))]:List A9)++([(c.mq,.map c.esQ c.ckQ)]:List A9)++(c.ML:List A9)++([(c.mi,.map c.esI c.ckI)]:List A9)++([(c.mkb,.map c.esK c.ckK)]:List A9)++(c.SI:List A9)++(c.MR:List A9)++[]) (CB fun f m=>by simp only [C4,FA,Cp,CZ.mem,CZ.A20,m]<;>omega) ?_
   rintro w H' ⟨rfl,rfl⟩;exact ⟨_,⟨false,c,V,h,G,⟨Xs _,by omega⟩,.inl ⟨V,V,fun h9=>g h9.1⟩,V⟩,CB fun f m=>by simp only [C4,FA,Cp,CZ.mem,CZ.A20,m]<;>omega⟩
noncomputable instance(a b:Ik):Decidable (a=b):=Classical.propDecidable _
def Ik.ok(h:Ik):Prop:=(0<=h.p/\h.p<=10000)/\h.ch.length=32/\h.st.length=32
instance(h:Ik):Decidable h.ok:=inferInstanceAs(Decidable (_/\_))
def BU.key(r:BU):Int×List Chg:=(r.p,r.cs)
def ug(h:Ik)(r:BU)(st:Bs):Prop:=EG r.p r.cs/\h.ok/\st.length=32/\r.p=h.p+1
noncomputable instance(h:Ik)(r:BU)(st:Bs):Decidable (ug h r st):=Classical.propDecidable _
def ph(h:Ik)(r:BU)(st:Bs):Ik:=⟨r.p,zI h.ch (zH r.p r.cs),st⟩
noncomputable def xn(st:Bs):Ik->List BU->Option Ik
 |h,[]=>some h
 |h,r::l=>if ug h r st then xn st (ph h r st) l else none
def az(a:Ik)(l:List BU)(b:Ik):Prop:=a.ok/\b.ok/\xn b.st a l=some b
noncomputable instance(a:Ik)(l:List BU)(b:Ik):Decidable (az a l b):=Classical.propDecidable _
def bB.eqv(a b:bB):Prop:=a.q=b.q/\a.since=b.since/\a.until_=b.until_/\a.base=b.base/\a.res=b.res/\a.ranges=b.ranges/\a.recs.map BU.key=b.recs.map BU.key
instance(a b:bB):Decidable (a.eqv b):=inferInstanceAs(Decidable (_/\_))
def zR(base until_:Ik)(a:bB):Prop:=base.p=a.base/\until_.p=a.until_/\az base a.recs until_/\(∀x∈a.ranges,ov base.st x)/\∃b,Jm a.q a.base a.ranges a.recs=some b/\a.eqv b
noncomputable instance(base until_:Ik)(a:bB):Decidable (zR base until_ a):=Classical.propDecidable _
def RP.small(x:RP):Prop:=(∀s∈x.roots,s.length<=140737488354000)/\∀l∈x.paths,l.length<=1000000
def putE(n:Int):Int:=if n< -4611686018427387903 then 10 else 0
theorem OB{z:Int}(k:Int)(m:1<=k)(g:-9223372036854775808<=z)(h2:z<=9223372036854775807):-9223372036854775808<=z.tdiv k/\z.tdiv k<=9223372036854775807:=by
 have h:=Int.natAbs_tdiv_le_natAbs z k;rcases Int.lt_or_le z 0 with hz|hz
 · have:z.tdiv k<=0:=by
    obtain ⟨y,rfl⟩:∃y,z=-y:=⟨-z,by omega⟩;rw [Int.neg_tdiv];have:=Int.tdiv_nonneg (a:=y) (b:=k) A1 A1
    omega
   omega
 · have:=Int.tdiv_nonneg hz (show(0:Int)<=k by omega)
   omega
theorem Uj{kd tb cl lo hi bq ot:Int}(h:(0<=tb/\tb<=3)/\(0<=cl/\cl<=3)/\(-1000000000<=lo/\lo<=hi/\hi<=1000000000)/\
 ((kd=1/\cl=0/\lo=hi/\(1<=lo/\lo<=1000000)/\bq=0/\ot=0)\/((kd=2\/kd=3)/\bq=0/\ot=0)\/
  ((kd=4\/kd=5\/kd=6)/\(1<=bq/\bq<=3)/\ot=0)\/(kd=7/\(1<=bq/\bq<=3)/\(0<=ot/\ot<=3)))):BI ⟨kd,tb,cl,lo,hi,bq,ot⟩:=h
theorem pX(rs:List AU)(c:Chg):(EH rs c).length<=rs.length+1:=by
 unfold EH Na;simp only [B7,C2,C3];split<;>simp only [E0,It]<;>omega
theorem SQ:∀(cs:List Chg) (rs:List AU),(DL rs cs).length<=rs.length+cs.length
 |[],_=>CT _
 |c::cs,rs=>by
  have g:=SQ cs (EH rs c);have h2:=pX rs c
  rw [DE];exact N1 g A1
variable{l:List BU}
theorem F5.few(h:F5 l):∀i,i<=l.length->(Bd (l.take i)).length<=3*i
 |0,_=>by rw [HX];exact CT _
 |i+1,hi=>by
  obtain ⟨r,g⟩:∃r,l[i]?=some r:=⟨_,B4 A1⟩;rw [Bh g,Gc];have m:=SQ r.cs (Bd (l.take i))
  have h2:=F5.few h i A1;have B:=(h i r g).2
  omega
theorem rK{M:List A9}{q:Option Addr}(m:EW M (.slice q l.length cap) l)(g:F5 l)(I:l.length<=1000000)(k:Nat)(B:k<=l.length):Ba prog 49 #[.slice q l.length cap,I4 (k:Int)] [M] (fun r H'=>∃v s,r= .tuple #[v,I4 0]/\RA v (k:Int) (Bd (l.take k)) s/\H'=[s,M]):=by
 refine Gs (zw q cap l M m g I k B) V ?_;rintro r H' ⟨X,U,es,ck,lm,rfl,J,G,rfl⟩;obtain ⟨O,K⟩:=g.rows k B;exact ⟨_,⟨_,_,V,⟨X,U,es,ck,lm,V,J,G,O,K,V⟩,V⟩,by simp⟩
def Od(l:List BU)(a b:Nat):List BU:=(l.drop a).take (b -a)
theorem oP(h:F5 l)(B:l.length<=20)(g:k<=l.length)(q:QM):(CQ (Bd (l.take k)) q).length<=100:=by
 have m:=h.few k g;have h2:=(@SG (Bd (l.take k)) q.tb q.cl.toNat q.lo q.hi).1
 unfold CQ;omega
theorem lF(rs:List AU)(q:QM):(Ff rs q).length<=1+(CQ rs q).length:=by
 unfold Ff;split
 · rw [DE,B2];omega
 · simp
end Go.Proofs.YteaiajghbkenoaaGreatDoor
