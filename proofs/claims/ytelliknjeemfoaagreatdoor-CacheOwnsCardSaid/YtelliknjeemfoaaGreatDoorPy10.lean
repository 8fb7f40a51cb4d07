/- What Apply does to an entry. -/
import Derived.Test.YtelliknjeemfoaaGreatDoorCa7
set_option linter.unusedVariables false
set_option linter.unusedSimpArgs false
namespace Go.Proofs.YtelliknjeemfoaaGreatDoor
open Go.Proofs.Tryz
open Go Go.RowKit Gw
set_option maxRecDepth 100000
attribute [local irreducible] Gw.At Gw.Nx Gw.Ops
variable{s:List A8}
theorem Uj{b:Nat}{o o':Obj}(h:(b,o)∈s):(b,o')∈Fe b o' s:=CM.2 ⟨_,h,B0 rfl⟩
theorem je(b:Nat)(o o':Obj)(s:List A8):Fe b o' (Fe b o s)=Fe b o' s:=by
 unfold Fe;rw [Mz];refine W6 fun p _=>?_;show(if(if p.1=b then(b,o)else p).1=b then(b,o')else(if p.1=b then(b,o)else p))=if p.1=b then(b,o')else p
 by_cases h:p.1=b
 · simp only [B0 h,J1]
 · simp only [As h]
def ItM.upd(x:ItM)(p:Int)(cs:List Chg)(wq:B8)(wc:Nat):ItM:={x with res:=(Be x.q x.res cs).1,wq:=wq,wc:=wc,since:=p}
structure ItM.live(MR:List A8)(x:ItM):Prop where
 q:BG x.q
 rw:DV MR (.slice x.wq x.res.rows.length x.wc) x.res.rows
 wn:x.res.rows.length<=10000000
 wv:-2000000000000000000<=x.res.val/\x.res.val<=2000000000000000000
variable{c:CZ}{x:ItM}
theorem ItM.ok.live(h:c.okb)(hx:x.ok c.M c.MR c.pos c.win):x.live c.MR:=by
 obtain ⟨X,m,g⟩:=hx.run;obtain ⟨_,B,G⟩:=OB m;have U:=h.wl
 have O:(DZ c.pos x.base c.win).length<=64:=by unfold DZ;rw [D0];omega
 have I:=R6 _ 0 (X,x.base) _ 1000000000000000000 200 g (fun y hy=>by have:=RN h (r:=y) (MD hy);omega) G An B;have J:x.res.rows.length<=_:=I.2
 have K:_<=x.res.val/\x.res.val<=_:=I.1;exact ⟨hx.q,hx.rw,by omega,by omega,by omega⟩
variable{d:CZ}{qa:B8}{cap:Nat}{cs:List Chg}{ME st:List A8}{tl:List C4}{tv:A2}
set_option maxHeartbeats 1000000 in
theorem o5(h:d.okb)(hx:x∈d.its)(G:x.live d.MR)(p:Int)(hC:CE ME (.slice qa cs.length cap) cs)(X:cs.length<=1000)(I:(Be x.q x.res cs).2.2=true)(hT:Row 9 tv (tl.map Value.string) st)(gy:tl.length<=1000000)(bt br bc:Nat):BQ prog 48 #[.string x.key,.pointer (some ⟨x.b,0,none⟩),I1 bt,I1 br,I1 bc] [[(bt,.cells #[tv] 45 (0,0))],[(br,.cells #[I0 p,.slice qa cs.length cap] 26 (0,0))],[(bc,.cells #[.pointer (some ⟨d.cp,0,none⟩)] 36 (0,0))],st,[(d.cp,.cells d.A92 116 (0,0))],d.sW,d.z.S,[(d.mb,.map d.esP d.ckP)],d.su,[(d.ip,.cells #[.map (some d.mq),d.lv] 166 (0,0))],[(d.mq,.map d.esQ d.ckQ)],d.ML,[(d.mi,.map d.esI d.ckI)],[(d.mkb,.map d.esK d.ckK)],d.SI,d.M,d.MR,ME] (fun v H'=>v=undef/\∃wq wc af Z s,Row 9 af ((tl++[x.key]).map Value.string) Z/\DV s (.slice wq (Be x.q x.res cs).1.rows.length wc) (Be x.q x.res cs).1.rows/\(d.SI.map (·.1)).Nodup/\H'=[[(bt,.cells #[af] 45 (0,0))],[(br,.cells #[I0 p,.slice qa cs.length cap] 26 (0,0))],[(bc,.cells #[.pointer (some ⟨d.cp,0,none⟩)] 36 (0,0))],Z,[(d.cp,.cells d.A92 116 (0,0))],d.sW,d.z.S,[(d.mb,.map d.esP d.ckP)],d.su,[(d.ip,.cells #[.map (some d.mq),d.lv] 166 (0,0))],[(d.mq,.map d.esQ d.ckQ)],d.ML,[(d.mi,.map d.esI d.ckI)],[(d.mkb,.map d.esK d.ckK)],Fe x.b (x.upd p cs wq wc).obj d.SI,d.M,s++d.MR,ME]):=by
 have gq:=mL;have m:(x.b,Obj.cells x.A91 127 (0,0))∈d.SI:=h.its.sub x hx
 obtain ⟨gt,ct,rfl⟩:=hT.form;refine Se func48 ntmps48 [0,1,2,3,4] ?_;intro u R;refine Zq<|GU (s:=d.SI) Wo (fun cu=>?_);refine Zg<|Zl KK Y<|Zm Y<|Ze (Ah (vs:=[_]) (cs:=[_]) Dd HD Ks Y V rfl V rfl V)<|AF fun gb=>Ze (FO (by_:=16) (news:=[_]) Dd (V:Tryz.prog.info? 9=some Tryz.t9) V rfl V rfl Y hT Y Wo Wh B2 V HQ An (by(simp only [Bm];omega)) (by(simp only [Bm];omega))) ?_;rintro _ _ ⟨d9,J,rfl⟩;obtain ⟨gm,ek,rfl⟩:=J.form;refine Xe (Zs Hc Y Y V)<|A5<|Zq<|Aw (n:=19) (0::1::3::7::15::0::32::96::224::0::1023::2047::4095::4095::4095::0::40959::114687::262143::[]) 99328 AD AD V<|A1 0 V (AQ Y)<|A1 1 V (Aq Y V)<|A1 2 V (AB (off:=0) Ln V rfl G2 Y)<|A1 3 V (Ai (off:=0) G4 V rfl D4 Y)<|CS (D':=31) 4 V rfl V (Eg Wo (m)) (AA (cs:=#[_,_,_,_,_,_,_]) FG D4 Y B9 (by exact (by apply HW.1;rfl))) ?_;refine A1 5 V (AQ Y)<|A1 6 V (Aq Y V)<|A1 7 V (AB (off:=11) Ln V rfl C3 Y)<|CS (D':=511) 8 V rfl V (Eg Wo (m)) (AA (cs:=#[_,_,_]) E3 C3 Y B9 (by exact (by apply HW.1;rfl))) ?_;refine GB 9 V Wh (AA (cs:=#[_,_]) Hh Fi Y B9 (Au V))<|Zz (l:=[10,15])<|C0 [false,false,false] [] V rfl (Zw [_,_,_] Y call49 Y V (JF x.q G.q p qa cap cs hC X G.rw G.wn G.wv)) ?hk_1 Bz ?hl_1
 case' hk_1=>
  rintro _ _ ⟨_,⟨cO,s3,rfl,g,rfl⟩,rfl⟩;refine ⟨Ac,?_⟩;obtain ⟨K,B,rfl⟩:=g.form;rw [I];refine A1 11 V (AQ Y)<|A1 12 V (CV Y V)<|A1 13 V (CV Y V)<|A1 14 V (CV Y V)<|Zz (l:=[15])<|C0 [] [] V rfl (Al HP #[_,_,_]) ?hk_2 (fun _ _ h=>h.elim) ?hl_2
  case' hk_2=>
   rintro _ _ ⟨bn,rfl,rfl⟩;refine CA<|Yz 16 40959 131071 [] [] [] V Y V rfl V rfl (Xw C3 #[.slice K (Be x.q x.res cs).1.rows.length B,I0 (Be x.q x.res cs).1.val,.bool (Be x.q x.res cs).1.fnd]) ?_
  case' hl_2=>
   exact Am
 case' hl_1=>
  refine C0 [true,true,true] [(9,(_,_)),(8,(_,_)),(4,(_,_))] V rfl (Al HP #[_,_,_]) ?hk_7 (fun _ _ h=>h.elim) ?hl_7
  case' hk_7=>
   rintro _ _ ⟨bn,rfl,rfl⟩;refine ⟨Zk (Fs (by simp [*]) (Fs (by simp [*]) (Ac))),?_⟩;refine Zz (l:=[10])<|C0 [false,false,false] [] V rfl (Zw [_,_,_] Y call49 Y V (JF x.q G.q p qa cap cs hC X G.rw G.wn G.wv)) ?hk_8 Bz ?hl_8
   case' hk_8=>
    rintro _ _ ⟨_,⟨cO,s3,rfl,g,rfl⟩,rfl⟩;refine ⟨Ac,?_⟩;obtain ⟨K,B,rfl⟩:=g.form;rw [I];refine A1 11 V (AQ Y)<|A1 12 V (CV Y V)<|A1 13 V (CV Y V)<|A1 14 V (CV Y V)<|Zz (l:=[16])<|C0 [] [] V rfl (Xw C3 #[.slice K (Be x.q x.res cs).1.rows.length B,I0 (Be x.q x.res cs).1.val,.bool (Be x.q x.res cs).1.fnd]) ?hk_9 (fun _ _ h=>h.elim) ?hl_9
    case' hl_9=>
     exact Am
   case' hl_8=>
    exact Am
  case' hl_7=>
   exact Am
 all_goals
  rintro _ _ ⟨rfl,rfl⟩;refine CA<|A1 17 V (BI Y)<|A1 18 V (BI Y)<|Ao<|Zn [0,1,3,4,7,9] ?_;refine Zx<|B7 Y<|Zv (Bh Y)<|A5<|AY Y (fun O=>by cases O)<|fun O=>AC<|Zx ?_;have ax:=Pb g
  have U:(x.b,Obj.cells #[I0 x.q.kd,I0 x.q.tb,I0 x.q.cl,I0 x.q.lo,I0 x.q.hi,I0 x.q.bq,I0 x.q.ot,I0 x.tn,I0 x.base,.slice x.rq x.L.length x.rc,I0 x.id,.slice K (Be x.q x.res cs).1.rows.length B,I0 (Be x.q x.res cs).1.val,.bool (Be x.q x.res cs).1.fnd,I0 x.since] 127 (0,0))∈Fe x.b (.cells #[I0 x.q.kd,I0 x.q.tb,I0 x.q.cl,I0 x.q.lo,I0 x.q.hi,I0 x.q.bq,I0 x.q.ot,I0 x.tn,I0 x.base,.slice x.rq x.L.length x.rc,I0 x.id,.slice K (Be x.q x.res cs).1.rows.length B,I0 (Be x.q x.res cs).1.val,.bool (Be x.q x.res cs).1.fnd,I0 x.since] 127 (0,0)) d.SI:=Uj m;refine CK (s1:=s3) (s2:=d.MR) Wo Wo ?_;refine Aw (n:=11) (0::0::0::0::8::5::37::101::255::511::1023::[]) 1152 AD AD rfl<|A1 0 rfl (AQ Y)<|A1 1 rfl (AQ Y)<|GB 2 rfl Wh (AA (cs:=#[_,_,_]) E3 C3 Y B9 (Au rfl))<|A1 3 rfl (AB (off:=0) GF rfl rfl A6 Y)<|Bk 4 rfl AE Y<|A1 5 rfl (Aq Y rfl)<|A1 6 rfl (AB (off:=11) Ln rfl rfl C3 Y)<|Zz (l:=[7])<|C0 [true,false] [(4,(_,_))] rfl rfl (WN C3 Y Y HT Wo (m) (by exact congrArg (fun a=>Fe x.b (Obj.cells a 127 (0,0)) d.SI) (rfl:_=(#[I0 x.q.kd,I0 x.q.tb,I0 x.q.cl,I0 x.q.lo,I0 x.q.hi,I0 x.q.bq,I0 x.q.ot,I0 x.tn,I0 x.base,.slice x.rq x.L.length x.rc,I0 x.id,.slice K (Be x.q x.res cs).1.rows.length B,I0 (Be x.q x.res cs).1.val,.bool (Be x.q x.res cs).1.fnd,I0 x.since]:AM))) Fm B9 (by exact BA _)) ?_ (fun _ _ h=>h.elim) Am;rintro _ _ ⟨rfl,rfl⟩;refine CA<|A1 8 V (Aq Y V)<|A1 9 V (AB (off:=14) Ln V rfl A6 Y)<|Zz (l:=[10])<|C0 [false] [] V rfl (FM A6 Y Y V Wo (U) (by exact (je _ _ _ _).trans (congrArg (fun a=>Fe x.b (Obj.cells a 127 (0,0)) d.SI) (V:_=(#[I0 x.q.kd,I0 x.q.tb,I0 x.q.cl,I0 x.q.lo,I0 x.q.hi,I0 x.q.bq,I0 x.q.ot,I0 x.tn,I0 x.base,.slice x.rq x.L.length x.rc,I0 x.id,.slice K (Be x.q x.res cs).1.rows.length B,I0 (Be x.q x.res cs).1.val,.bool (Be x.q x.res cs).1.fnd,I0 p]:AM)))) B9 (by exact BA _)) ?_ (fun _ _ h=>h.elim) Am;rintro _ _ ⟨rfl,rfl⟩
  refine CA<|Ao<|D6 rfl results48 (by exact ⟨rfl,K,B,_,d9,s3,(by rw [CN];exact J),Db g ax,cu,rfl⟩)
set_option maxHeartbeats 1000000 in
theorem o6(h:d.okb)(hx:x∈d.its)(m:x.live d.MR)(p:Int)(hC:CE ME (.slice qa cs.length cap) cs)(K:cs.length<=1000)(B:(Be x.q x.res cs).2.2=false)(hT:Row 9 tv (tl.map Value.string) st)(kv:tl.length<=1000000)(X U O:Nat):BQ prog 48 #[.string x.key,.pointer (some ⟨x.b,0,none⟩),I1 X,I1 U,I1 O] [[(X,.cells #[tv] 45 (0,0))],[(U,.cells #[I0 p,.slice qa cs.length cap] 26 (0,0))],[(O,.cells #[.pointer (some ⟨d.cp,0,none⟩)] 36 (0,0))],st,[(d.cp,.cells d.A92 116 (0,0))],d.sW,d.z.S,[(d.mb,.map d.esP d.ckP)],d.su,[(d.ip,.cells #[.map (some d.mq),d.lv] 166 (0,0))],[(d.mq,.map d.esQ d.ckQ)],d.ML,[(d.mi,.map d.esI d.ckI)],[(d.mkb,.map d.esK d.ckK)],d.SI,d.M,d.MR,ME] (fun v H'=>v=undef/\∃(d2:CZ) (tv':A2) (st':List A8),d2.okb/\d.like d2/\d2.next=d.next/\(d2.M=d.M/\d2.MR=d.MR)/\d2.SI=d.SI/\d2.its=(d.its.filter fun y=>y.key≠x.key)/\(∀e∈d2.PL,e∈d.PL)/\Row 9 tv' ((tl++[x.key]).map Value.string) st'/\H'=[[(X,.cells #[tv'] 45 (0,0))],[(U,.cells #[I0 p,.slice qa cs.length cap] 26 (0,0))],[(O,.cells #[.pointer (some ⟨d.cp,0,none⟩)] 36 (0,0))],st',[(d2.cp,.cells d2.A92 116 (0,0))],d2.sW,d2.z.S,[(d2.mb,.map d2.esP d2.ckP)],d2.su,[(d2.ip,.cells #[.map (some d2.mq),d2.lv] 166 (0,0))],[(d2.mq,.map d2.esQ d2.ckQ)],d2.ML,[(d2.mi,.map d2.esI d2.ckI)],[(d2.mkb,.map d2.esK d2.ckK)],d2.SI,d2.M,d2.MR,ME]):=by
 have j5:=mL;have J:(x.b,Obj.cells x.A91 127 (0,0))∈d.SI:=h.its.sub x hx
 obtain ⟨gt,ct,rfl⟩:=hT.form;refine Se func48 ntmps48 [0,1,2,3,4] ?_;intro u R;refine A3<|Zl KK Y<|Zm Y<|Ze (Ah (vs:=[_]) (cs:=[_]) Dd HD Ks Y V rfl V rfl V)<|AF fun gb=>Ze (FO (by_:=16) (news:=[_]) Dd (V:Tryz.prog.info? 9=some Tryz.t9) V rfl V rfl Y hT Y Wo Wh B2 V HQ An (by(simp only [Bm];omega)) (by(simp only [Bm];omega))) ?_;rintro _ _ ⟨gy,G,rfl⟩;obtain ⟨j3,ic,rfl⟩:=G.form;refine Xe (Zs Hc Y Y V)<|A5<|Zq<|Aw (n:=19) (0::1::3::7::15::0::32::96::224::0::1023::2047::4095::4095::4095::0::40959::114687::262143::[]) 99328 AD AD V<|A1 0 V (AQ Y)<|A1 1 V (Aq Y V)<|A1 2 V (AB (off:=0) Ln V rfl G2 Y)<|A1 3 V (Ai (off:=0) G4 V rfl D4 Y)<|CS (D':=31) 4 V rfl V (Eg Wo (J)) (AA (cs:=#[_,_,_,_,_,_,_]) FG D4 Y B9 (by exact (by apply HW.1;rfl))) ?_;refine A1 5 V (AQ Y)<|A1 6 V (Aq Y V)<|A1 7 V (AB (off:=11) Ln V rfl C3 Y)<|CS (D':=511) 8 V rfl V (Eg Wo (J)) (AA (cs:=#[_,_,_]) E3 C3 Y B9 (by exact (by apply HW.1;rfl))) ?_;refine GB 9 V Wh (AA (cs:=#[_,_]) Hh Fi Y B9 (Au V))<|Zz (l:=[10,15])<|C0 [false,false,false] [] V rfl (Zw [_,_,_] Y call49 Y V (JF x.q m.q p qa cap cs hC K m.rw m.wn m.wv)) ?hk_1 Bz ?hl_1
 case' hk_1=>
  rintro _ _ ⟨_,⟨gq,s3,rfl,g,rfl⟩,rfl⟩;refine ⟨Ac,?_⟩;obtain ⟨w3,Z,rfl⟩:=g.form;rw [B];refine A1 11 V (AQ Y)<|A1 12 V (CV Y V)<|A1 13 V (CV Y V)<|A1 14 V (CV Y V)<|Zz (l:=[15])<|C0 [] [] V rfl (Al HP #[_,_,_]) ?hk_2 (fun _ _ h=>h.elim) ?hl_2
  case' hk_2=>
   rintro _ _ ⟨bn,rfl,rfl⟩;refine CA<|Yz 16 40959 131071 [] [] [] V Y V rfl V rfl (Xw C3 #[.slice w3 (Be x.q x.res cs).1.rows.length Z,I0 (Be x.q x.res cs).1.val,.bool (Be x.q x.res cs).1.fnd]) ?_
  case' hl_2=>
   exact Am
 case' hl_1=>
  refine C0 [true,true,true] [(9,(_,_)),(8,(_,_)),(4,(_,_))] V rfl (Al HP #[_,_,_]) ?hk_5 (fun _ _ h=>h.elim) ?hl_5
  case' hk_5=>
   rintro _ _ ⟨bn,rfl,rfl⟩;refine ⟨Zk (Fs (by simp [*]) (Fs (by simp [*]) (Ac))),?_⟩;refine Zz (l:=[10])<|C0 [false,false,false] [] V rfl (Zw [_,_,_] Y call49 Y V (JF x.q m.q p qa cap cs hC K m.rw m.wn m.wv)) ?hk_6 Bz ?hl_6
   case' hk_6=>
    rintro _ _ ⟨_,⟨gq,s3,rfl,g,rfl⟩,rfl⟩;refine ⟨Ac,?_⟩;obtain ⟨w3,Z,rfl⟩:=g.form;rw [B];refine A1 11 V (AQ Y)<|A1 12 V (CV Y V)<|A1 13 V (CV Y V)<|A1 14 V (CV Y V)<|Zz (l:=[16])<|C0 [] [] V rfl (Xw C3 #[.slice w3 (Be x.q x.res cs).1.rows.length Z,I0 (Be x.q x.res cs).1.val,.bool (Be x.q x.res cs).1.fnd]) ?hk_7 (fun _ _ h=>h.elim) ?hl_7
    case' hl_7=>
     exact Am
   case' hl_6=>
    exact Am
  case' hl_5=>
   exact Am
 all_goals
  rintro _ _ ⟨rfl,rfl⟩;refine CA<|A1 17 V (BI Y)<|A1 18 V (BI Y)<|Ao<|Zn [0,1,3,4,7,9] ?_;refine Zx<|B7 Y<|Zv (Bh Y)<|A5<|AY Y (fun I=>?_) (fun I=>?_);·
   refine A3<|Zl Lz Y<|Zm Y<|Zc [_,_] Y call20 Y V (gH h hx) ?_;rintro _ _ ⟨_,⟨rfl,d2,af,ax,cu,cO,d9,_,ek,gm,rfl⟩,rfl⟩;refine A5<|AJ<|Zt<|D6 rfl results48 (by exact ⟨rfl,d2,_,gy,af,ax,cu,cO,d9,ek,gm,(by rw [CN];exact G),rfl⟩)
  cases I
theorem aN{P:Program}{f:FuncId}{args:AM}{A B g:List A8}{Q:A2->List A8->Prop}(G:s.Perm (A++(B++g)))(h:BQ P f args [A,B] (fun r H'=>∃m,Q r m/\H'=[A,B,m])):BQ P f args [s] (fun r H'=>∃m,Q r m/\H'=[s,m]):=fun u R w J=>by
 have I:Sat u ([A,B]++([g]++R)) w:=J.perm (by
  simp only [S6,Mu,Cp];have:=G.append_right R.flatten
  simpa only [DG]using this)
 refine (h u ([g]++R) w I).mono ?_;rintro e K (⟨v,H',rfl,⟨m,hq,rfl⟩,hsat⟩|⟨_,_,_,h,_⟩)
 · refine .inl ⟨v,_,rfl,⟨m,hq,rfl⟩,hsat.perm ?_⟩
   simp only [S6,Mu,Cp];have e1:(A++(B++(m++(g++R.flatten)))).Perm ((A++(B++g))++(m++R.flatten)):=by
    simp only [DG];refine Sp A (Sp B ?_);rw [<-DG,<-DG];exact OS.append_right _
   exact e1.trans (G.symm.append_right _)
 · exact h.elim
theorem A19{a b:A8}(hn:(s.map (·.1)).Nodup)(J:a∈s)(K:b∈s)(m:a.1≠b.1):∃g,s.Perm ([a]++([b]++g)):=by
 obtain ⟨X,Y,rfl⟩:=cP J;have B:b∈X++Y:=by
  rcases CI.1 K with h|h
  · exact Fc _ h
  · rcases Dg.1 h with h|h
    · exact absurd (by rw [h]) m
    · exact HC _ h
 obtain ⟨G,I,h2⟩:=cP B;refine ⟨G++I,T5.trans (List.Perm.cons a ?_)⟩;rw [h2];exact T5
noncomputable def J4(c:CZ)(k:C4):Bool:=@decide (∃x∈c.its,x.key=k/\x.base<c.pos -64) (Classical.propDecidable _)
def w4(c:CZ)(pre:List C4)(s:List A8):Prop:=∃d:CZ,d.okb/\d.cp=c.cp/\d.mi=c.mi/\d.pos=c.pos/\(∀y,y∈d.its↔y∈c.its/\y.key∉pre)/\(d.cp,Obj.cells d.A92 116 (0,0))∈s/\(d.mi,Obj.map d.esI d.ckI)∈s/\∀q∈d.SI,q∈s
def ak(c:CZ)(p:List C4):Prop:=∃zs:List C4,zs.Perm (c.its.map ItM.key)/\∃post,zs.filter (J4 c)=p++post
def W9(c:CZ)(ys:List C4):Prop:=∃zs:List C4,zs.Perm (c.its.map ItM.key)/\ys=zs.filter (J4 c)
theorem PS(B:(c.its.map ItM.key).Nodup)(hx:x∈c.its):J4 c x.key=true↔x.base<c.pos -64:=by
 unfold J4;rw [@decide_eq_true_eq _ (Classical.propDecidable _)];constructor
 · rintro ⟨y,hy,m,g⟩
   rwa [Ga B hy hx m]at g
 · intro h;exact ⟨x,hx,rfl,h⟩
variable{α:Type}{i:Nat}
theorem ZZ{l:List α}{f:α->Bool}{x:α}(h:l[i]?=some x):(l.take (i+1)).filter f=(l.take i).filter f++(if f x=true then [x]else [])/\∃g,l.filter f=(l.take i).filter f++(if f x=true then [x]else [])++g:=by
 have e:(l.take (i+1)).filter f=(l.take i).filter f++(if f x=true then [x]else []):=by
  rw [Bq h,Kd];congr 1;by_cases m:f x=true;· rw [B0 m,List.filter_cons_of_pos m];rfl
  · rw [As m,kO m];rfl
 refine ⟨e,(l.drop (i+1)).filter f,?_⟩;rw [<-e,<-Kd,MA]
theorem bM{l:List C4}(hn:l.Nodup){x:C4}(h:l[i]?=some x)(f:C4->Bool):x∉(l.take i).filter f:=fun G=>by
 have g:=(GP.1 G).1;have h2:l=l.take i++x::l.drop (i+1):=by
  obtain ⟨m,B⟩:=C6.1 h;rw [<-B,<-RT m,MA]
 rw [h2,HN]at hn;exact hn.2.2 x g x (Fo ..) V
theorem uo(h:c.okb)(hn:(s.map (·.1)).Nodup)(g:(c.cp,Obj.cells c.A92 116 (0,0))∈s)(h2:(c.mi,Obj.map c.esI c.ckI)∈s):BQ prog 22 #[.pointer (some ⟨c.cp,0,none⟩)] [s] (fun r H'=>∃m,(∃zs:List C4,zs.Perm (c.its.map ItM.key)/\(zs.Pairwise fun x y=>x.data.toList<=y.data.toList)/\Row 9 r (zs.map Value.string) m)/\H'=[s,m]):=by
 have G:c.cp≠c.mi:=fun K=>by
  have B:=Ga hn g h2 K;injection B with _ B
  cases B
 obtain ⟨I,O⟩:=A19 hn g h2 G;refine aN O ((Np h).mono ?_);rintro r H' ⟨zs,m,g,h2,J,rfl⟩;exact ⟨m,⟨zs,g,h2,J⟩,V⟩
theorem bR(c:CZ):BQ prog 51 #[.pointer (some ⟨c.cp,0,none⟩)] [] (fun r H'=>∃g,r= .func (.func 104) #[] #[I1 g]/\H'=[[(g,.cells #[.pointer (some ⟨c.cp,0,none⟩)] 36 (0,0))]]):=by
 refine Se func51 ntmps51 [0] ?_;intro u R;refine A3<|Ze (Bx #[_])<|AF fun g=>AH Y<|A3<|Zv (Bg (vs:=[]) (us:=[_]) Y Y)<|Ax Y<|AX V results51 Y (by exact ⟨g,V,V⟩)
set_option maxHeartbeats 1000000 in
theorem bT(h:c.okb)(bc:Nat):KL prog 104 #[I1 bc] [[(bc,.cells #[.pointer (some ⟨c.cp,0,none⟩)] 36 (0,0))]] (w4 c) (fun x:C4=>#[.string x]) (ak c) (W9 c):=by
 intro l J hA hy s K;obtain ⟨d0,af,O,p8,p9,bn,gq,ic,pg⟩:=hA _ _ K;have U:(d0.its.map ItM.key).Perm (c.its.map ItM.key):=(Sh af.its.keys h.its.keys).2 fun a=>by
  simp only [CM,bn,T0,jt,eM]
 have pq:=h.its.len;have cu:=h.its.keys
 refine Se func104 ntmps104 [0,1] ?_;intro u R;refine Zq<|GU (s:=s) Wo (fun l9=>?_);rw [<-O];refine Zg<|Zl Lz Y ?_;refine Zc [_] Y call22 Y V (uo af l9 gq ic) ?_;rintro _ _ ⟨_,⟨sk,⟨zs,g,qa,Z⟩,rfl⟩,rfl⟩;replace g:=g.trans U;have o9:=g.length_eq
 rw [Bm]at o9;have ow:zs.Nodup:=g.nodup_iff.2 cu
 obtain ⟨pk,ck,rfl⟩:=Z.form;simp only [Bm];rw [Bm]at Z;refine Zv (AR Dd Y)<|Zm Y<|A5<|AP<|Zb [8,0,1,6,7] ?_;refine Ay (e0:=[(8,_)]) (fun m e H=>∃(i:Nat) (s:List A8),m=zs.length -i/\(i<=zs.length/\J ((zs.take i).filter (J4 c)) s)/\e=[(8,I0 (i:Int))]/\H=[s]) (by exact ⟨0,s,V,⟨C7 _,K⟩,V,V⟩) Wp ?_;rintro _ _ _ ⟨i,s,rfl,⟨hi,K⟩,rfl,rfl⟩;refine A3<|Zv (Ar Y Y)<|A5<|Zq<|Ap Y (fun X=>?_) (fun X=>?_);·
  obtain ⟨k,hk⟩:∃k,zs[i]?=some k:=⟨_,BE A0⟩;obtain ⟨x,hx,rfl⟩:=CM.1 (g.mem_iff.1 (E7 hk));obtain ⟨ax,gm,G⟩:=ZZ (f:=J4 c) hk;have l8:=bM ow hk (J4 c)
  obtain ⟨d,hd,kv,pz,cO,l5,hC,hM,hS⟩:=hA _ _ K;have ek:x∈d.its:=(l5 x).2 ⟨hx,l8⟩
  have hg:=hd.its.get ek;have j3:(x.b,Obj.cells x.A91 127 (0,0))∈s:=hS _ (hd.its.sub x ek)
  have d9:=PS cu hx;rw [show d.cp=d0.cp from kv.trans O.symm]at hC;have q9:zs[i]?=some x.key:=hk
  rcases Z with⟨_,h0,_⟩|⟨gk,capk,curk,zk,hvk,rfl,hlek,hcmk,hcsk,htkk,hfrk⟩
  · simp at h0;subst h0;simp at X
  injection hvk with hv1 hv2 hv3
  subst hv1 hv3;have j5:curk[i]?=some (.string x.key):=by
   have h:=congrArg (fun l=>l[i]?) htkk;simp only [HU,Bm,B0 X,FF,hk]at h;simpa using h
  refine B4<|Zq<|AP<|A3<|Ba (Bd Dd HD Y Y (by first|omega|(simp;omega)))<|Zl Kx Y (hv:=by exact j5) ?_;refine D2 Y<|Aw (n:=22) (0::1::3::7::0::31::63::127::255::511::0::1024::3072::7168::15360::32767::65535::131071::131071::524287::1048575::2097151::[]) 524288 AD AD V<|Bk 0 V Lz Y ?_;refine A1 1 V (Aq Y V)<|A1 2 V (AB (off:=4) Ge V rfl SO Y)<|CS (D':=15) 3 V rfl V (Eg Wo (hC)) (BL RR Y B2) ?_;refine A1 4 rfl (AQ Y)<|CS (D':=63) 5 rfl rfl rfl (Eg Wo (hM)) (De (Dx HO (D:=fun _=>True)) SM Wg hd.its.im (fun _ _=>trivial) (trivial) (by rw [hg];first|done|rfl) Y Y) ?_;refine A1 6 V (Aq Y V)<|A1 7 V (AB (off:=0) Ln V rfl G2 Y)<|A1 8 V (Ai (off:=8) G4 V rfl A6 Y)<|CS (D':=1023) 9 V rfl V (Eg Wo (j3)) (BL AE Y B2) ?_;refine Bk 10 V Lz Y ?_;refine A1 11 V (Aq Y V)<|A1 12 V (AB (off:=0) Ge V rfl A6 Y)<|CS (D':=16383) 13 V rfl V (Eg Wo (hC)) (BL AE Y B2) ?_
  (refine FB (D':=32767) 14 (Gu Y Y (IntWalk.i64_in _ ?_)) ?_;(focus (have:=hd.pos;omega)))
  refine A1 15 V (Dz Y Y)<|A1 16 V (AQ Y)<|Dh (t:=28) Y (fun B=>?_) (fun B=>?_);·
   rw [DO B];have I:J4 c x.key=true:=d9.2 (by rw [<-cO];exact B)
   rw [B0 I]at G;have o8:=hy _ x.key s ⟨zs,g,gm,G⟩ K
   refine B5 17 V (AQ Y)<|B5 18 V (AQ Y)<|Yw 19 1048575 V (GX (vs:=[_]) Y Y (o8) Wp) ?_;rintro _ _ ⟨_,⟨s',rfl,rfl,gy⟩,rfl⟩;refine B5 20 V (Bh Y)<|A1 21 V (AL Y Y)<|Ao<|Zn [0,1,6,7,8,33] ?_;refine Zx<|AY Y (fun hb=>by cases hb)<|fun hb=>AC<|A9<|Zx<|E6 Y Y Y<|DM (e:=[(8,_)]) (h:=by exact ⟨i+1,s',rfl,⟨by omega,by rw [ax,B0 I];exact gy⟩,rfl,rfl⟩)
  rw [F0 B];have I:¬J4 c x.key=true:=fun h9=>B (by rw [cO];exact d9.1 h9)
  refine AW 17 V<|AW 18 V<|AW 19 V<|AW 20 V<|A1 21 V (AO Y Y)<|Ao<|Zn [0,1,6,7,8,33] ?_;refine Zx<|DW Y<|AC<|A9<|Zx<|E6 Y Y Y<|DM (e:=[(8,_)]) (h:=by exact ⟨i+1,s,rfl,⟨by omega,by rw [ax,As I,DQ];exact K⟩,rfl,rfl⟩)
 obtain rfl:i=zs.length:=by omega
 rw [HI]at K;refine BB<|Zt<|Zt<|AV<|D6 V results104 (by exact ⟨_,s,⟨zs,g,V⟩,V,K⟩)
def ItM.core(x:ItM):ItM:={x with res:=C8.none,wq:=none,wc:=0,since:=0}
variable{y:ItM}
theorem H5(h:y.core=x.core):y.b=x.b/\y.id=x.id/\y.q=x.q/\y.tn=x.tn/\y.base=x.base/\y.rq=x.rq/\y.rc=x.rc/\y.L=x.L:=by
 obtain ⟨b,id,q,tn,base,rq,rc,L,res,wq,wc,since⟩:=x;obtain ⟨Z,G,q',K,m,J,I,X,B,U,O,g⟩:=y;unfold ItM.core at h;simp only [ItM.mk.injEq]at h;exact ⟨h.1,h.2.1,h.2.2.1,h.2.2.2.1,h.2.2.2.2.1,h.2.2.2.2.2.1,h.2.2.2.2.2.2.1,h.2.2.2.2.2.2.2.1⟩
theorem IU(h:y.core=x.core):y.key=x.key:=by unfold ItM.key;rw [(H5 h).2.2.1]
theorem Vv(W:List α)(r:α){n:Nat}(h:n<=W.length):(W++[r]).drop n=W.drop n++[r]:=jx h
def Iy(W W':List BJ)(r:BJ):Prop:=(W'=W++[r]/\W.length<64)\/(W'=(W++[r]).drop 1/\W.length=64)
variable{W' W:List BJ}{r:BJ}
theorem jd{pos base:Int}(g:Iy W W' r)(B:(pos -base).toNat<=W.length)(G:base<=pos)(I:pos+1 -64<=base):DZ (pos+1) base W'=DZ pos base W++[r]/\(pos+1 -base).toNat<=W'.length:=by
 have e:(pos+1 -base).toNat=(pos -base).toNat+1:=by omega
 unfold DZ;rcases g with⟨rfl,m⟩|⟨rfl,m⟩
 · rw [C2,G0,e,show W.length+1 -((pos -base).toNat+1)=W.length -(pos -base).toNat by omega,Vv _ _ A0]
   exact ⟨V,by omega⟩
 · rw [D0,C2,G0,e,cS,show 1+(W.length+1 -1 -((pos -base).toNat+1))=W.length -(pos -base).toNat by omega,Vv _ _ A0]
   exact ⟨V,by omega⟩
theorem LB{pos base:Int}(h:pos<=base):DZ pos base W=[]:=by
 unfold DZ;rw [show(pos -base).toNat=0 by omega,W0,kl]
def U8(cs:List Chg)(x:ItM):Prop:=∃ch∈cs,Cr x.q ch=true
variable{q:QM}
theorem NL(g:∀c∈cs,c.ok):cs.any (Dj q)=true↔∃ch∈cs,Cr q ch=true:=by
 rw [nr];constructor
 · rintro ⟨c,hc,h⟩
   unfold Dj at h;rw [Gk]at h;exact ⟨c,hc,h.2⟩
 · rintro ⟨c,hc,h⟩
   refine ⟨c,hc,?_⟩;unfold Dj;rw [DO (g c hc),h];rfl
theorem Ql:∀{cs:List Chg} {r:C8},¬cs.any (Dj q)=true->Be q r cs=(r,false,true):=fun{cs r} h=>by
 have g:∀{cs:List Chg},(∀c∈cs,Dj q c=false)->Ho q r cs=some r:=fun{cs}=>by
  induction cs with
  |nil=>intro _;rfl
  |cons c cs ih=>
   intro h;have h2:DX q c r=(r,true):=by unfold DX;rw [h c (Fo ..)];rfl
   unfold Ho;rw [h2];exact ih fun d B=>h d (G3 _ B)
 have m:∀c∈cs,Dj q c=false:=fun c hc=>by
  cases h4:Dj q c with
  |false=>rfl
  |true=>exact absurd (nr.2 ⟨c,hc,h4⟩) h
 unfold Be;rw [g m];show(r,cs.any (Dj q),true)=_
 rw [r4]at h;rw [h]
structure yc(cs:List Chg)(p:Int)(ids:List Int)(MR:List A8)(x y:ItM):Prop where
 core:y.core=x.core
 how:(y=x/\¬(x.id∈ids/\x.base<p))\/((x.id∈ids/\x.base<p)/\(Be x.q x.res cs).2.2=true/\y.res=(Be x.q x.res cs).1/\y.since=p/\DV MR (.slice y.wq y.res.rows.length y.wc) y.res.rows)
structure H9(c d:CZ)(cs:List Chg)(p:Int)(W':List BJ)(M1:List A8)(ids:List Int)(tl:List C4):Prop where
 okb:d.okb
 cp:d.cp=c.cp
 pos:d.pos=p
 win:d.win=W'
 M:d.M=M1
 ns:d.ns=c.ns
 sc:d.z.cs=c.z.cs
 next:d.next=c.next
 PL:∀e∈d.PL,e∈c.PL
 MR:∀q∈c.MR,q∈d.MR
 i1:∀y∈d.its,∃x∈c.its,yc cs p ids d.MR x y
 i2:∀x∈c.its,(x.id∈ids->x.base<p->(Be x.q x.res cs).2.2=true)->∃y∈d.its,y.core=x.core
 t1:∀k,k∈tl↔∃x∈c.its,x.key=k/\x.id∈ids/\x.base<p
 t2:tl.Nodup
theorem Jb(h:c.okb)(hx:x∈c.its)(hy:y∈c.its)(e:x.id=y.id):x=y:=by
 have hi:=h.its.idx.ids;rw [Mz]at hi;exact Ga hi hx hy e
variable{p:Int}{M1:List A8}{ids:List Int}
theorem H9.next_it(h:H9 c d cs p W' M1 ids tl)(hc:c.okb)(hx:x∈c.its)(hn:x.id∉ids):x∈d.its:=by
 obtain ⟨y,hy,B⟩:=h.i2 x hx fun g=>absurd g hn;obtain ⟨J,m,G⟩:=h.i1 y hy;have I:=Jb hc m hx (by rw [<-(H5 G.core).2.1,(H5 B).2.1])
 subst I;rcases G.how with⟨rfl,_⟩|⟨⟨g,_⟩,_⟩
 · exact hy
 · exact absurd g hn
theorem vM(h:H9 c d cs p W' M1 ids tl)(hc:c.okb)(hx:x∈c.its)(J:¬x.base<p):H9 c d cs p W' M1 (ids++[x.id]) tl:=by
 have g:∀z∈c.its,z.base<p->(z.id∈ids++[x.id]↔z.id∈ids):=fun z hz B=>by
  rw [CI,CH];refine ⟨fun m=>m.elim id fun h2=>?_,.inl⟩;rw [Jb hc hz hx h2]at B;exact absurd B J
 refine ⟨h.okb,h.cp,h.pos,h.win,h.M,h.ns,h.sc,h.next,h.PL,h.MR,fun y hy=>?_,fun z hz K=>h.i2 z hz fun m h2=>K ((g z hz h2).2 m) h2,fun k=>?_,h.t2⟩
 · obtain ⟨z,hz,I⟩:=h.i1 y hy
   refine ⟨z,hz,I.core,?_⟩;rcases I.how with⟨e,m⟩|⟨m,h2⟩
   · exact .inl ⟨e,fun G=>m ⟨(g z hz G.2).1 G.1,G.2⟩⟩
   · exact .inr ⟨⟨(g z hz m.2).2 m.1,m.2⟩,h2⟩
 · rw [h.t1]
   constructor;· rintro ⟨z,hz,a,b,e⟩;exact ⟨z,hz,a,(g z hz e).2 b,e⟩
   · rintro ⟨z,hz,a,b,e⟩;exact ⟨z,hz,a,(g z hz e).1 b,e⟩
theorem vL(hc:c.okb)(t1:∀k,k∈tl↔∃x∈c.its,x.key=k/\x.id∈ids/\x.base<p)(t2:tl.Nodup)(hx:x∈c.its)(G:x.base<p)(hn:x.id∉ids):(∀k,k∈tl++[x.key]↔∃y∈c.its,y.key=k/\y.id∈ids++[x.id]/\y.base<p)/\(tl++[x.key]).Nodup:=by
 constructor
 · intro k
   rw [CI,CH,t1];constructor
   · rintro (⟨y,hy,a,b,e⟩|rfl)
     · exact ⟨y,hy,a,Fc _ b,e⟩
     · exact ⟨x,hx,rfl,by simp,G⟩
   · rintro ⟨y,hy,rfl,b,e⟩
     rcases CI.1 b with b|b
     · exact .inl ⟨y,hy,rfl,b,e⟩
     · rw [Jb hc hy hx (CH.1 b)];exact .inr rfl
 · rw [HN]
   refine ⟨t2,by simp,fun a B b g=>?_⟩;obtain rfl:=CH.1 g;intro I;obtain ⟨y,hy,m,h2,_⟩:=(t1 a).1 B;rw [Ga hc.its.keys hy hx (m.trans I)]at h2;exact hn h2
theorem xw{its:List ItM}{next:Int}{esQ:Array MapEntry}{ckQ:Nat}{lmQ:List (Int×A2)}{lv:A2}{ML:List A8}{esI:Array MapEntry}{ckI:Nat}{lmI:List (C4×A2)}{esK:Array MapEntry}{ckK:Nat}{lmK:List (Int×A2)}{SI:List A8}(h:GL its next esQ ckQ lmQ lv ML esI ckI lmI esK ckK lmK SI)(hn:(SI.map (·.1)).Nodup)(hx:x∈its)(p:Int)(cs:List Chg)(wq:B8)(wc:Nat):
 GL (its.map fun y=>if y.id=x.id then x.upd p cs wq wc else y) next esQ ckQ lmQ lv ML esI ckI lmI esK ckK lmK (Fe x.b (x.upd p cs wq wc).obj SI):=by
 have m:∀y∈its,y.id=x.id->y=x:=fun y hy e=>by
  have hi:=h.idx.ids;rw [Mz]at hi;exact Ga hi hy hx e
 have g:∀y∈its,(if y.id=x.id then x.upd p cs wq wc else y).key=y.key/\(if y.id=x.id then x.upd p cs wq wc else y).iq=y.iq/\(if y.id=x.id then x.upd p cs wq wc else y).b=y.b/\(if y.id=x.id then x.upd p cs wq wc else y).id=y.id/\(if y.id=x.id then x.upd p cs wq wc else y).q=y.q:=fun y hy=>by
  by_cases e:y.id=x.id
  · rw [m y hy e,B0 rfl];exact ⟨rfl,rfl,rfl,rfl,rfl⟩
  · rw [As e];exact ⟨rfl,rfl,rfl,rfl,rfl⟩
 have e1:((its.map fun y=>if y.id=x.id then x.upd p cs wq wc else y).map ItM.iq)=its.map ItM.iq:=by
  rw [Mz];exact W6 fun y hy=>(g y hy).2.1
 have e2:((its.map fun y=>if y.id=x.id then x.upd p cs wq wc else y).map ItM.key)=its.map ItM.key:=by
  rw [Mz];exact W6 fun y hy=>(g y hy).1
 refine ⟨by rw [e1];exact h.idx,by rw [e1];exact h.ist,h.im,fun q=>?_,h.km,fun q=>?_,by rw [e2];exact h.keys,fun y hy=>?_,h.nx,by rw [Bm];exact h.len,fun y hy=>?_,fun y hy=>?_⟩
 · rw [h.imem]
   constructor;· rintro ⟨y,hy,rfl⟩;exact ⟨_,Ek hy,by rw [(g y hy).1,(g y hy).2.2.1]⟩
   · rintro ⟨z,hz,rfl⟩
     obtain ⟨y,hy,rfl⟩:=CM.1 hz;exact ⟨y,hy,by rw [(g y hy).1,(g y hy).2.2.1]⟩
 · rw [h.kmem]
   constructor;· rintro ⟨y,hy,rfl⟩;exact ⟨_,Ek hy,by rw [(g y hy).1,(g y hy).2.2.2.1]⟩
   · rintro ⟨z,hz,rfl⟩
     obtain ⟨y,hy,rfl⟩:=CM.1 hz;exact ⟨y,hy,by rw [(g y hy).1,(g y hy).2.2.2.1]⟩
 · obtain ⟨z,hz,rfl⟩:=CM.1 hy
   rw [(g z hz).2.2.2.1];exact h.ids z hz
 · obtain ⟨z,hz,rfl⟩:=CM.1 hy
   rw [(g z hz).2.2.2.2];exact h.q z hz
 · obtain ⟨z,hz,rfl⟩:=CM.1 hy
   by_cases e:z.id=x.id
   · simp only [B0 e]
     exact Uj (h.sub x hx)
   · simp only [As e]
     refine CM.2 ⟨z.ch,h.sub z hz,As fun e2=>?_⟩;have B:=Ga hn (h.sub z hz) (h.sub x hx) e2
     unfold ItM.ch ItM.obj at B;simp only [lA,Obj.cells.injEq,rM,kq,Value.int.injEq,cF,eM]at B;exact e (by simp_all)
theorem A06(h:H9 c d cs p W' M1 ids tl)(hc:c.okb)(hn:(d.SI.map (·.1)).Nodup)(hx:x∈c.its)(hb:x.base<p)(G:x.id∉ids)(O:(Be x.q x.res cs).2.2=true){wq:B8}{wc:Nat}(hr:DV s (.slice wq (Be x.q x.res cs).1.rows.length wc) (Be x.q x.res cs).1.rows):
 H9 c {d with SI:=Fe x.b (x.upd p cs wq wc).obj d.SI,MR:=s++d.MR,its:=d.its.map fun y=>if y.id=x.id then x.upd p cs wq wc else y} cs p W' M1 (ids++[x.id]) (tl++[x.key]):=by
 have g:=h.next_it hc hx G;have B:=xw h.okb.its hn g p cs wq wc
 have K:(x.upd p cs wq wc).core=x.core:=rfl;obtain ⟨X,Z⟩:=vL hc h.t1 h.t2 hx hb G;have e2:((d.its.map fun y=>if y.id=x.id then x.upd p cs wq wc else y).map ItM.key)=d.its.map ItM.key:=by
  rw [Mz];refine W6 fun y hy=>?_;show(if y.id=x.id then x.upd p cs wq wc else y).key=y.key
  split;· rename_i e;rw [Jb h.okb hy g e];rfl
  · rfl
 refine ⟨⟨h.okb.pos,h.okb.win,h.okb.wl,h.okb.wp,h.okb.pool,fun k=>by rw [e2];exact h.okb.pk k,B,fun y hy=>?_⟩,h.cp,h.pos,h.win,h.M,h.ns,h.sc,h.next,h.PL,fun q I=>HC _ (h.MR q I),fun y hy=>?_,fun z hz hk=>?_,X,Z⟩
 · obtain ⟨z,hz,rfl⟩:=CM.1 hy
   split;· rename_i e;rw [<-Jb h.okb hz g e];exact h.okb.tns z hz
   · exact h.okb.tns z hz
 · obtain ⟨z,hz,rfl⟩:=CM.1 hy
   by_cases e:z.id=x.id
   · rw [B0 e]
     exact ⟨x,hx,K,.inr ⟨⟨by simp,hb⟩,O,V,V,hr.mono fun q I=>Fc _ I⟩⟩
   · rw [As e]
     obtain ⟨w,hw,U⟩:=h.i1 z hz;have af:w.id≠x.id:=fun m=>e (by rw [(H5 U.core).2.1,m])
     refine ⟨w,hw,U.core,?_⟩;have hm:w.id∈ids++[x.id]↔w.id∈ids:=by rw [CI,CH];exact ⟨fun m=>m.elim id fun h2=>absurd h2 af,.inl⟩
     rcases U.how with⟨a,b⟩|⟨a,b,e1,e3,e4⟩
     · exact .inl ⟨a,fun h3=>b ⟨hm.1 h3.1,h3.2⟩⟩
     · exact .inr ⟨⟨hm.2 a.1,a.2⟩,b,e1,e3,e4.mono fun q I=>HC _ I⟩
 · by_cases e:z.id=x.id
   · obtain rfl:=Jb hc hz hx e
     exact ⟨_,CM.2 ⟨z,g,B0 V⟩,V⟩
   · obtain ⟨y,hy,J⟩:=h.i2 z hz fun m h2=>hk (Fc _ m) h2
     exact ⟨y,CM.2 ⟨y,hy,As (by rw [(H5 J).2.1];exact e)⟩,J⟩
variable{d2:CZ}
theorem A08(h:H9 c d cs p W' M1 ids tl)(hc:c.okb)(hx:x∈c.its)(hb:x.base<p)(K:x.id∉ids)(B:(Be x.q x.res cs).2.2=false)
 (g:d2.okb)(h2:d.like d2)(I:d2.next=d.next)(J:d2.M=d.M/\d2.MR=d.MR)(h6:d2.its=d.its.filter fun y=>y.key≠x.key)(h7:∀e∈d2.PL,e∈d.PL):H9 c d2 cs p W' M1 (ids++[x.id]) (tl++[x.key]):=by
 obtain ⟨U,X⟩:=vL hc h.t1 h.t2 hx hb K;have m:∀y,y∈d2.its↔y∈d.its/\y.key≠x.key:=fun y=>by rw [h6,GP];simp
 refine ⟨g,h2.cp.trans h.cp,h2.pos.trans h.pos,h2.win.trans h.win,J.1.trans h.M,h2.ns.trans h.ns,h2.sc.trans h.sc,I.trans h.next,fun e he=>h.PL e (h7 e he),fun q hq=>by rw [J.2];exact h.MR q hq,fun y hy=>?_,fun z hz hk=>?_,U,X⟩
 · obtain ⟨af,ax⟩:=(m y).1 hy
   obtain ⟨w,hw,O⟩:=h.i1 y af;have Z:w.id≠x.id:=fun e=>ax (by rw [IU O.core,Jb hc hw hx e])
   refine ⟨w,hw,O.core,?_⟩;have m:w.id∈ids++[x.id]↔w.id∈ids:=by rw [CI,CH];exact ⟨fun g=>g.elim id fun h2=>absurd h2 Z,.inl⟩
   rcases O.how with⟨a,b⟩|⟨a,b,e1,e3,e4⟩
   · exact .inl ⟨a,fun I=>b ⟨m.1 I.1,I.2⟩⟩
   · exact .inr ⟨⟨m.2 a.1,a.2⟩,b,e1,e3,by rw [J.2];exact e4⟩
 · by_cases e:z.id=x.id
   · obtain rfl:=Jb hc hz hx e
     rw [hk B6 hb]at B;cases B
   · obtain ⟨y,hy,G⟩:=h.i2 z hz fun g h2=>hk (Fc _ g) h2
     refine ⟨y,(m y).2 ⟨hy,fun h9=>e ?_⟩,G⟩;rw [IU G]at h9;rw [Ga hc.its.keys hz hx h9]
theorem A09(h:H9 c d r.cs r.p W' M1 ids tl)(hc:c.ok)(hr:Dq r.p r.cs)(hp:r.p=c.pos+1){r':BJ}(X:r'.pc=r.pc)(hW:Iy c.win W' r')(hM:∀q∈c.M,q∈d.M)(G:∀x∈c.its,x.id∈ids↔U8 r.cs x)(hy:y∈d.its)(d9:r.p -64<=y.base):y.ok d.M d.MR r.p W':=by
 obtain ⟨x,hx,hs⟩:=h.i1 y hy;have g:=hc.all x hx
 obtain ⟨c1,c2,c3,c4,c5,c6,c7,c8⟩:=H5 hs.core;have B:∀ch∈r.cs,ch.ok:=fun ch af=>by
  obtain ⟨i,hi⟩:=HK af;exact hr.all i ch hi
 have J:r'.p=r.p:=congrArg Prod.fst X;have K:r'.cs=r.cs:=congrArg Prod.snd X
 have I:DV d.MR (.slice y.wq y.res.rows.length y.wc) y.res.rows:=by
  rcases hs.how with⟨rfl,_⟩|⟨_,_,_,_,h5⟩
  · exact g.rw.mono h.MR
  · exact h5
 obtain ⟨r0,O,m⟩:=g.run;by_cases hb:x.base<r.p
 · obtain ⟨Z,U⟩:=jd hW g.reach A0 A0
   rw [<-hp]at Z U;refine ⟨by rw [c3];exact g.q,by rw [c5];exact g.base,by rw [c4];exact g.tn,by rw [c6,c7,c8];exact g.rp.mono hM,by rw [c8];exact g.rl,by rw [c8];exact g.fit,I,by rw [c5];exact U,r0,by rw [c3,c8];exact O,?_⟩;rw [c3,c5,Z,LU,m,Lk];have hl:=O3 g.reach
   have cO:=hc.pos;have cu:=g.base
   unfold FX FX;rw [J,K];rcases hs.how with⟨rfl,ax⟩|⟨⟨hin,_⟩,hok,e1,e2,_⟩
   · have hq:¬r.cs.any (Dj y.q)=true:=fun h9=>ax ⟨(G y hx).2 ((NL B).1 h9),hb⟩
     rw [Ql hq,B0 ⟨rfl,by rw [hl];omega,by rw [hl];omega⟩];rfl
   · have hq:r.cs.any (Dj x.q)=true:=(NL B).2 ((G x hx).1 hin)
     rw [B0 ⟨hok,by rw [hl];omega,by rw [hl];omega⟩,(M0 hok).2,B0 hq,e1,e2]
 · have bn:y=x:=by
    rcases hs.how with⟨e,_⟩|⟨⟨_,h9⟩,_⟩
    · exact e
    · exact absurd h9 hb
   subst bn;rw [LB A0]at m;exact ⟨g.q,g.base,g.tn,g.rp.mono hM,g.rl,g.fit,I,by omega,r0,O,by rw [LB A0];exact m⟩
theorem Od{α:Type} [DecidableEq α]:∀{a b:List α},a.Nodup->(∀x∈a,x∈b)->a.length<=b.length
 |[],_,_,_=>C7 _
 |x::a,b,hn,hs=>by
  obtain ⟨hx,hn⟩:=JT.1 hn;have h2:=Od (a:=a) (b:=b.erase x) hn fun y hy=>by
   have g:y≠x:=fun e=>hx (e▸hy);exact (List.mem_erase_of_ne g).2 (hs y (G3 _ hy))
  have m:=pB (hs x (Fo ..));have B:=List.length_pos_of_mem (hs x (Fo ..))
  rw [EV];omega
theorem oP(h:c.okb)(U:Iy c.win W r)(Z:r.p=c.pos+1)(O:Dq r.p r.cs)(K:∀q∈c.M,q∈M1)(J:CE M1 (.slice r.q r.cs.length r.cap) r.cs):W.length<=64/\∀(i:Nat) (g:BJ),W[i]?=some g->g.p=r.p -(W.length:Int)+1+(i:Int)/\CE M1 (.slice g.q g.cs.length g.cap) g.cs/\Dq g.p g.cs:=by
 have B:∀(i:Nat) (g:BJ),(c.win++[r])[i]?=some g->g.p=c.pos -(c.win.length:Int)+1+(i:Int)/\CE M1 (.slice g.q g.cs.length g.cap) g.cs/\Dq g.p g.cs:=fun i g m=>by
  rcases Ft i c.win.length with h1|h1
  · rw [Ys h1]at m
    exact iJ h K i g m
  · rw [PF h1]at m
    have h2:i -c.win.length=0:=by
     have:=(C6.1 m).1;simp at this;omega
    rw [h2]at m;have I:r=g:=by simpa using m
    subst I;exact ⟨by omega,J,O⟩
 have G:(c.win++[r]).length=c.win.length+1:=by rw [C2];rfl
 rcases U with⟨rfl,X⟩|⟨rfl,X⟩
 · refine ⟨by omega,fun i g m=>?_⟩
   obtain ⟨a,b,e⟩:=B i g m;exact ⟨by rw [G];omega,b,e⟩
 · refine ⟨by rw [D0];omega,fun i g m=>?_⟩
   rw [S2]at m;obtain ⟨a,b,e⟩:=B (1+i) g m;exact ⟨by rw [D0,G];omega,b,e⟩
theorem vO(h:c.okb){wq:B8}{wc:Nat}{sW:List A8}(J:Iy c.win W r)(g:BX 2 26 (.slice wq W.length wc) W.length (Dy W) sW)(O:r.p=c.pos+1)(m:Dq r.p r.cs)(I:∀q∈c.M,q∈M1)(G:CE M1 (.slice r.q r.cs.length r.cap) r.cs){lv2:A2}{ML2:List A8}(hst:WF (c.its.map ItM.iq) lv2 ML2):
 H9 c {c with pos:=r.p,wq:=wq,wc:=wc,win:=W,sW:=sW,lv:=lv2,ML:=ML2,M:=M1} r.cs r.p W M1 [] []:=by
 have B:=oP h J O m I G;have U:=m.pos
 exact ⟨⟨⟨by show 0<=r.p;omega,by show r.p<=10000;omega⟩,g,B.1,B.2,h.pool,h.pk,{h.its with ist:=hst},h.tns⟩,V,V,V,V,V,V,V,fun e K=>K,fun q X=>X,fun y hy=>⟨y,hy,V,.inl ⟨V,fun h=>absurd h.1 B6⟩⟩,fun x hx _=>⟨x,hx,V⟩,fun k=>by simp,oB⟩
structure GH(c d:CZ)(p:Int)(cs:List Chg)(q2:B8)(cap2:Nat)(zs:List C4):Prop where
 ok:d.ok
 cp:d.cp=c.cp
 pos:d.pos=p
 win:Iy c.win d.win ⟨p,q2,cap2,cs⟩
 ns:d.ns=c.ns
 sc:d.z.cs=c.z.cs
 next:d.next=c.next
 PL:∀e∈d.PL,e∈c.PL
 i1:∀y∈d.its,p -64<=y.base/\∃x∈c.its,y.core=x.core/\((¬(U8 cs x/\x.base<p)/\y.res=x.res/\y.since=x.since)\/((U8 cs x/\x.base<p)/\(Be x.q x.res cs).2.2=true/\y.since=p))
 i2:∀x∈c.its,p -64<=x.base->(U8 cs x->x.base<p->(Be x.q x.res cs).2.2=true)->∃y∈d.its,y.core=x.core
 z1:∀k,k∈zs↔∃x∈c.its,x.key=k/\U8 cs x/\x.base<p
 z2:zs.Nodup
 z3:zs.Pairwise fun x y=>x.data.toList<=y.data.toList
 M:∀q∈c.M,q∈d.M
theorem GH.zcap{q2:B8}{cap2:Nat}{zs:List C4}(h:GH c d p cs q2 cap2 zs):d.z.cap=c.z.cap:=congrArg Prod.fst h.sc
theorem yA{its:List ItM}(hn:((its.map ItM.iq).map (·.1)).Nodup){g:List Int}(h:∀i,i∈g↔JJ (its.map ItM.iq) cs i)(hx:x∈its):x.id∈g↔U8 cs x:=by
 rw [h];constructor
 · rintro ⟨y,hy,m,hc⟩
   obtain ⟨w,B,rfl⟩:=CM.1 hy;rw [Mz]at hn;have:=Ga hn B hx m
   subst this;exact hc
 · intro hc
   exact ⟨x.iq,Ek hx,V,hc⟩
structure JG(d d2:CZ)(pre:List C4):Prop where
 okb:d2.okb
 like:d.like d2
 next:d2.next=d.next
 M:d2.M=d.M/\d2.MR=d.MR
 mi:d2.mi=d.mi
 PL:∀e∈d2.PL,e∈d.PL
 its:∀y,y∈d2.its↔y∈d.its/\y.key∉pre
theorem Ra(h:d.okb):JG d d []:=⟨h,⟨rfl,rfl,rfl,rfl,rfl⟩,rfl,⟨rfl,rfl⟩,rfl,fun e g=>g,fun y=>by simp⟩
theorem bS{pre:List C4}{k:C4}(h:JG d d2 pre)(J:d.okb)(I:ak d (pre++[k])):∃x∈d2.its,x.key=k:=by
 obtain ⟨zs,m,B,g⟩:=I;have hn:(zs.filter (J4 d)).Nodup:=(m.nodup_iff.2 J.its.keys).sublist Z1
 have K:k∈zs:=(GP.1 (by rw [g];simp:k∈zs.filter (J4 d))).1;obtain ⟨x,hx,rfl⟩:=CM.1 (m.mem_iff.1 K);refine ⟨x,(h.its x).2 ⟨hx,fun G=>?_⟩,V⟩;rw [g,DG,HN]at hn;exact hn.2.2 _ G _ B6 V
theorem RZ{g:CZ}{pre:List C4}(h:JG d d2 pre)(B:g.okb)(h2:d2.like g)(G:g.next=d2.next)(m:g.M=d2.M/\g.MR=d2.MR)(I:g.mi=d2.mi)(J:g.its=d2.its.filter fun y=>y.key≠x.key)(K:∀e∈g.PL,e∈d2.PL):JG d g (pre++[x.key]):=by
 refine ⟨B,h.like.trans h2,G.trans h.next,⟨m.1.trans h.M.1,m.2.trans h.M.2⟩,I.trans h.mi,fun e O=>h.PL e (K e O),fun y=>?_⟩;rw [J,GP,h.its,CI,CH];simp only [H4,ne_eq,not_or];exact ⟨fun⟨⟨a,b⟩,e⟩=>⟨a,b,e⟩,fun⟨a,b,e⟩=>⟨⟨a,b⟩,e⟩⟩
theorem vN{q2:B8}{cap2:Nat}{zi:List Int}{zs ys:List C4}(hc:c.ok)(hR:Dq p cs)(hp:p=c.pos+1)(hW:Iy c.win W ⟨p,q2,cap2,cs⟩)(h:H9 c d cs p W M1 zi tl)(hM:∀q∈c.M,q∈M1)(ax:∀i,i∈zi↔JJ (c.its.map ItM.iq) cs i)(B:JG d d2 ys)(U:W9 d ys)(hz:zs.Perm tl)(bn:zs.Pairwise fun x y=>x.data.toList<=y.data.toList):GH c d2 p cs q2 cap2 zs:=by
 have g:∀x∈c.its,x.id∈zi↔U8 cs x:=fun x hx=>yA hc.its.idx.ids ax hx;have m:∀y,y∈d2.its↔y∈d.its/\p -64<=y.base:=fun y=>by
  rw [B.its];constructor
  · rintro ⟨hy,hn⟩
    refine ⟨hy,cJ fun O=>hn ?_⟩;obtain ⟨ks,X,rfl⟩:=U;refine GP.2 ⟨X.mem_iff.2 (Ek hy),(PS h.okb.its.keys hy).2 ?_⟩;rw [h.pos];omega
  · rintro ⟨hy,hb⟩
    refine ⟨hy,fun O=>?_⟩;obtain ⟨ks,X,rfl⟩:=U;have:=(PS h.okb.its.keys hy).1 (GP.1 O).2
    rw [h.pos]at this;omega
 have G:d2.pos=p:=B.like.pos.trans h.pos;have I:d2.win=W:=B.like.win.trans h.win
 refine ⟨⟨B.okb,fun y hy=>?_⟩,B.like.cp.trans h.cp,G,by rw [I];exact hW,B.like.ns.trans h.ns,B.like.sc.trans h.sc,B.next.trans h.next,fun e he=>h.PL e (B.PL e he),fun y hy=>?_,fun x hx hb hk=>?_,fun k=>?_,hz.nodup_iff.2 h.t2,bn,fun q hq=>by rw [B.M.1,h.M];exact hM q hq⟩
 · obtain ⟨J,K⟩:=(m y).1 hy
   rw [G,I,B.M.1,B.M.2];exact A09 (r:=⟨p,q2,cap2,cs⟩) h hc hR hp rfl hW (fun q hq=>by rw [h.M];exact hM q hq) g J K
 · obtain ⟨J,K⟩:=(m y).1 hy
   obtain ⟨x,hx,hs⟩:=h.i1 y J;refine ⟨K,x,hx,hs.core,?_⟩;rcases hs.how with⟨rfl,af⟩|⟨⟨hin,hb⟩,hok,_,hsi,_⟩
   · exact .inl ⟨fun O=>af ⟨(g y hx).2 O.1,O.2⟩,rfl,rfl⟩
   · exact .inr ⟨⟨(g x hx).1 hin,hb⟩,hok,hsi⟩
 · obtain ⟨y,hy,Z⟩:=h.i2 x hx fun h1 h2=>hk ((g x hx).1 h1) h2
   exact ⟨y,(m y).2 ⟨hy,by rw [(H5 Z).2.2.2.2.1];exact hb⟩,Z⟩
 · rw [hz.mem_iff,h.t1]
   constructor;· rintro ⟨x,hx,a,b,e⟩;exact ⟨x,hx,a,(g x hx).1 b,e⟩
   · rintro ⟨x,hx,a,b,e⟩;exact ⟨x,hx,a,(g x hx).2 b,e⟩
theorem iB(h:H9 c d cs p W' M1 ids tl)(hc:c.ok)(hC:CE ME (.slice qa cs.length cap) cs)(O:cs.length<=1000)(hx:x∈c.its)(hb:x.base<p)(G:x.id∉ids)(hT:Row 9 tv (tl.map Value.string) st)(U:tl.length<=1000000)(K J I:Nat):
 BQ prog 48 #[.string x.key,.pointer (some ⟨x.b,0,none⟩),I1 K,I1 J,I1 I] [[(K,.cells #[tv] 45 (0,0))],[(J,.cells #[I0 p,.slice qa cs.length cap] 26 (0,0))],[(I,.cells #[.pointer (some ⟨c.cp,0,none⟩)] 36 (0,0))],st,[(c.cp,.cells d.A92 116 (0,0))],d.sW,d.z.S,[(d.mb,.map d.esP d.ckP)],d.su,[(d.ip,.cells #[.map (some d.mq),d.lv] 166 (0,0))],[(d.mq,.map d.esQ d.ckQ)],d.ML,[(d.mi,.map d.esI d.ckI)],[(d.mkb,.map d.esK d.ckK)],d.SI,d.M,d.MR,ME] (fun v H'=>v=undef/\∃(d2:CZ) (m:A2) (g:List A8),H9 c d2 cs p W' M1 (ids++[x.id]) (tl++[x.key])/\Row 9 m ((tl++[x.key]).map Value.string) g/\H'=[[(K,.cells #[m] 45 (0,0))],[(J,.cells #[I0 p,.slice qa cs.length cap] 26 (0,0))],[(I,.cells #[.pointer (some ⟨c.cp,0,none⟩)] 36 (0,0))],g,[(c.cp,.cells d2.A92 116 (0,0))],d2.sW,d2.z.S,[(d2.mb,.map d2.esP d2.ckP)],d2.su,[(d2.ip,.cells #[.map (some d2.mq),d2.lv] 166 (0,0))],[(d2.mq,.map d2.esQ d2.ckQ)],d2.ML,[(d2.mi,.map d2.esI d2.ckI)],[(d2.mkb,.map d2.esK d2.ckK)],d2.SI,d2.M,d2.MR,ME]):=by
 rw [<-h.cp];have X:=h.next_it hc.tookb hx G
 have hl:x.live d.MR:=by
  have B:=(hc.all x hx).live hc.tookb;exact ⟨B.q,B.rw.mono h.MR,B.wn,B.wv⟩
 cases hok:(Be x.q x.res cs).2.2 with
 |true=>
  refine (o5 h.okb X hl p hC O hok hT U K J I).mono ?_;rintro v H' ⟨B,wq,wc,m,g,s,h2,Z,h4,rfl⟩;exact ⟨B,_,m,g,A06 h hc.tookb h4 hx hb G hok Z,h2,V⟩
 |false=>
  refine (o6 h.okb X hl p hC O hok hT U K J I).mono ?_;rintro v H' ⟨B,d2,m,g,h2,Z,h4,h5,_,h6,h7,h8,rfl⟩;exact ⟨B,d2,m,g,A08 h hc.tookb hx hb G hok h2 Z h4 h5 h6 h7,h8,by rw [Z.cp]⟩
theorem RX{l:List α}(hn:l.Nodup){x:α}(h:l[i]?=some x):x∉l.take i:=fun g=>by
 have h2:l=l.take i++x::l.drop (i+1):=by
  obtain ⟨m,B⟩:=C6.1 h;rw [<-B,<-RT m,MA]
 rw [h2,HN]at hn;exact hn.2.2 x g x (Fo ..) V
theorem aX(h:c.ok)(hC:CE ME (.slice qa cs.length cap) cs)(hR:Dq p cs)(hp:p=c.pos+1):BQ prog 11 #[.pointer (some ⟨c.cp,0,none⟩),.agg #[I0 p,.slice qa cs.length cap]] [[(c.cp,.cells c.A92 116 (0,0))],c.sW,c.z.S,[(c.mb,.map c.esP c.ckP)],c.su,[(c.ip,.cells #[.map (some c.mq),c.lv] 166 (0,0))],[(c.mq,.map c.esQ c.ckQ)],c.ML,[(c.mi,.map c.esI c.ckI)],[(c.mkb,.map c.esK c.ckK)],c.SI,c.M,c.MR,ME] (fun r H'=>∃(d:CZ) (q2:B8) (cap2:Nat) (zs:List C4) (tv:A2) (s sM:List A8),r= .tuple #[tv,I0 0]/\GH c d p cs q2 cap2 zs/\d.M=sM++c.M/\Row 9 tv (zs.map Value.string) s/\H'=[[(d.cp,.cells d.A92 116 (0,0))],d.sW,d.z.S,[(d.mb,.map d.esP d.ckP)],d.su,[(d.ip,.cells #[.map (some d.mq),d.lv] 166 (0,0))],[(d.mq,.map d.esQ d.ckQ)],d.ML,[(d.mi,.map d.esI d.ckI)],[(d.mkb,.map d.esK d.ckK)],d.SI,d.M,d.MR,ME,s]):=by
 have zl:=mL;obtain ⟨p9,y5,e9,zm,zf⟩:=id hC;injection e9 with e91 e92 e93
 subst e91 e93;have zt:=h.pos
 have zq:=hR.pos;have zb:=hR.len
 have FT:=h.wl;have zu:=Ez h.win
 have j3:∀ch∈cs,ch.ok:=fun ch ax=>by
  obtain ⟨i,hi⟩:=HK ax;exact hR.all i ch hi
 have sw:∀x∈c.its.map ItM.iq,BG x.2:=fun y hy=>by
  obtain ⟨x,hx,rfl⟩:=CM.1 hy;exact h.its.q x hx
 have sj:(c.its.map ItM.iq).length<=500:=by rw [Bm];exact h.its.len
 refine Ct func11 V ntmps11 V ?_;intro u R;refine Zb [0,1] ?_;refine A3<|Ze (Bx #[_])<|AF fun bc=>Ze (Bx #[I0 p,.slice qa cs.length cap])<|AF fun br=>Za Y<|D2 Y<|AP<|A3<|Zl Lz Y ?_;refine Zv (BZ Iv Y Y)<|AH Y<|AY Y (fun ic=>by cases ic)<|fun ic=>Zq<|Aw (n:=14) (0::1::3::7::15::31::15::79::207::463::975::2047::4095::8191::[]) 2 AD AD V<|GB 0 V Wh (AA (cs:=#[_,_]) Hh Fi Y B9 (Au V)) ?_;refine Yw 1 3 V (Zu [_] Y call45 Y V (M7 p qa cap cs ME hC)) ?_;rintro _ _ ⟨rfl,rfl⟩;rw [DO hR];refine A1 2 V (Bh Y)<|A1 3 V (AQ Y)<|Cb (t:=19) Y (fun g1=>?_) (fun g1=>?_);·
  rw [g1];cases g1
 rw [g1];refine B5 4 V (AB (off:=0) GF V rfl A6 Y)<|Fk 5 V Wh (BL AE Y B2) ?_;refine Fk 6 V Wh (BL Lz Y B2) ?_;refine B5 7 V (Aq Y V)<|B5 8 V (AB (off:=0) Ge V rfl A6 Y)<|Fk 9 V Wh (BL AE Y B2) ?_
 (refine B5 10 rfl (JX Y Y (IntWalk.i64_in _ ?_)) ?_;(focus (omega)))
 refine B5 11 V (GK Y Y)<|A1 12 V (AO Y Y)<|A1 13 V (BI Y)<|Ao<|Zn [2,3,15] ?_;refine Zx<|Ap Y (fun h3=>by omega)<|fun h3=>AC<|A9<|CD<|Zl Lz Y ?_;refine Zh 0 GF V rfl A6 Y<|Zl AE Y ?_;refine Zp Y V<|Zh 0 Ge V rfl A6 Y<|Xe (Zs A6 Y Y V) ?_;refine A5<|Zq<|Aw (n:=12) (0::0::2::6::14::0::32::96::254::511::1023::2047::[]) 2496 AD AD V<|Bk 0 V Lz Y ?_;refine Bk 1 V Lz Y ?_;refine A1 2 V (Aq Y V)<|A1 3 V (AB (off:=1) Ge V rfl N4 Y)<|Bk 4 V SU Y ?_;refine GB 5 V Wh (AA (cs:=#[_,_]) Hh Fi Y B9 (Au V)) ?_;refine Zz (l:=[6])<|C0 [false,true,true,true] [(4,(_,_)),(1,(_,_)),(0,(_,_))] V rfl (Zw [_] Y call46 Y V (QU p hC A0)) ?_ Bz Am;rintro _ _ ⟨_,⟨q2,cap2,s2,rfl,gq,_,rfl⟩,rfl⟩;refine CA<|Yz 7 96 255 [4,1,0] [true,true,true] [(4,(_,_)),(1,(_,_)),(0,(_,_))] V Y V rfl V rfl (Ah (vs:=[_]) (cs:=[_,_]) HA Fi Tl Y V rfl V rfl V)<|AF fun gb=>CA<|Yz 8 254 511 [4,1,0] [false,false,true] [(0,(_,_))] V Y V rfl V rfl (BS (by_:=32) (sz:=2) HA (V:Tryz.prog.info? 26=some Tryz.t26) V rfl V rfl Y (h.win) Y (Dn 2 gb 1 1 26 (0,0) [I0 p,.slice q2 cs.length cap2] V) Wo Wo HQ A0 A0) ?_;rintro _ _ ⟨J,Z,rfl⟩;refine ⟨Zk (Ac),?_⟩;obtain ⟨U,K,rfl⟩:=Z.form;refine A1 9 V (Aq Y V)<|A1 10 V (AB (off:=1) Ge V rfl N4 Y)<|Zz (l:=[11])<|C0 [false] [] V rfl (Zs N4 Y Y V (hi:=by(simp;done))) ?_ (fun _ _ h=>h.elim) Am;rintro _ _ ⟨rfl,rfl⟩;refine CA<|Ao<|Zn [2,3] ?_;refine Zx ?_;have X:=Bb Z (n':=(c.win++[(⟨p,q2,cap2,cs⟩:BJ)]).length) (xs':=Dy (c.win++[(⟨p,q2,cap2,cs⟩:BJ)])) (by rw [C2];rfl) (by rw [KU];rfl)
 have B:(c.win++[(⟨p,q2,cap2,cs⟩:BJ)]).length=c.win.length+1:=by rw [C2];rfl
 refine CK (s1:=s2) (s2:=c.M) Wo Wo ?_;refine Zb [2,3] ?_;refine Ch (e0:=[]) (H0:=[[(c.cp,.cells #[I0 p,.slice U (c.win.length+1) K,.pointer (some ⟨c.z.r,0,none⟩),.pointer (some ⟨c.ip,0,none⟩),.map (some c.mi),.map (some c.mkb),I0 c.next] 116 (0,0))],J,(s2++c.M)]) (fun e H=>∃(W:List BJ) (wq:B8) (wc:Nat) (sW s0:List A8),(Iy c.win W ⟨p,q2,cap2,cs⟩/\BX 2 26 (.slice wq W.length wc) W.length (Dy W) sW)/\e=[]/\H=[[(c.cp,.cells #[I0 p,.slice wq W.length wc,.pointer (some ⟨c.z.r,0,none⟩),.pointer (some ⟨c.ip,0,none⟩),.map (some c.mi),.map (some c.mkb),I0 c.next] 116 (0,0))],sW,(s0++(s2++c.M))]) Wp ?hx_6 ?hy_6
 case hx_6=>
  refine A3<|Zl Lz Y ?_;refine Zp Y V<|Zh 1 Ge V rfl N4 Y<|Zl SU Y ?_;refine Zv (AR HA Y)<|Zv (Df (n:=64) Y Y)<|A5<|Ap Y (fun h6=>?_) (fun h6=>?_);·
   have l9:EQ (J++(s2++c.M)) (.slice U (c.win.length+1) K) (c.win++[(⟨p,q2,cap2,cs⟩:BJ)]):=by
    rw [B]at X;rw [<-B];refine Jv (by rw [B];exact X) A0 fun r hr=>?_;rcases CI.1 hr with hr|hr
    · obtain ⟨i,hi⟩:=HK hr
      exact H6 (h.wp i r hi).2.1 s2
    · rw [CH.1 hr];exact Jd gq c.M
   have o8:EQ (J++(s2++c.M)) (.slice (Eb U 1 K 2) c.win.length (K -1)) ((c.win++[(⟨p,q2,cap2,cs⟩:BJ)]).drop 1):=by
    rw [<-B]at l9;have h9:=NQ (a:=1) l9 A0
    rwa [B,Ss]at h9
   refine CK (s1:=J) (s2:=(s2++c.M)) Wo Wo ?_;refine Aw (n:=10) (0::0::2::6::14::30::62::127::255::511::[]) 576 AD AD V<|Bk 0 V Lz Y ?_;refine Bk 1 V Lz Y ?_;refine A1 2 V (Aq Y V)<|A1 3 V (AB (off:=1) Ge V rfl N4 Y)<|Bk 4 V SU Y ?_;refine A1 5 rfl (Bw (l:=1) HA Fi Y Y A0)<|Zz (l:=[6])<|C0 [false,false,true] [(0,(_,_))] rfl rfl (Zw [_] Y call47 Y rfl (Jj o8 (by rw [D0];omega))) ?_ Bz Am;rintro _ _ ⟨_,⟨sR,l8,rfl⟩,rfl⟩;refine ⟨Zk (Ac),?_⟩;obtain ⟨gR,cR,rfl⟩:=l8.form;refine A1 7 V (Aq Y V)<|A1 8 V (AB (off:=1) Ge V rfl N4 Y)<|Zz (l:=[9])<|C0 [false] [] V rfl (Zs N4 Y Y V (hi:=by(simp;done))) ?_ (fun _ _ h=>h.elim) Am;rintro _ _ ⟨rfl,rfl⟩;refine CA<|Ao<|Hx (by exact ⟨(c.win++[(⟨p,q2,cap2,cs⟩:BJ)]).drop 1,gR,cR,sR,J,⟨.inr ⟨V,by omega⟩,l8⟩,V,V⟩)
  refine AC<|HM (e:=[]) (h:=by exact ⟨c.win++[(⟨p,q2,cap2,cs⟩:BJ)],U,K,J,[],⟨.inl ⟨rfl,by omega⟩,by rw [B]at X⊢;exact X⟩,rfl,by rw [B]⟩)
 rintro _ _ ⟨W,wq,wc,sW,s0,⟨gy,sD⟩,rfl,rfl⟩;refine A3<|Ze (Al dv #[_])<|AF fun bt=>A5<|A3<|Zv (Bg (vs:=[]) (us:=[_,_,_]) Y Y)<|D2 Y<|Zq<|Aw (n:=8) (0::1::3::7::0::31::63::0::[]) 32 AD AD V<|Bk 0 V Lz Y ?_;refine A1 1 V (Aq Y V)<|A1 2 V (AB (off:=3) Ge V rfl sizeOf112 Y)<|Bk 3 V isAgg112 Y ?_;refine GB 4 V Wh (AA (cs:=#[_,_]) Hh Fi Y B9 (Au V)) ?_;refine A1 7 V (AQ Y)<|Zz (l:=[5])<|C0 [false,false,false] [] V rfl (Zw [_,_] Y call50 Y V (eY h.its.idx sw sj h.its.ist p (MC:=ME) hC A0 j3)) ?_ Bz Am;rintro _ _ ⟨_,⟨zi,sz,lv2,ML2,ow,wo,Gl,ek,o9,rfl⟩,rfl⟩;refine ⟨Ac,?_⟩;obtain ⟨pk,ck,rfl⟩:=ek.form;simp only [Bm];rw [Bm]at ek;refine A1 6 V (AR DS Y)<|Ao<|Zx<|AP<|Bc<|Zb [68,2,3,6,7,66,67] ?_;refine Ay (e0:=[(68,_)]) (fun m e H=>∃(k:Nat) (d:CZ) (tl:List C4) (tv:A2) (st:List A8),m=zi.length -k/\(k<=zi.length/\H9 c d cs p W (s0++(s2++c.M)) (zi.take k) tl/\Row 9 tv (tl.map Value.string) st)/\e=[(68,I0 (k:Int))]/\H=[[(c.cp,.cells d.A92 116 (0,0))],d.sW,d.z.S,[(d.mb,.map d.esP d.ckP)],d.su,[(d.ip,.cells #[.map (some d.mq),d.lv] 166 (0,0))],[(d.mq,.map d.esQ d.ckQ)],d.ML,[(d.mi,.map d.esI d.ckI)],[(d.mkb,.map d.esK d.ckK)],d.SI,d.M,d.MR,[(bt,.cells #[tv] 45 (0,0))],st]) (by exact ⟨0,({c with pos:=p,wq:=wq,wc:=wc,win:=W,sW:=sW,lv:=lv2,ML:=ML2,M:=s0++(s2++c.M)}:CZ),[],.slice none 0 0,[],rfl,⟨C7 _,by rw [MT];exact vO h.tookb gy sD hp hR (fun q hq=>HC _ (HC _ hq)) (H6 (Jd gq c.M) s0) o9,IB _⟩,rfl,rfl⟩) Wp ?_;rintro _ _ _ ⟨k,d,tl,tv,st,rfl,⟨hk,g,hT⟩,rfl,rfl⟩;refine A3<|Zv (Ar Y Y)<|A5<|Zq<|Ap Y (fun bn=>?_) (fun bn=>?_);·
  obtain ⟨i9,O⟩:∃i,zi[k]?=some i:=⟨_,BE A0⟩;obtain ⟨y9,vz,cO,yt⟩:=(ow i9).1 (E7 O);obtain ⟨x,hx,rfl⟩:=CM.1 vz;replace cO:x.id=i9:=cO;subst cO;have l5:x.id∉zi.take k:=RX wo O
  have cu:=g.next_it h.tookb hx l5;have kv:=g.okb.its.get cu
  have qy:EL x.id d.lmK=some (.string x.key):=Cw g.okb.its.km.keys ((g.okb.its.kmem _).2 ⟨x,cu,rfl⟩);have ax:(x.b,Obj.cells x.A91 127 (0,0))∈d.SI:=g.okb.its.sub x cu
  have ve:tl.length<=500:=On (Od g.t2 fun a ha=>by
   obtain ⟨w,hw,rfl,_⟩:=(g.t1 a).1 ha;exact Ek hw) (by rw [Bm];exact h.its.len)
  rcases ek with⟨_,h0,_⟩|⟨gk,capk,curk,zk,hvk,rfl,hlek,hcmk,hcsk,htkk,hfrk⟩
  · simp at h0;subst h0;simp at bn
  injection hvk with hv1 hv2 hv3
  subst hv1 hv3;have pz:curk[k]?=some (I0 x.id):=by
   have h:=congrArg (fun l=>l[k]?) htkk;simp only [HU,Bm,B0 bn,FF,O]at h;simpa using h
  refine B4<|Zq<|AP<|A3<|Ba (Bd DS A6 Y Y (by first|omega|decide|(simp;done)|(simp;omega)))<|Zl AE Y (hv:=by exact pz) ?_;refine AH Y<|A3<|Zl Lz Y ?_;refine Zp Y V<|Zh 5 Ge V rfl sizeOf87 Y<|Zl isAgg87 Y ?_;refine Zm Y<|Zo Wh (De (Cc D3 (D:=fun _=>True)) er Ks g.okb.its.km (fun _ _=>trivial) (trivial) (by rw [qy];first|done|rfl) Y Y) ?_;refine D2 Y<|Aw (n:=13) (0::1::3::7::0::31::63::127::255::511::0::1024::4095::[]) 0 AD AD V<|Bk 0 V Lz Y ?_;refine A1 1 V (Aq Y V)<|A1 2 V (AB (off:=4) Ge V rfl SO Y)<|Bk 3 V RR Y ?_;refine A1 4 rfl (AQ Y)<|GB 5 rfl Wh (De (Dx HO (D:=fun _=>True)) SM Wg g.okb.its.im (fun _ _=>trivial) (trivial) (by rw [kv];first|done|rfl) Y Y) ?_;refine A1 6 V (Aq Y V)<|A1 7 V (AB (off:=0) Ln V rfl G2 Y)<|A1 8 V (Ai (off:=8) G4 V rfl A6 Y)<|CS (D':=1023) 9 V rfl V (Eg Wo (ax)) (BL AE Y B2) ?_;refine A1 10 V (AB (off:=0) GF V rfl A6 Y)<|Bk 11 V AE Y ?_;refine A1 12 V (Dz Y Y)<|Ao<|Zn [2,3,6,7,10,66,67,68,90] ?_;refine Zx<|Ap Y (fun af=>?_) (fun af=>?_);·
   refine Zg<|Zm Y<|Zm Y<|Zl Lz Y ?_;refine Zp Y V<|Zh 4 Ge V rfl SO Y<|Zl RR Y ?_;refine Zm Y<|Zo Wh (De (Dx HO (D:=fun _=>True)) SM Wg g.okb.its.im (fun _ _=>trivial) (trivial) (by rw [kv];first|done|rfl) Y Y) ?_;refine Zc [_,_] Y call48 Y V (iB g h hC A0 hx af l5 hT A0 bt br bc) ?_;rintro _ _ ⟨_,⟨rfl,d2,x9,wz,gm,pq,rfl⟩,rfl⟩;refine Z0<|A9<|Zx<|E6 Y Y Y<|DM (e:=[(68,_)]) (h:=by exact ⟨k+1,d2,tl++[x.key],x9,wz,rfl,⟨by omega,by rw [Bq O];exact gm,pq⟩,rfl,rfl⟩)
  refine AC<|A9<|Zx<|E6 Y Y Y<|DM (e:=[(68,_)]) (h:=by exact ⟨k+1,d,tl,tv,st,rfl,⟨by omega,by rw [Bq O];exact vM g h.tookb hx af,hT⟩,rfl,rfl⟩)
 obtain rfl:k=zi.length:=by omega
 rw [HI]at g;have ve:tl.length<=500:=On (Od g.t2 fun a ha=>by
  obtain ⟨w,hw,rfl,_⟩:=(g.t1 a).1 ha;exact Ek hw) (by rw [Bm];exact h.its.len)
 refine BB<|Zt<|Zt<|AV<|Zx<|Zq<|Zq ?_;rw [<-g.cp];refine Zg<|Zl Lz Y ?_;refine Zc [_] Y call51 Y V (bR d) ?_;rintro _ _ ⟨_,⟨bs,rfl,rfl⟩,rfl⟩;refine A5<|AP<|Zb [2,6,102] ?_;refine Iu (H0:=_) (R:=_) (I:=(fun(pre:List C4) H=>∃d2:CZ,JG d d2 pre/\H=[[(d.cp,.cells d2.A92 116 (0,0))],d2.sW,d2.z.S,[(d2.mb,.map d2.esP d2.ckP)],d2.su,[(d2.ip,.cells #[.map (some d2.mq),d2.lv] 166 (0,0))],[(d2.mq,.map d2.esQ d2.ckQ)],d2.ML,[(d2.mi,.map d2.esI d2.ckI)],[(d2.mkb,.map d2.esK d2.ckK)],d2.SI,d2.M,d2.MR,[(bc,.cells #[.pointer (some ⟨d.cp,0,none⟩)] 36 (0,0))]])) (E:=fun x e Hn=>e=[(11,.string x),(103,.string x)]/\Hn=[]) rfl Y call104 (bT g.okb bs) (fun pre H1 c9 d9 h9=>by obtain ⟨d2,G,rfl⟩:=h9;exact ⟨d2,G.okb,G.like.cp,G.mi,G.like.pos,G.its,by rw [G.like.cp];simp,by simp,fun q hq=>by simp [hq]⟩) Y rfl Wp (⟨d,Ra g.okb,rfl⟩) ?ha_16 ?hbd_16 ?hk_16
 case ha_16=>
  intro _ x _ _;refine Zg<|B1 Y<|Lh (e:=[(11,_),(103,_)]) (Hn:=[]) ?_;exact ⟨V,V⟩
 case hbd_16=>
  intro l pre x u e9 za H1 R1 r9 vw hI p8;obtain ⟨rfl,rfl⟩:=p8;obtain ⟨d2,G,rfl⟩:=hI;obtain ⟨x2,vo,rfl⟩:=bS G g.okb vw;rw [<-G.like.cp];refine AP<|Zg<|Zl Lz Y ?_;refine Zm Y<|Zc [_,_] Y call20 Y V (gH G.okb vo) ?_;rintro _ _ ⟨_,⟨rfl,d3,q9,j5,qb,qj,_,ql,qo,qw,rfl⟩,rfl⟩;rw [j5.cp];refine Z0<|A9<|Fq V (by exact ⟨d3,RZ G q9 j5 qb qj ql qo qw,V⟩)
 intro D1 ys H2 qx pg;obtain ⟨d2,G,rfl⟩:=pg;rw [<-G.like.cp];refine Zn [6] ?_;refine A9<|CD<|Zl KK Y ?_;refine Zc [_] Y call52 Y V (Re hT A0) ?_;rintro _ _ ⟨_,⟨zs,s3,rfl,qz,sO,sJ,rfl⟩,rfl⟩;refine A5<|A3<|Zl KK Y ?_;refine Za Y<|Ax Y<|Gv V (dD results11 Y Y) Wo (by exact ⟨d2,q2,cap2,zs,tv,s3,s0++s2,V,vN h hR hp gy g (fun q hq=>HC _ (HC _ hq)) ow G qx qz sO,G.M.1.trans (g.M.trans (DG _ _ _).symm),sJ,V⟩)
theorem tY:GL [] 0 #[] 0 [] (.pointer none) [] #[] 0 [] #[] 0 [] []:=⟨mO,.inl ⟨rfl,rfl⟩,EX _,fun p=>by simp,EX _,fun p=>by simp,oB,fun x hx=>by simp at hx,by decide,by decide,fun x hx=>by simp at hx,fun x hx=>by simp at hx⟩
theorem ui(h:d.okb)(hi:d.its=[])(pos:Int)(m:0<=pos/\pos<=10000):({d with pos:=pos,wq:=none,wc:=0,win:=[],sW:=[]}:CZ).ok:=
 ⟨⟨m,Bi 2 _,C7 _,fun i r B=>by simp at B,h.pool,h.pk,h.its,h.tns⟩,fun x hx=>by have g:x∈d.its:=hx;rw [hi]at g;simp at g⟩
theorem CZ.okb.noPL(h:c.okb)(hi:c.its=[]):c.PL=[]:=by
 cases hP:c.PL with
 |nil=>rfl
 |cons e l=>
  have g:=(h.pk e.key).1 (by rw [hP];simp);rw [hi]at g;simp at g
variable{v:A2}{sh:List Int}{ss:List A8}
theorem nS(O:Row 3 v (sh.map (Value.int .i64)) ss)(pos cap:Int)(K:0<=pos/\pos<=10000)(hc:1<=cap/\cap<=1000000)(U:1<=sh.length/\sh.length<=8)(h0:∀x∈sh,0<=x)(J:sh.sum<=cap):BQ prog 8 #[I0 pos,I0 cap,v] [ss] (fun r H'=>∃c:CZ,r= .tuple #[.pointer (some ⟨c.cp,0,none⟩),I0 0]/\c.ok/\(c.its=[]/\c.PL=[]/\c.win=[])/\c.pos=pos/\c.next=0/\c.ns=sh.length/\c.z.cap=cap/\U5 c.M c.z.sh sh/\H'=[[(c.cp,.cells c.A92 116 (0,0))],c.sW,c.z.S,[(c.mb,.map c.esP c.ckP)],c.su,[(c.ip,.cells #[.map (some c.mq),c.lv] 166 (0,0))],[(c.mq,.map c.esQ c.ckQ)],c.ML,[(c.mi,.map c.esI c.ckI)],[(c.mkb,.map c.esK c.ckK)],c.SI,c.M,c.MR,ss]):=by
 refine Se func8 ntmps8 [0,1,2] ?_;intro u R;refine A3<|Za Y<|AH Y<|B7 Y<|Xr [_] Y call35 Y V (Hw pos) ?_;rw [DO K];refine Zv (Bh Y)<|A5<|AY Y (fun m=>by cases m)<|fun m=>B4<|AN Y<|Zm Y<|Zc [_,_] Y call36 Y V (lN O cap hc U h0 J) ?_;rintro _ _ ⟨_,⟨z,mb,su,sc,rfl,⟨G,I⟩,g,rfl⟩,rfl⟩;refine Zm Y<|Zd Y V<|Zd Y V<|Za Y<|B1 Y<|Zn [0,8,9] ?_;refine Zx<|B7 Y<|Zv (Dr (n:=0) Y Y)<|A5<|Ap Y (fun B=>?_) (fun B=>?_);·
  exfalso;exact B rfl
 refine B4<|Zq<|Bc<|Bc<|Bc<|Bc<|Zg<|Zm Y<|Zm Y<|Zc [] Y call37 Y V (jX) ?_;rintro _ _ ⟨_,⟨ip,mq,rfl,rfl⟩,rfl⟩;refine Ze (DK)<|AF fun mi=>Ze (DK)<|AF fun mkb=>Zv (BM (vs:=[(0,_),(2,_),(3,_),(4,_),(5,_)]) (cs:=#[_,_,_,_,_,_,_]) Y (Aa (pl:=#[(0,1),(1,1),(2,1),(3,1),(4,1),(5,1),(6,1)]) zeroValue116 Ge (fun _=>by kernel_rfl) V))<|Ze (Bx #[_,_,_,_,_,_,_])<|AF fun cp=>Za Y<|Ax Y<|Di V results8 Y Y (by refine ⟨({cp:=cp,pos:=pos,wq:=none,wc:=0,win:=[],sW:=[],z:=z,ns:=sh.length,PL:=[],mb:=mb,esP:=#[],ckP:=0,lmP:=[],su:=su,ip:=ip,mq:=mq,mi:=mi,mkb:=mkb,next:=0,its:=[],esQ:=#[],ckQ:=0,lmQ:=[],lv:= .pointer none,ML:=[],esI:=#[],ckI:=0,lmI:=[],esK:=#[],ckK:=0,lmK:=[],SI:=[],M:=sc,MR:=[]}:CZ),V,⟨⟨K,Bi 2 _,by simp,fun i r X=>by simp at X,g,fun k=>by simp,tY,fun x hx=>by simp at hx⟩,fun x hx=>by simp at hx⟩,⟨V,V,V⟩,V,V,V,G,I,V⟩)
theorem ul(pos:Int)(cap:Int)(v:A2)(m:¬(0<=pos/\pos<=10000)):Az prog 8 #[I0 pos,I0 cap,v] [] (.tuple #[.pointer none,I0 180]):=by
 refine Se func8 ntmps8 [0,1,2] ?_;intro u R;refine A3<|Za Y<|AH Y<|B7 Y<|Xr [_] Y call35 Y V (Hw pos) ?_;rw [F0 m];refine Zv (Bh Y)<|A5<|AY Y (fun g=>?_) (fun g=>?_);·
  refine A3<|Za Y<|Ax Y<|Zt<|Di V results8 Y Y (by exact ⟨V,V⟩)
 cases g
theorem dC(h:c.ok)(pos:Int)(hp:0<=pos/\pos<=10000):BQ prog 18 #[.pointer (some ⟨c.cp,0,none⟩),I0 pos] [[(c.cp,.cells c.A92 116 (0,0))],c.sW,c.z.S,[(c.mb,.map c.esP c.ckP)],c.su,[(c.ip,.cells #[.map (some c.mq),c.lv] 166 (0,0))],[(c.mq,.map c.esQ c.ckQ)],c.ML,[(c.mi,.map c.esI c.ckI)],[(c.mkb,.map c.esK c.ckK)],c.SI,c.M,c.MR] (fun v H'=>v=undef/\∃d:CZ,d.ok/\d.cp=c.cp/\(d.its=[]/\d.PL=[]/\d.win=[])/\d.pos=pos/\d.next=c.next/\d.ns=c.ns/\d.z.cap=c.z.cap/\(d.z.cs=c.z.cs/\∀q∈c.M,q∈d.M)/\H'=[[(d.cp,.cells d.A92 116 (0,0))],d.sW,d.z.S,[(d.mb,.map d.esP d.ckP)],d.su,[(d.ip,.cells #[.map (some d.mq),d.lv] 166 (0,0))],[(d.mq,.map d.esQ d.ckQ)],d.ML,[(d.mi,.map d.esI d.ckI)],[(d.mkb,.map d.esK d.ckK)],d.SI,d.M,d.MR]):=by
 refine Se func18 ntmps18 [0,1] ?_;intro u R;refine B7 Y<|Zv (BZ Iv Y Y)<|Zm Y<|Ab (t:=8) Y V (fun g1=>by cases g1)<|fun g1=>Zf Y Y<|Xr [_] Y call35 Y V (Hw pos) ?_;rw [DO hp];refine Yg (Bh Y)<|BW Y Y<|A5<|AY Y (fun K=>by cases K)<|fun K=>B4<|B7 Y<|Zc [_] Y call22 Y V (Np h.tookb) ?_;rintro _ _ ⟨_,⟨zs,sk,B,gy,J,rfl⟩,rfl⟩;have gm:zs.Nodup:=B.nodup_iff.2 h.its.keys
 have ek:=B.length_eq;rw [Bm]at ek;have gq:=h.its.len
 obtain ⟨pk,ck,rfl⟩:=J.form;simp only [Bm];rw [Bm]at J;refine Zv (AR Dd Y)<|Zm Y<|A5<|AP<|Zb [16,0,1,14,15] ?_;refine Ay (e0:=[(16,_)]) (fun m e H=>∃(i:Nat) (d:CZ),m=zs.length -i/\(i<=zs.length/\JG c d (zs.take i))/\e=[(16,I0 (i:Int))]/\H=[[(c.cp,.cells d.A92 116 (0,0))],d.sW,d.z.S,[(d.mb,.map d.esP d.ckP)],d.su,[(d.ip,.cells #[.map (some d.mq),d.lv] 166 (0,0))],[(d.mq,.map d.esQ d.ckQ)],d.ML,[(d.mi,.map d.esI d.ckI)],[(d.mkb,.map d.esK d.ckK)],d.SI,d.M,d.MR]) (by exact ⟨0,c,rfl,⟨C7 _,by rw [MT];exact Ra h.tookb⟩,rfl,rfl⟩) Wp ?_;rintro _ _ _ ⟨i,d,rfl,⟨hi,g⟩,rfl,rfl⟩;refine A3<|Zv (Ar Y Y)<|A5<|Zq<|Ap Y (fun I=>?_) (fun I=>?_);·
  obtain ⟨k,U⟩:∃k,zs[i]?=some k:=⟨_,BE A0⟩;obtain ⟨x,hx,rfl⟩:=CM.1 (B.mem_iff.1 (E7 U));have d9:x∈d.its:=(g.its x).2 ⟨hx,RX gm U⟩
  rcases J with⟨_,h0,_⟩|⟨gk,capk,curk,zk,hvk,rfl,hlek,hcmk,hcsk,htkk,hfrk⟩
  · simp at h0;subst h0;simp at I
  injection hvk with hv1 hv2 hv3
  subst hv1 hv3;have X:curk[i]?=some (.string x.key):=by
   have h:=congrArg (fun l=>l[i]?) htkk;simp only [HU,Bm,B0 I,FF,U]at h;simpa using h
  refine B4<|Zq<|AP<|A3<|Ba (Bd Dd HD Y Y PC)<|Zl Kx Y (hv:=by exact X)<|B1 Y<|Zx ?_;rw [<-g.like.cp];refine Zg<|Zm Y<|Zm Y<|Zc [_,_] Y call20 Y V (gH g.okb d9) ?_;rintro _ _ ⟨_,⟨rfl,d3,Z,O,af,ax,_,bn,cu,cO,rfl⟩,rfl⟩;rw [O.cp,g.like.cp];refine Z0<|A9<|Zx<|E6 Y Y Y<|DM (e:=[(16,_)]) (h:=by exact ⟨i+1,d3,rfl,⟨by omega,by rw [Bq U];exact RZ g Z O af ax bn cu cO⟩,rfl,rfl⟩)
 obtain rfl:i=zs.length:=by omega
 rw [HI]at g;have G:d.its=[]:=mu.2 fun y hy=>by
  obtain ⟨h1,h2⟩:=(g.its y).1 hy;exact h2 (B.mem_iff.2 (Ek h1))
 refine BB<|Zt<|Zt<|AV<|Zx ?_;rw [<-g.like.cp];refine Bc<|Zg<|Zm Y<|Zm Y<|Zm Y<|Zp Y rfl<|Zh 0 Ge rfl rfl A6 Y<|Xe (Zs A6 Y Y rfl (hi:=by(simp;done)))<|Zp Y rfl<|Zh 1 Ge rfl rfl N4 Y<|Xe (Zs N4 Y Y rfl (hi:=by(simp;done)))<|Z0<|D6 rfl results18 (by exact ⟨rfl,({d with pos:=pos,wq:=none,wc:=0,win:=[],sW:=[]}:CZ),ui g.okb G pos hp,rfl,⟨G,g.okb.noPL G,rfl⟩,rfl,g.next,g.like.ns,g.like.cap,⟨g.like.sc,fun q hq=>by show q∈d.M;rw [g.M.1];exact hq⟩,rfl⟩)
theorem aY(h:c.okb)(G:CE ME (.slice qa cs.length cap) cs)(J:¬Dq p cs):Az prog 11 #[.pointer (some ⟨c.cp,0,none⟩),.agg #[I0 p,.slice qa cs.length cap]] [[(c.cp,.cells c.A92 116 (0,0))],ME] (.tuple #[.slice none 0 0,I0 180]):=by
 have O:=mL;obtain ⟨p9,B,I,U,K⟩:=id G;injection I with e91 e92 e93
 subst e91 e93;refine Ct func11 V ntmps11 V ?_;intro u R;refine Zb [0,1] ?_;refine A3<|Ze (Bx #[_])<|AF fun X=>Ze (Bx #[I0 p,.slice qa cs.length cap])<|AF fun Z=>Za Y<|D2 Y<|AP<|A3<|Zl Lz Y<|Zv (BZ Iv Y Y)<|AH Y<|AY Y (fun g=>by cases g)<|fun g=>Zq<|Aw (n:=14) (0::1::3::7::15::31::15::79::207::463::975::2047::4095::8191::[]) 2 AD AD V<|GB 0 V Wh (AA (cs:=#[_,_]) Hh Fi Y B9 (Au V))<|Yw 1 3 V (Zu [_] Y call45 Y V (M7 p qa cap cs ME G)) ?_;rintro _ _ ⟨rfl,rfl⟩;rw [F0 J];refine A1 2 V (Bh Y)<|A1 3 V (AQ Y)<|Cb (t:=19) Y (fun m=>?_) (fun m=>?_);·
  rw [m];refine AW 4 V<|AW 5 V<|AW 6 V<|AW 7 V<|AW 8 V<|AW 9 V<|AW 10 V<|AW 11 V<|A1 12 V (AL Y Y)<|A1 13 V (BI Y)<|Ao<|Zn [2,3,15] ?_;refine Zx<|Cg Y<|A3<|Za Y<|Ax Y<|Ag<|Zt<|K8 V (dD results11 Y Y) (by exact ⟨V,V⟩)
 rw [m];cases m
theorem aZ(h:c.okb)(G:CE ME (.slice qa cs.length cap) cs)(K:Dq p cs)(hp:p≠c.pos+1):Az prog 11 #[.pointer (some ⟨c.cp,0,none⟩),.agg #[I0 p,.slice qa cs.length cap]] [[(c.cp,.cells c.A92 116 (0,0))],ME] (.tuple #[.slice none 0 0,I0 180]):=by
 have U:=mL;obtain ⟨p9,B,I,X,O⟩:=id G;injection I with e91 e92 e93
 subst e91 e93;refine Ct func11 V ntmps11 V ?_;intro u R;refine Zb [0,1] ?_;refine A3<|Ze (Bx #[_])<|AF fun Z=>Ze (Bx #[I0 p,.slice qa cs.length cap])<|AF fun b2=>Za Y<|D2 Y<|AP<|A3<|Zl Lz Y<|Zv (BZ Iv Y Y)<|AH Y<|AY Y (fun g=>by cases g)<|fun g=>Zq<|Aw (n:=14) (0::1::3::7::15::31::15::79::207::463::975::2047::4095::8191::[]) 2 AD AD V<|GB 0 V Wh (AA (cs:=#[_,_]) Hh Fi Y B9 (Au V))<|Yw 1 3 V (Zu [_] Y call45 Y V (M7 p qa cap cs ME G)) ?_;rintro _ _ ⟨rfl,rfl⟩;rw [DO K];refine A1 2 V (Bh Y)<|A1 3 V (AQ Y)<|Cb (t:=19) Y (fun m=>?_) (fun m=>?_);·
  rw [m];cases m
 rw [m];refine B5 4 V (AB (off:=0) GF V rfl A6 Y)<|Fk 5 V Wh (BL AE Y B2)<|Fk 6 V Wh (BL Lz Y B2)<|B5 7 V (Aq Y V)<|B5 8 V (AB (off:=0) Ge V rfl A6 Y)<|Fk 9 V Wh (BL AE Y B2)<|B5 10 V (JX Y Y (IntWalk.i64_in _ (by have:=h.pos;omega)))<|B5 11 V (GK Y Y)<|A1 12 V (AO Y Y)<|A1 13 V (BI Y)<|Ao<|Zn [2,3,15] ?_;refine Zx<|Ap Y (fun J=>?_) (fun J=>?_);·
  refine A3<|Za Y<|Ax Y<|Ag<|Zt<|K8 V (dD results11 Y Y) (by exact ⟨V,V⟩)
 exfalso;omega
theorem Gb{P:Program}{f:FuncId}{args:AM}{H H1:Hp}{r:A2}(h:Az P f args H r)(R:List A8)(g:H1.flatten.Perm (H.flatten++R)):Az P f args H1 r:=DR h R g (by
 rintro v H' ⟨rfl,rfl⟩;exact ⟨_,⟨V,V⟩,g⟩)
def CZ.mem(c:CZ):List A8:=([(c.cp,.cells c.A92 116 (0,0))]:List A8)++((c.sW:List A8)++((c.z.S:List A8)++(([(c.mb,.map c.esP c.ckP)]:List A8)++((c.su:List A8)++(([(c.ip,.cells #[.map (some c.mq),c.lv] 166 (0,0))]:List A8)++(([(c.mq,.map c.esQ c.ckQ)]:List A8)++((c.ML:List A8)++(([(c.mi,.map c.esI c.ckI)]:List A8)++(([(c.mkb,.map c.esK c.ckK)]:List A8)++((c.SI:List A8)++((c.M:List A8)++((c.MR:List A8)))))))))))))
theorem Wm(h:c.okb){B:Int}(J:∀e∈c.PL,e.sz<=B):c.z.cap -(c.its.length:Int)*B<=c.z.fr:=by
 have I:∀L:List Bp,(∀e∈L,e.sz<=B)->L6 L<=(L.length:Int)*B:=fun L=>by
  induction L with
  |nil=>intro _;simp [L6]
  |cons e l ih=>
   intro G;have h2:=ih fun x hx=>G x (G3 _ hx)
   have g:=G e (Fo ..);have m:L6 (e::l)=e.sz+L6 l:=by unfold L6;rw [F2,lB]
   rw [m,EV];push_cast;rw [Int.add_mul];omega
 have h2:(c.PL.map (·.key)).Perm (c.its.map ItM.key):=(Sh h.pool.keys h.its.keys).2 h.pk;have g:=h2.length_eq
 rw [Bm,Bm]at g;have m:=I c.PL J
 rw [g]at m;have K:=h.pool.free
 omega
def tB(c d:CZ)(q:QM)(tn base:Int)(L:List RP)(R:C8×Int×Bool)(b:Bool):Prop:=
 (b=false/\d=c/\¬((c.pos -base).toNat<=c.win.length/\R.2.2=true))\/
 (b=true/\((c.pos -base).toNat<=c.win.length/\R.2.2=true)/\(∀e∈d.PL,e∈c.PL\/e.sz=1+(R.1.rows.length:Int))/\
   ((d=c/\∃x∈c.its,x.key=str (Cs q)/\base<=x.base)\/
    ((∀x∈c.its,x.key=str (Cs q)->x.base<base)/\∃y:ItM,d.its=(c.its.filter fun x=>x.key≠str (Cs q))++[y]/\y.q=q/\y.base=base/\y.L=L/\y.res=R.1/\y.since=R.2.1/\((y.tn=tn/\∀x∈c.its,x.key≠str (Cs q))\/∃x∈c.its,x.key=str (Cs q)/\y.tn=x.tn))))
theorem zE(c:CZ):Az prog 21 #[.pointer (some ⟨c.cp,0,none⟩)] [c.mem] (I0 c.pos):=Gb (nP c) ((c.sW:List A8)++(c.z.S:List A8)++([(c.mb,.map c.esP c.ckP)]:List A8)++(c.su:List A8)++([(c.ip,.cells #[.map (some c.mq),c.lv] 166 (0,0))]:List A8)++([(c.mq,.map c.esQ c.ckQ)]:List A8)++(c.ML:List A8)++([(c.mi,.map c.esI c.ckI)]:List A8)++([(c.mkb,.map c.esK c.ckK)]:List A8)++(c.SI:List A8)++(c.M:List A8)++(c.MR:List A8)++[]) (Bt fun f g=>by simp only [Cp,GC,DQ,CZ.mem,CZ.A92,g]<;>omega)
variable{k:Nat}
theorem xp(h:c.okb)(m:k<c.ns):Az prog 23 #[.pointer (some ⟨c.cp,0,none⟩),I0 (k:Int)] [c.mem] (I0 (FW c.PL (k:Int))):=Gb (gL h m) ((c.sW:List A8)++([(c.ip,.cells #[.map (some c.mq),c.lv] 166 (0,0))]:List A8)++([(c.mq,.map c.esQ c.ckQ)]:List A8)++(c.ML:List A8)++([(c.mi,.map c.esI c.ckI)]:List A8)++([(c.mkb,.map c.esK c.ckK)]:List A8)++(c.SI:List A8)++(c.M:List A8)++(c.MR:List A8)++[]) (Bt fun f g=>by simp only [Cp,GC,DQ,CZ.mem,CZ.A92,g]<;>omega)
theorem mD(h:c.ok){K:C4}(g:∀y∈c.its,y.key≠K):Az prog 13 #[.pointer (some ⟨c.cp,0,none⟩),.string K] [c.mem] (.tuple #[.agg #[I0 0,I0 0,I0 0,I0 0,I0 0,I0 0,I0 0,I0 0,I0 0,.slice none 0 0],.bool false]):=Gb (aL h g) ((c.sW:List A8)++(c.z.S:List A8)++([(c.mb,.map c.esP c.ckP)]:List A8)++(c.su:List A8)++([(c.ip,.cells #[.map (some c.mq),c.lv] 166 (0,0))]:List A8)++([(c.mq,.map c.esQ c.ckQ)]:List A8)++(c.ML:List A8)++([(c.mkb,.map c.esK c.ckK)]:List A8)++(c.SI:List A8)++(c.M:List A8)++(c.MR:List A8)++[]) (Bt fun f m=>by simp only [Cp,GC,DQ,CZ.mem,CZ.A92,m]<;>omega)
theorem xc(h:c.ok){K:C4}(g:∀y∈c.its,y.key≠K):Az prog 12 #[.pointer (some ⟨c.cp,0,none⟩),.string K] [c.mem] (.tuple #[.agg #[I0 0,I0 0,I0 0,I0 0,I0 0,I0 0,I0 0,.slice none 0 0,I0 0,.bool false,I0 0,I0 0,I0 0,.slice none 0 0,.slice none 0 0],.bool false]):=Gb (v8 h g) ((c.sW:List A8)++(c.z.S:List A8)++([(c.mb,.map c.esP c.ckP)]:List A8)++(c.su:List A8)++([(c.ip,.cells #[.map (some c.mq),c.lv] 166 (0,0))]:List A8)++([(c.mq,.map c.esQ c.ckQ)]:List A8)++(c.ML:List A8)++([(c.mkb,.map c.esK c.ckK)]:List A8)++(c.SI:List A8)++(c.M:List A8)++(c.MR:List A8)++[]) (Bt fun f m=>by simp only [Cp,GC,DQ,CZ.mem,CZ.A92,m]<;>omega)
theorem lw(h:c.ok)(hx:x∈c.its)(g:c.pos<x.base):Az prog 12 #[.pointer (some ⟨c.cp,0,none⟩),.string x.key] [c.mem] (.tuple #[.agg #[I0 0,I0 0,I0 0,I0 0,I0 0,I0 0,I0 0,.slice none 0 0,I0 0,.bool false,I0 0,I0 0,I0 0,.slice none 0 0,.slice none 0 0],.bool false]):=Gb (uG h hx g) ((c.sW:List A8)++(c.z.S:List A8)++([(c.mb,.map c.esP c.ckP)]:List A8)++(c.su:List A8)++([(c.ip,.cells #[.map (some c.mq),c.lv] 166 (0,0))]:List A8)++([(c.mq,.map c.esQ c.ckQ)]:List A8)++(c.ML:List A8)++([(c.mkb,.map c.esK c.ckK)]:List A8)++(c.MR:List A8)++[]) (Bt fun f m=>by simp only [Cp,GC,DQ,CZ.mem,CZ.A92,m]<;>omega)
theorem fK(h:c.ok)(hx:x∈c.its):BQ prog 13 #[.pointer (some ⟨c.cp,0,none⟩),.string x.key] [c.mem] (fun r H'=>∃m g s,r= .tuple #[.agg #[I0 x.q.kd,I0 x.q.tb,I0 x.q.cl,I0 x.q.lo,I0 x.q.hi,I0 x.q.bq,I0 x.q.ot,I0 x.tn,I0 x.base,.slice m x.L.length g],.bool true]/\Ex s (.slice m x.L.length g) x.L/\CX s/\H'=[c.mem,s]):=DR (Tc h hx) ((c.sW:List A8)++(c.z.S:List A8)++([(c.mb,.map c.esP c.ckP)]:List A8)++(c.su:List A8)++([(c.ip,.cells #[.map (some c.mq),c.lv] 166 (0,0))]:List A8)++([(c.mq,.map c.esQ c.ckQ)]:List A8)++(c.ML:List A8)++([(c.mkb,.map c.esK c.ckK)]:List A8)++(c.MR:List A8)++[]) (Bt fun f B=>by simp only [Cp,GC,DQ,CZ.mem,CZ.A92,B]<;>omega) (by
 rintro r H' ⟨m,g,s,G,h2,I,rfl⟩;exact ⟨_,⟨m,g,s,G,h2,I,V⟩,Bt fun f B=>by simp only [Cp,GC,DQ,CZ.mem,CZ.A92,B]<;>omega⟩)
theorem Z4(h:c.ok)(hx:x∈c.its)(J:x.base<=c.pos):BQ prog 12 #[.pointer (some ⟨c.cp,0,none⟩),.string x.key] [c.mem] (fun r H'=>∃(z:Nw) (l:List BJ) (s:List A8),z.a=⟨x.q,x.res,x.since,c.pos,x.base,x.L,l⟩/\l.map BJ.pc=(DZ c.pos x.base c.win).map BJ.pc/\z.ok s/\CX s/\r= .tuple #[.agg z.A90,.bool true]/\H'=[c.mem,s]):=DR (vA h hx J) ((c.z.S:List A8)++([(c.mb,.map c.esP c.ckP)]:List A8)++(c.su:List A8)++([(c.ip,.cells #[.map (some c.mq),c.lv] 166 (0,0))]:List A8)++([(c.mq,.map c.esQ c.ckQ)]:List A8)++(c.ML:List A8)++([(c.mkb,.map c.esK c.ckK)]:List A8)++(c.MR:List A8)++[]) (Bt fun f g=>by simp only [Cp,GC,DQ,CZ.mem,CZ.A92,g]<;>omega) (by
 rintro r H' ⟨z,l,s,m,h2,B,G,I,rfl⟩;exact ⟨_,⟨z,l,s,m,h2,B,G,I,V⟩,Bt fun f g=>by simp only [Cp,GC,DQ,CZ.mem,CZ.A92,g]<;>omega⟩)
theorem XF(h:c.ok)(hx:x∈c.its)(I:x.base<=c.pos):BQ prog 12 #[.pointer (some ⟨c.cp,0,none⟩),.string x.key] [c.mem] (fun r H'=>(∃(z:Nw) (l:List BJ) (s:List A8),z.a=⟨x.q,x.res,x.since,c.pos,x.base,x.L,l⟩/\l.map BJ.pc=(DZ c.pos x.base c.win).map BJ.pc/\z.ok s/\r= .tuple #[.agg z.A90,.bool true]/\H'=[c.mem,s])):=(Z4 h hx I).mono (by
 rintro r H' ⟨z,l,s,g,h2,m,_,B,G⟩;exact ⟨z,l,s,g,h2,m,B,G⟩)
theorem xt(h:c.okb):BQ prog 22 #[.pointer (some ⟨c.cp,0,none⟩)] [c.mem] (fun r H'=>∃(zs:List C4) (s:List A8),zs.Perm (c.its.map ItM.key)/\(zs.Pairwise fun x y=>x.data.toList<=y.data.toList)/\Row 9 r (zs.map Value.string) s/\H'=[c.mem,s]):=DR (Np h) ((c.sW:List A8)++(c.z.S:List A8)++([(c.mb,.map c.esP c.ckP)]:List A8)++(c.su:List A8)++([(c.ip,.cells #[.map (some c.mq),c.lv] 166 (0,0))]:List A8)++([(c.mq,.map c.esQ c.ckQ)]:List A8)++(c.ML:List A8)++([(c.mkb,.map c.esK c.ckK)]:List A8)++(c.SI:List A8)++(c.M:List A8)++(c.MR:List A8)++[]) (Bt fun f g=>by simp only [Cp,GC,DQ,CZ.mem,CZ.A92,g]<;>omega) (by
 rintro r H' ⟨zs,s,m,h2,B,rfl⟩;exact ⟨_,⟨zs,s,m,h2,B,V⟩,Bt fun f g=>by simp only [Cp,GC,DQ,CZ.mem,CZ.A92,g]<;>omega⟩)
theorem ud(h:c.ok)(pos:Int)(X:0<=pos/\pos<=10000):BQ prog 18 #[.pointer (some ⟨c.cp,0,none⟩),I0 pos] [c.mem] (fun r H'=>r=undef/\∃d:CZ,d.ok/\d.cp=c.cp/\(d.its=[]/\d.PL=[]/\d.win=[])/\d.pos=pos/\d.next=c.next/\d.ns=c.ns/\d.z.cap=c.z.cap/\(d.z.cs=c.z.cs/\∀q∈c.M,q∈d.M)/\H'=[d.mem]):=DR (dC h pos X) [] (Bt fun f g=>by simp only [Cp,GC,DQ,CZ.mem,CZ.A92,g]<;>omega) (by
 rintro r H' ⟨m,d,h2,B,G,I,J,K,O,U,rfl⟩;exact ⟨_,⟨m,d,h2,B,G,I,J,K,O,U,V⟩,Bt fun f g=>by simp only [Cp,GC,DQ,CZ.mem,CZ.A92,g]<;>omega⟩)
theorem xr(U:Row 3 v (sh.map (Value.int .i64)) ss)(pos cap:Int)(hp:0<=pos/\pos<=10000)(hc:1<=cap/\cap<=1000000)(Z:1<=sh.length/\sh.length<=8)(h0:∀x∈sh,0<=x)(g:sh.sum<=cap):BQ prog 8 #[I0 pos,I0 cap,v] [ss] (fun r H'=>∃c:CZ,r= .tuple #[.pointer (some ⟨c.cp,0,none⟩),I0 0]/\c.ok/\(c.its=[]/\c.PL=[]/\c.win=[])/\c.pos=pos/\c.next=0/\c.ns=sh.length/\c.z.cap=cap/\U5 c.M c.z.sh sh/\H'=[c.mem,ss]):=DR (nS U pos cap hp hc Z h0 g) [] (B6) (by
 rintro r H' ⟨c,m,h2,B,G,I,J,K,O,rfl⟩;exact ⟨_,⟨c,m,h2,B,G,I,J,K,O,V⟩,Bt fun f X=>by simp only [Cp,GC,DQ,CZ.mem,CZ.A92,X]<;>omega⟩)
theorem rr(O:Row 3 v (sh.map (Value.int .i64)) ss)(pos cap:Int)(X:0<=pos/\pos<=10000)(hc:1<=cap/\cap<=1000000)(U:1<=sh.length/\sh.length<=8)(h0:∀x∈sh,0<=x)(g:sh.sum<=cap):BQ prog 8 #[I0 pos,I0 cap,v] [ss] (fun r H'=>∃c:CZ,r= .tuple #[.pointer (some ⟨c.cp,0,none⟩),I0 0]/\c.ok/\(c.its=[]/\c.PL=[]/\c.win=[])/\c.pos=pos/\c.next=0/\c.ns=sh.length/\c.z.cap=cap/\H'=[c.mem,ss]):=(xr O pos cap X hc U h0 g).mono (by
 rintro r H' ⟨c,m,h2,B,G,I,J,K,_,rfl⟩;exact ⟨c,m,h2,B,G,I,J,K,V⟩)
theorem tQ(h:c.ok)(G:CE ME (.slice qa cs.length cap) cs)(I:Dq p cs)(J:p=c.pos+1):BQ prog 11 #[.pointer (some ⟨c.cp,0,none⟩),.agg #[I0 p,.slice qa cs.length cap]] [c.mem,ME] (fun r H'=>∃(d:CZ) (q2:B8) (cap2:Nat) (zs:List C4) (tv:A2) (s:List A8),r= .tuple #[tv,I0 0]/\GH c d p cs q2 cap2 zs/\Row 9 tv (zs.map Value.string) s/\H'=[d.mem,ME,s]):=DR (aX h G I J) [] (Bt fun f g=>by simp only [Cp,GC,DQ,CZ.mem,CZ.A92,g]<;>omega) (by
 rintro r H' ⟨d,q2,cap2,zs,tv,s,K,m,h2,_,B,rfl⟩;exact ⟨_,⟨d,q2,cap2,zs,tv,s,m,h2,B,V⟩,Bt fun f g=>by simp only [Cp,GC,DQ,CZ.mem,CZ.A92,g]<;>omega⟩)
theorem Z8(h:c.okb)(g:CE ME (.slice qa cs.length cap) cs)(m:¬Dq p cs):Az prog 11 #[.pointer (some ⟨c.cp,0,none⟩),.agg #[I0 p,.slice qa cs.length cap]] [c.mem,ME] (.tuple #[.slice none 0 0,I0 180]):=Gb (aY h g m) ((c.sW:List A8)++(c.z.S:List A8)++([(c.mb,.map c.esP c.ckP)]:List A8)++(c.su:List A8)++([(c.ip,.cells #[.map (some c.mq),c.lv] 166 (0,0))]:List A8)++([(c.mq,.map c.esQ c.ckQ)]:List A8)++(c.ML:List A8)++([(c.mi,.map c.esI c.ckI)]:List A8)++([(c.mkb,.map c.esK c.ckK)]:List A8)++(c.SI:List A8)++(c.M:List A8)++(c.MR:List A8)++[]) (Bt fun f B=>by simp only [Cp,GC,DQ,CZ.mem,CZ.A92,B]<;>omega)
theorem QX(h:c.okb)(g:CE ME (.slice qa cs.length cap) cs)(m:Dq p cs)(G:p≠c.pos+1):Az prog 11 #[.pointer (some ⟨c.cp,0,none⟩),.agg #[I0 p,.slice qa cs.length cap]] [c.mem,ME] (.tuple #[.slice none 0 0,I0 180]):=Gb (aZ h g m G) ((c.sW:List A8)++(c.z.S:List A8)++([(c.mb,.map c.esP c.ckP)]:List A8)++(c.su:List A8)++([(c.ip,.cells #[.map (some c.mq),c.lv] 166 (0,0))]:List A8)++([(c.mq,.map c.esQ c.ckQ)]:List A8)++(c.ML:List A8)++([(c.mi,.map c.esI c.ckI)]:List A8)++([(c.mkb,.map c.esK c.ckK)]:List A8)++(c.SI:List A8)++(c.M:List A8)++(c.MR:List A8)++[]) (Bt fun f B=>by simp only [Cp,GC,DQ,CZ.mem,CZ.A92,B]<;>omega)
theorem z7(h:c.ok)(hq:BG q)(hk:k<c.ns)(J:k<=1000000)(base:Int)(hb:0<=base/\base<=10000){pg:B8}{cg:Nat}{L:List RP}(hL:Ex ME (.slice pg L.length cg) L)(I:L.length<=1000000)(G:∀x∈L,x.fits){r0:C8}(K:Eo q L=some r0)(cu:c.next<1000000000)(af:c.its.length<500)(U:(c.pos -base).toNat<=c.win.length->1+((BH q r0 base (DZ c.pos base c.win)).1.rows.length:Int)<=c.z.fr)(X:AK)(Z:Nat×Nat):BQ prog 10 #[.pointer (some ⟨c.cp,0,none⟩),.agg #[I0 q.kd,I0 q.tb,I0 q.cl,I0 q.lo,I0 q.hi,I0 q.bq,I0 q.ot,I0 (k:Int),I0 base,.slice pg L.length cg]] [c.mem,ME,[(1,.cells (Lib.pow10Tab.map fun z=>Value.int .u64 z).toArray X Z)]] (fun w H'=>∃(b:Bool) (d:CZ),w= .bool b/\d.ok/\c.like d/\(c.next<=d.next/\d.next<=c.next+1)/\tB c d q (k:Int) base L (BH q r0 base (DZ c.pos base c.win)) b/\H'=[d.mem,ME,[(1,.cells (Lib.pow10Tab.map fun z=>Value.int .u64 z).toArray X Z)]]):=by
 have B:c.like c:=⟨rfl,rfl,rfl,rfl,rfl⟩;by_cases g:(c.pos -base).toNat<=c.win.length
 · cases hrun:(BH q r0 base (DZ c.pos base c.win)).2.2 with
   |false=>
    refine DR (qV h hq hk J base hb hL I G K g hrun X Z) ((c.z.S:List A8)++([(c.mb,.map c.esP c.ckP)]:List A8)++(c.su:List A8)++([(c.ip,.cells #[.map (some c.mq),c.lv] 166 (0,0))]:List A8)++([(c.mq,.map c.esQ c.ckQ)]:List A8)++(c.ML:List A8)++([(c.mi,.map c.esI c.ckI)]:List A8)++([(c.mkb,.map c.esK c.ckK)]:List A8)++(c.SI:List A8)++(c.MR:List A8)++[]) (Bt fun f m=>by simp only [Cp,GC,DQ,CZ.mem,CZ.A92,m]<;>omega) ?_;rintro w H' ⟨rfl,rfl⟩;exact ⟨_,⟨false,c,rfl,h,B,⟨cT _,by omega⟩,.inl ⟨rfl,rfl,fun h9=>by rw [hrun]at h9;exact absurd h9.2 An⟩,rfl⟩,Bt fun f m=>by simp only [Cp,GC,DQ,CZ.mem,CZ.A92,m]<;>omega⟩
   |true=>
    by_cases hx:∃x∈c.its,x.key=str (Cs q)/\base<=x.base
    · obtain ⟨x,hx,bn,ax⟩:=hx
      refine DR (qU h hq hk J base hb hL I G K g hrun hx bn ax X Z) ((c.z.S:List A8)++([(c.mb,.map c.esP c.ckP)]:List A8)++(c.su:List A8)++([(c.ip,.cells #[.map (some c.mq),c.lv] 166 (0,0))]:List A8)++([(c.mq,.map c.esQ c.ckQ)]:List A8)++(c.ML:List A8)++([(c.mkb,.map c.esK c.ckK)]:List A8)++(c.MR:List A8)++[]) (Bt fun f m=>by simp only [Cp,GC,DQ,CZ.mem,CZ.A92,m]<;>omega) ?_;rintro w H' ⟨rfl,rfl⟩;exact ⟨_,⟨true,c,V,h,B,⟨cT _,by omega⟩,.inr ⟨V,⟨g,hrun⟩,fun e he=> .inl he,.inl ⟨V,x,hx,bn,ax⟩⟩,V⟩,Bt fun f m=>by simp only [Cp,GC,DQ,CZ.mem,CZ.A92,m]<;>omega⟩
    · have O:∀x∈c.its,x.key=str (Cs q)->x.base<base:=fun x h1 h2=>Int.not_le.1 fun h3=>hx ⟨x,h1,h2,h3⟩
      refine DR (wy h hq hk J base hb hL I G K g hrun cu O af (U g) X Z) [] (Bt fun f m=>by simp only [Cp,GC,DQ,CZ.mem,CZ.A92,m]<;>omega) ?_;rintro w H' ⟨rfl,d,b,rq,wq,rc,wc,s,tn,cO,h1,h2,h3,_,h5,h6,rfl⟩;exact ⟨_,⟨true,d,V,h1,h2,⟨by omega,by omega⟩,.inr ⟨V,⟨g,hrun⟩,h6,.inr ⟨O,_,h5,V,V,V,V,V,cO⟩⟩,V⟩,Bt fun f m=>by simp only [Cp,GC,DQ,CZ.mem,CZ.A92,m]<;>omega⟩
 · refine DR (xC h hq hk J base hb hL I G K g X Z) ((c.z.S:List A8)++([(c.mb,.map c.esP c.ckP)]:List A8)++(c.su:List A8)++([(c.ip,.cells #[.map (some c.mq),c.lv] 166 (0,0))]:List A8)++([(c.mq,.map c.esQ c.ckQ)]:List A8)++(c.ML:List A8)++([(c.mi,.map c.esI c.ckI)]:List A8)++([(c.mkb,.map c.esK c.ckK)]:List A8)++(c.SI:List A8)++(c.MR:List A8)++[]) (Bt fun f m=>by simp only [Cp,GC,DQ,CZ.mem,CZ.A92,m]<;>omega) ?_
   rintro w H' ⟨rfl,rfl⟩;exact ⟨_,⟨false,c,V,h,B,⟨cT _,by omega⟩,.inl ⟨V,V,fun h9=>g h9.1⟩,V⟩,Bt fun f m=>by simp only [Cp,GC,DQ,CZ.mem,CZ.A92,m]<;>omega⟩
noncomputable instance(a b:Ij):Decidable (a=b):=Classical.propDecidable _
def Ij.ok(h:Ij):Prop:=(0<=h.p/\h.p<=10000)/\h.ch.length=32/\h.st.length=32
instance(h:Ij):Decidable h.ok:=inferInstanceAs(Decidable (_/\_))
theorem vj{x y:Chg}:x=y↔x.t=y.t/\x.k=y.k/\x.had=y.had/\x.o=y.o/\x.has=y.has/\x.n=y.n:=by
 obtain ⟨a,b,c,d,e,f⟩:=x;obtain ⟨g,m,c',B,e',G⟩:=y;simp only [Chg.mk.injEq]
theorem eqC(x y:Chg):EqT prog 3 59 (.agg x.A87) (.agg y.A87) (decide (x=y)):=
 TZ CC AD (.cons An (DF AE rfl) (DF AE rfl) (Ip D3 _ _)<| .cons An (DF AE rfl) (DF AE rfl) (Ip D3 _ _)<| .cons An (DF GW rfl) (DF GW rfl) (aJ Mn _ _)<| .cons An (OX (cs:=#[I0 x.o.a,I0 x.o.b,I0 x.o.c]) HS E0 rfl (by exact (by decide:(6:Nat)<=10))) (OX (cs:=#[I0 y.o.a,I0 y.o.b,I0 y.o.c]) HS E0 rfl (by exact (by decide:(6:Nat)<=10))) (aK K0 D3 AE A6 x.o y.o)<| .cons An (DF GW rfl) (DF GW rfl) (aJ Mn _ _)<| .cons An (OX (cs:=#[I0 x.n.a,I0 x.n.b,I0 x.n.c]) HS E0 rfl (by exact (by decide:(10:Nat)<=10))) (OX (cs:=#[I0 y.n.a,I0 y.n.b,I0 y.n.c]) HS E0 rfl (by exact (by decide:(10:Nat)<=10))) (aK K0 D3 AE A6 x.n y.n)<| .nil) (by
  rw [kn];simp only [List.all_cons,List.all_nil,lE,Gk,id,H4,vj])
theorem xF{x y:QM}:x=y↔x.kd=y.kd/\x.tb=y.tb/\x.cl=y.cl/\x.lo=y.lo/\x.hi=y.hi/\x.bq=y.bq/\x.ot=y.ot:=by
 obtain ⟨a,b,c,d,e,f,g⟩:=x;obtain ⟨m,B,c',G,e',I,J⟩:=y;simp only [QM.mk.injEq]
theorem eqQ(x y:QM):EqT prog 3 31 (.agg x.A89) (.agg y.A89) (decide (x=y)):=
 TZ DB AD (.cons An (DF AE rfl) (DF AE rfl) (Ip D3 _ _)<| .cons An (DF AE rfl) (DF AE rfl) (Ip D3 _ _)<| .cons An (DF AE rfl) (DF AE rfl) (Ip D3 _ _)<| .cons An (DF AE rfl) (DF AE rfl) (Ip D3 _ _)<| .cons An (DF AE rfl) (DF AE rfl) (Ip D3 _ _)<| .cons An (DF AE rfl) (DF AE rfl) (Ip D3 _ _)<| .cons An (DF AE rfl) (DF AE rfl) (Ip D3 _ _)<| .nil) (by
  rw [kn];simp only [List.all_cons,List.all_nil,lE,Gk,id,H4,xF])
def BJ.key(r:BJ):Int×List Chg:=(r.p,r.cs)
def vU(h:Ij)(r:BJ)(st:Bs):Prop:=Dq r.p r.cs/\h.ok/\st.length=32/\r.p=h.p+1
noncomputable instance(h:Ij)(r:BJ)(st:Bs):Decidable (vU h r st):=Classical.propDecidable _
def xo(h:Ij)(r:BJ)(st:Bs):Ij:=⟨r.p,vk h.ch (vi r.p r.cs),st⟩
noncomputable def yn(st:Bs):Ij->List BJ->Option Ij
 |h,[]=>some h
 |h,r::l=>if vU h r st then yn st (xo h r st) l else none
def av(a:Ij)(l:List BJ)(b:Ij):Prop:=a.ok/\b.ok/\yn b.st a l=some b
noncomputable instance(a:Ij)(l:List BJ)(b:Ij):Decidable (av a l b):=Classical.propDecidable _
def az.eqv(a b:az):Prop:=a.q=b.q/\a.since=b.since/\a.until_=b.until_/\a.base=b.base/\a.res=b.res/\a.ranges=b.ranges/\a.recs.map BJ.key=b.recs.map BJ.key
instance(a b:az):Decidable (a.eqv b):=inferInstanceAs(Decidable (_/\_))
def w7(base until_:Ij)(a:az):Prop:=base.p=a.base/\until_.p=a.until_/\av base a.recs until_/\(∀x∈a.ranges,tA base.st x)/\∃b,Jo a.q a.base a.ranges a.recs=some b/\a.eqv b
noncomputable instance(base until_:Ij)(a:az):Decidable (w7 base until_ a):=Classical.propDecidable _
def RP.small(x:RP):Prop:=(∀s∈x.roots,s.length<=140737488354000)/\∀l∈x.paths,l.length<=1000000
def putE(n:Int):Int:=if n< -4611686018427387903 then 10 else 0
theorem O7{z:Int}(k:Int)(m:1<=k)(g:-9223372036854775808<=z)(h2:z<=9223372036854775807):-9223372036854775808<=z.tdiv k/\z.tdiv k<=9223372036854775807:=by
 have h:=Int.natAbs_tdiv_le_natAbs z k;rcases Int.lt_or_le z 0 with hz|hz
 · have:z.tdiv k<=0:=by
    obtain ⟨y,rfl⟩:∃y,z=-y:=⟨-z,by omega⟩;rw [Int.neg_tdiv];have:=Int.tdiv_nonneg (a:=y) (b:=k) A0 A0
    omega
   omega
 · have:=Int.tdiv_nonneg hz (show(0:Int)<=k by omega)
   omega
theorem Uh{kd tb cl lo hi bq ot:Int}(h:(0<=tb/\tb<=3)/\(0<=cl/\cl<=3)/\(-1000000000<=lo/\lo<=hi/\hi<=1000000000)/\
 ((kd=1/\cl=0/\lo=hi/\(1<=lo/\lo<=1000000)/\bq=0/\ot=0)\/((kd=2\/kd=3)/\bq=0/\ot=0)\/
  ((kd=4\/kd=5\/kd=6)/\(1<=bq/\bq<=3)/\ot=0)\/(kd=7/\(1<=bq/\bq<=3)/\(0<=ot/\ot<=3)))):BG ⟨kd,tb,cl,lo,hi,bq,ot⟩:=h
theorem qX(rs:List AU)(c:Chg):(EO rs c).length<=rs.length+1:=by
 unfold EO NV;simp only [C2,Cl,D0];split<;>simp only [G0,Mp]<;>omega
theorem SF:∀(cs:List Chg) (rs:List AU),(DI rs cs).length<=rs.length+cs.length
 |[],_=>CT _
 |c::cs,rs=>by
  have g:=SF cs (EO rs c);have h2:=qX rs c
  rw [EV];exact On g A0
variable{l:List BJ}
theorem Ew.few(h:Ew l):∀i,i<=l.length->(BP (l.take i)).length<=3*i
 |0,_=>by rw [MT];exact CT _
 |i+1,hi=>by
  obtain ⟨r,g⟩:∃r,l[i]?=some r:=⟨_,BE A0⟩;rw [Bq g,Gh];have m:=SF r.cs (BP (l.take i))
  have h2:=Ew.few h i A0;have B:=(h i r g).2
  omega
theorem ya{M:List A8}{q:B8}(m:EQ M (.slice q l.length cap) l)(g:Ew l)(I:l.length<=1000000)(k:Nat)(B:k<=l.length):BQ prog 38 #[.slice q l.length cap,I0 (k:Int)] [M] (fun r H'=>∃v s,r= .tuple #[v,I0 0]/\Qz v (k:Int) (BP (l.take k)) s/\H'=[s,M]):=by
 refine Gz (x5 q cap l M m g I k B) V ?_;rintro r H' ⟨U,O,es,ck,lm,rfl,J,G,rfl⟩;obtain ⟨K,hn⟩:=g.rows k B;exact ⟨_,⟨_,_,V,⟨U,O,es,ck,lm,V,J,G,K,hn,V⟩,V⟩,by simp⟩
def GJ(l:List BJ)(a b:Nat):List BJ:=(l.drop a).take (b -a)
theorem kW{a b:Nat}(g:b<=l.length):(GJ l a b).length=b -a:=by unfold GJ;rw [Cl,D0];omega
theorem pO(h:Ew l)(B:l.length<=20)(g:k<=l.length)(q:QM):(CR (BP (l.take k)) q).length<=100:=by
 have m:=h.few k g;have h2:=(@S9 (BP (l.take k)) q.tb q.cl.toNat q.lo q.hi).1
 unfold CR;omega
theorem lX(rs:List AU)(q:QM):(EY rs q).length<=1+(CR rs q).length:=by
 unfold EY;split;· rw [EV,Bm];omega
 · simp
end Go.Proofs.YtelliknjeemfoaaGreatDoor
