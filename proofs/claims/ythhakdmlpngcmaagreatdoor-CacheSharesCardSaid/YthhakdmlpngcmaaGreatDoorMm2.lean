/- The line of a query (plain); its parts. -/
import Derived.Test.YthhakdmlpngcmaaGreatDoorBu1
set_option linter.unusedVariables false
set_option linter.unusedSimpArgs false
namespace Go.Proofs.YthhakdmlpngcmaaGreatDoor
open Go.Proofs.Tryz
open Go Go.RowKit Gw
set_option maxRecDepth 100000
attribute [local irreducible] Gw.At Gw.Nx Gw.Ops
def NA(k:Int):List UInt8:=if k=1 then [114,111,119]else if k=2 then [114,111,119,115]else if k=3 then [99,111,117,110,116]else if k=4 then [115,117,109]else if k=5 then [109,105,110]else if k=6 then [109,97,120]else [106,111,105,110]
def Jy(k:Int):List Nat:=if k=1 then [1,3]else if k=2\/k=3 then [1,2,3,4]else if k=7 then [5,6,1,2,3,4]else [5,1,2,3,4]
def Ue(k:Int):Nat:=if k=1 then 69 else if k=2\/k=3 then 70 else if k=7 then 72 else 71
def JL(k:Int)(i:Int):List UInt8:=if i=1 then(if k=4\/k=5\/k=6 then [111,102]else if k=7 then [116,111]else [])else if i=2/\k=7 then [111,102]else []
def MH(k:Int)(g1 g7:Nat):A4:=if k=7 then .map (some g7)else if k=4\/k=5\/k=6 then .map (some g1)else .map none
def OD(q:QM)(o:Nat):Int:=if o=1 then q.tb else if o=2 then q.cl else if o=3 then q.lo else if o=4 then q.hi else if o=5 then q.bq else q.ot
def X7(l x:List UInt8):List UInt8:=l++32::x
def TL(q:QM)(l:List UInt8)(i:Nat):List UInt8:=if JL q.kd i=[]then l else X7 l (JL q.kd i)
def upP(q:QM):Nat->List UInt8
 |0=>NA q.kd
 |i+1=>X7 (TL q (upP q i) i) (Lib.itoa (OD q ((Jy q.kd).getD i 0)))
theorem Y6(q:QM)(i:Nat):upP q (i+1)=X7 (TL q (upP q i) i) (Lib.itoa (OD q ((Jy q.kd).getD i 0))):=rfl
def Bi(q:QM):List UInt8:=upP q (Jy q.kd).length
theorem yL(k:Int):(Jy k).length<=6:=by
 unfold Jy;split;· decide
 · split
   · decide
   · split<;>decide
theorem yK(k:Int):0<(Jy k).length:=by
 unfold Jy;split;· decide
 · split
   · decide
   · split<;>decide
theorem tB(k:Int):∀o∈Jy k,o<=6:=by
 unfold Jy;split;· decide
 · split
   · decide
   · split<;>decide
theorem tD(k:Int):∀o∈Jy k,1<=o:=by
 unfold Jy;split;· decide
 · split
   · decide
   · split<;>decide
theorem tH:∀(k u:Nat),1<=k->u<10^k->Lib.nDigits u<=k
 |0,_,h,_=>by omega
 |k+1,u,_,h=>by
  by_cases g:u<10
  · rw [Lib.nDigits_small g];omega
  · rw [Lib.nDigits_big g]
    have m:1<=k:=by
     rcases PB k with rfl|h2
     · simp at h;omega
     · exact h2
    have:=tH k (u/10) m (by rw [fg]at h;omega);omega
theorem ZW(n:Int)(h:-9223372036854775808<=n/\n<=9223372036854775807):0<(Lib.itoa n).length/\(Lib.itoa n).length<=21:=by
 unfold Lib.itoa;split
 · rw [E3,Lib.decDigits_length]
   have:=tH 20 n.natAbs B1 A0;omega
 · rw [Lib.decDigits_length]
   have:=tH 20 n.toNat B1 A0;have:=Lib.nDigits_pos n.toNat
   omega
theorem Tf(k i:Int):(JL k i).length<=2:=by
 unfold JL;split
 · split
   · decide
   · split<;>decide
 · split<;>decide
theorem Xz(k:Int):0<(NA k).length/\(NA k).length<=5:=by
 unfold NA;split;· decide
 · split
   · decide
   · split
     · decide
     · split
       · decide
       · split
         · decide
         · split<;>decide
theorem RH{q:QM}(g:∀o,-9223372036854775808<=OD q o/\OD q o<=9223372036854775807):∀i,0<(upP q i).length/\(upP q i).length<=5+25*i
 |0=>by
  have:=Xz q.kd;unfold upP;omega
 |i+1=>by
  have h:=RH g i;have m:=ZW _ (g ((Jy q.kd).getD i 0))
  have h2:=Tf q.kd i;unfold upP TL X7;rw [Bm,E3];split;· omega
  · rw [Bm,E3];omega
theorem ZB(q:QM)(l:List UInt8)(i:Nat):(TL q l i).length<=l.length+3:=by
 have:=Tf q.kd i;unfold TL X7;split;· omega
 · rw [Bm,E3];omega
theorem wY{q:QM}(h:BK q)(o:Nat):-9223372036854775808<=OD q o/\OD q o<=9223372036854775807:=by
 obtain ⟨g,h2,m,B⟩:=h;unfold OD;split;· omega
 · split
   · omega
   · split
     · omega
     · split
       · omega
       · split<;>omega
theorem zA(q:QM){o:Nat}(g:1<=o)(h2:o<=6):(q.A72:AK)[o]?=some (I4 (OD q o)):=by
 rcases (by omega:o=1\/o=2\/o=3\/o=4\/o=5\/o=6)with rfl|rfl|rfl|rfl|rfl|rfl<;>rfl
theorem Vo(n:Int)(hn:-9223372036854775808<=n/\n<=9223372036854775807)(Tp:AM)(zp:Nat×Nat):BJ prog 34 #[I4 n] [[(1,.cells (Lib.pow10Tab.map fun z=>Value.int .u64 z).toArray Tp zp)]] (.string (str (Lib.itoa n))):=fun u R w hs=>by
 have hg:=hs.get (1,.cells (Lib.pow10Tab.map fun z=>Value.int .u64 z).toArray Tp zp) B4;refine (Tryz.strconv_Itoa n hn.1 hn.2 w ?_).mono ?_
 · unfold Lib.TabIs World.var?
   rw [show Tryz.prog.globalNamed "internal/strconv.uint64pow10"=some 1 by kernel_rfl];simp only [J1,hg]
 · rintro e w' ⟨rfl,k,os,rfl⟩
   exact .inl ⟨_,_,V,⟨V,V⟩,Rx hs k os⟩
theorem XA{P:Program}{α:Type}{κ:α->A4}{D:α->Prop}{k:α}{env:Env}{d:Option Nat}{ty:AM}{pos:String}{af:Array Edge}{g:Option (Nat×Bool)}{t kt G:AM}{m x:Operand}{z:A4}(I:G5 P kt κ D)(K:P.underlying t=some (.map kt G))(hz:∀w:AD,(zeroValue G).run P w= .ok z w)(J:D k)(O:∀a,ev a env m= .map none)(U:∀a,ev a env x=κ k):
 OpP P ⟨d,.lookup t m x true,ty,pos,af,g⟩ env [] (.tuple #[z,.bool false]):=fun a w W=>by
 show((do pure (Next.value (<-Instr.lookup t (ev a env m) (ev a env x) true))):Sem Next).run P w=_;rw [O a,U a];have B:(Instr.findKey kt (κ k) []).run P w= .ok none w:=by
  rcases I8 I (EX κ) (fun p h=>by cases h) w k J with⟨B,_⟩|⟨j,v,_,h2⟩
  · exact B
  · simp at h2
 simp only [Instr.lookup,Sem.run_bind,run_underlying K,Result.andThen,F7 I J,Sem.run_pure,B,hz];rfl
theorem ko(bq:Nat):BR prog 69 #[I5 bq] [] (fun r H'=>∃s,Row 114 r (([1,3]:List Nat).map fun o=> .pointer (some ⟨bq,o,none⟩)) s/\H'=[s]):=by
 refine Se func69 ntmps69 [0] ?_;intro u R;refine A1<|A5 Y<|Zq<|BA (n:=8) (0::1::3::0::8::24::63::127::[]) 64 AF AF V<|A3 0 V (AO Y)<|A3 1 V (Ak Y V)<|A3 2 V (AA (off:=1) CN V rfl AE Y)<|A3 3 V (AO Y)<|A3 4 V (Ak Y V)<|A3 5 V (AA (off:=3) CN V rfl AE Y)<|Zz (l:=[6])<|B7 [] [] V rfl (Ai (vs:=[_,_]) (cs:=[_,_]) TO W7 Z2 Y V rfl V rfl V) ?_ (fun _ _ h=>h.elim) Aj;rintro _ _ ⟨g,rfl,rfl⟩;refine BW<|A3 7 V (Aq Y)<|Ag<|Zx<|AJ<|AP V results69 Y (by exact ⟨_,Jb _ g [.pointer (some ⟨bq,1,none⟩),.pointer (some ⟨bq,3,none⟩)] 2 V B1,V⟩)
theorem IU(bq:Nat):BR prog 70 #[I5 bq] [] (fun r H'=>∃s,Row 114 r (([1,2,3,4]:List Nat).map fun o=> .pointer (some ⟨bq,o,none⟩)) s/\H'=[s]):=by
 refine Se func70 ntmps70 [0] ?_;intro u R;refine A1<|A5 Y<|Zq<|BA (n:=14) (0::1::3::0::8::24::0::64::192::0::512::1536::4095::8191::[]) 4096 AF AF V<|A3 0 V (AO Y)<|A3 1 V (Ak Y V)<|A3 2 V (AA (off:=1) CN V rfl AE Y)<|A3 3 V (AO Y)<|A3 4 V (Ak Y V)<|A3 5 V (AA (off:=2) CN V rfl AE Y)<|A3 6 V (AO Y)<|A3 7 V (Ak Y V)<|A3 8 V (AA (off:=3) CN V rfl AE Y)<|A3 9 V (AO Y)<|A3 10 V (Ak Y V)<|A3 11 V (AA (off:=4) CN V rfl AE Y)<|Zz (l:=[12])<|B7 [] [] V rfl (Ai (vs:=[_,_,_,_]) (cs:=[_,_,_,_]) TO W7 Z2 Y V rfl V rfl V) ?_ (fun _ _ h=>h.elim) Aj;rintro _ _ ⟨g,rfl,rfl⟩;refine BW<|A3 13 V (Aq Y)<|Ag<|Zn [2] ?_;refine Zx<|AJ<|AP V results70 Y (by exact ⟨_,Jb _ g [.pointer (some ⟨bq,1,none⟩),.pointer (some ⟨bq,2,none⟩),.pointer (some ⟨bq,3,none⟩),.pointer (some ⟨bq,4,none⟩)] 4 V B1,V⟩)
theorem pE(bq:Nat):BR prog 71 #[I5 bq] [] (fun r H'=>∃s,Row 114 r (([5,1,2,3,4]:List Nat).map fun o=> .pointer (some ⟨bq,o,none⟩)) s/\H'=[s]):=by
 have U:=mL;refine Se func71 ntmps71 [0] ?_;intro u R;refine A1<|A5 Y<|Zq<|BA (n:=8) (0::1::3::7::0::16::63::127::[]) 104 AF AF V<|A3 0 V (AO Y)<|A3 1 V (Ak Y V)<|A3 2 V (AA (off:=5) CN V rfl AE Y)<|A3 4 V (AO Y)<|Zz (l:=[3,5])<|B7 [] [] V rfl (Ai (vs:=[_]) (cs:=[_]) TO W7 Z2 Y V rfl V rfl V) ?_ (fun _ _ h=>h.elim) ?_;·
  rintro _ _ ⟨g,rfl,rfl⟩;refine BW<|Zz (l:=[5])<|B7 [] [] V rfl (Zw [_] Y call70 Y V (IU bq)) ?_ Bv Aj;rintro _ _ ⟨_,⟨s2,B,rfl⟩,rfl⟩;refine ⟨AZ,?_⟩;obtain ⟨O,K,rfl⟩:=B.form;refine Yw 6 127 V (Gp (by_:=8) TO (V:Tryz.prog.info? 114=some Tryz.t114) V rfl V rfl Y ((Jb _ g [.pointer (some ⟨bq,5,none⟩)] 1 V B1)) Y (B) Wo Wo Ft (by((simp;omega))) (by((simp;done)))) ?_;rintro _ _ ⟨J,m,rfl⟩;obtain ⟨I,G,rfl⟩:=m.form;refine A3 7 V (Aq Y)<|Ag<|Zx<|AJ<|AP V results71 Y (by exact ⟨_,m,V⟩)
 refine B7 [] [] V rfl (Zw [_] Y call70 Y V (IU bq)) ?_ Bv Aj;rintro _ _ ⟨_,⟨s2,B,rfl⟩,rfl⟩;refine ⟨AZ,?_⟩;obtain ⟨O,K,rfl⟩:=B.form;refine Yw 3 63 V (Ai (vs:=[_]) (cs:=[_]) TO W7 Z2 Y V rfl V rfl V)<|AG fun g=>Yw 6 127 V (Gp (by_:=8) TO (V:Tryz.prog.info? 114=some Tryz.t114) V rfl V rfl Y ((Jb _ g [.pointer (some ⟨bq,5,none⟩)] 1 V B1)) Y (B) Wo Wo Ft (by((simp;omega))) (by((simp;done)))) ?_;rintro _ _ ⟨J,m,rfl⟩;obtain ⟨I,G,rfl⟩:=m.form;refine A3 7 V (Aq Y)<|Ag<|Zx<|AJ<|AP V results71 Y (by exact ⟨_,m,V⟩)
theorem fe(bq:Nat):BR prog 72 #[I5 bq] [] (fun r H'=>∃s,Row 114 r (([5,6,1,2,3,4]:List Nat).map fun o=> .pointer (some ⟨bq,o,none⟩)) s/\H'=[s]):=by
 have U:=mL;refine Se func72 ntmps72 [0] ?_;intro u R;refine A1<|A5 Y<|Zq<|BA (n:=11) (0::1::3::0::8::24::63::0::128::511::1023::[]) 832 AF AF V<|A3 0 V (AO Y)<|A3 1 V (Ak Y V)<|A3 2 V (AA (off:=5) CN V rfl AE Y)<|A3 3 V (AO Y)<|A3 4 V (Ak Y V)<|A3 5 V (AA (off:=6) CN V rfl AE Y)<|A3 7 V (AO Y)<|Zz (l:=[6,8])<|B7 [] [] V rfl (Ai (vs:=[_,_]) (cs:=[_,_]) TO W7 Z2 Y V rfl V rfl V) ?_ (fun _ _ h=>h.elim) ?_;·
  rintro _ _ ⟨g,rfl,rfl⟩;refine BW<|Zz (l:=[8])<|B7 [] [] V rfl (Zw [_] Y call70 Y V (IU bq)) ?_ Bv Aj;rintro _ _ ⟨_,⟨s2,B,rfl⟩,rfl⟩;refine ⟨AZ,?_⟩;obtain ⟨O,K,rfl⟩:=B.form;refine Yw 9 1023 V (Gp (by_:=8) TO (V:Tryz.prog.info? 114=some Tryz.t114) V rfl V rfl Y ((Jb _ g [.pointer (some ⟨bq,5,none⟩),.pointer (some ⟨bq,6,none⟩)] 2 V B1)) Y (B) Wo Wo Ft (by((simp;omega))) (by((simp;done)))) ?_;rintro _ _ ⟨J,m,rfl⟩;obtain ⟨I,G,rfl⟩:=m.form;refine A3 10 V (Aq Y)<|Ag<|Zx<|AJ<|AP V results72 Y (by exact ⟨_,m,V⟩)
 refine B7 [] [] V rfl (Zw [_] Y call70 Y V (IU bq)) ?_ Bv Aj;rintro _ _ ⟨_,⟨s2,B,rfl⟩,rfl⟩;refine ⟨AZ,?_⟩;obtain ⟨O,K,rfl⟩:=B.form;refine Yw 6 511 V (Ai (vs:=[_,_]) (cs:=[_,_]) TO W7 Z2 Y V rfl V rfl V)<|AG fun g=>Yw 9 1023 V (Gp (by_:=8) TO (V:Tryz.prog.info? 114=some Tryz.t114) V rfl V rfl Y ((Jb _ g [.pointer (some ⟨bq,5,none⟩),.pointer (some ⟨bq,6,none⟩)] 2 V B1)) Y (B) Wo Wo Ft (by((simp;omega))) (by((simp;done)))) ?_;rintro _ _ ⟨J,m,rfl⟩;obtain ⟨I,G,rfl⟩:=m.form;refine A3 10 V (Aq Y)<|Ag<|Zx<|AJ<|AP V results72 Y (by exact ⟨_,m,V⟩)
def Tj(g1 g7:Nat):List (Int×A4):=[(1,.agg #[.string ⟨#[114,111,119]⟩,.func (.func 69) #[] #[],.map none]),(2,.agg #[.string ⟨#[114,111,119,115]⟩,.func (.func 70) #[] #[],.map none]),(3,.agg #[.string ⟨#[99,111,117,110,116]⟩,.func (.func 70) #[] #[],.map none]),(4,.agg #[.string ⟨#[115,117,109]⟩,.func (.func 71) #[] #[],.map (some g1)]),(5,.agg #[.string ⟨#[109,105,110]⟩,.func (.func 71) #[] #[],.map (some g1)]),(6,.agg #[.string ⟨#[109,97,120]⟩,.func (.func 71) #[] #[],.map (some g1)]),(7,.agg #[.string ⟨#[106,111,105,110]⟩,.func (.func 72) #[] #[],.map (some g7)])]
theorem aO{lm:List (Int×A4)}{g m:Nat}(h:∀p,p∈lm↔p∈Tj g m)(I:(lm.map (·.1)).Nodup){k:Int}(B:1<=k/\k<=7):Dp k lm=some (.agg #[.string (str (NA k)),.func (.func (Ue k)) #[] #[],MH k g m]):=by
 have G:∀{k:Int} {v:A4},(k,v)∈Tj g m->Dp k lm=some v:=fun B=>D7 I ((h _).2 B);obtain h9|h9|h9|h9|h9|h9|h9:k=1\/k=2\/k=3\/k=4\/k=5\/k=6\/k=7:=by omega
 all_goals subst h9
 all_goals exact G (by simp [Tj,Ue,NA,MH,str])
structure iQ(l1 l7:List (Int×A4)):Prop where
 a:∀p,p∈l1↔p=(1,.string ⟨#[111,102]⟩)
 b:∀p,p∈l7↔p=(2,.string ⟨#[111,102]⟩)\/p=(1,.string ⟨#[116,111]⟩)
theorem Vu(k:Int)(g m:Nat):(MH k g m).oneCell'=true:=by
 unfold MH;split;· rfl
 · split<;>rfl
theorem rj{env:Env}{d:Option Nat}{ty:AM}{pos:String}{af:Array Edge}{g:Option (Nat×Bool)}{m x:Operand}{q:QM}(hq:1<=q.kd/\q.kd<=7){U W:Nat}{e1 e7:Array MapEntry}{c1 c7:Nat}{l1 l7:List (Int×A4)}(h1:Co (fun n:Int=>Value.int .i64 n) e1 c1 l1)(X:Co (fun n:Int=>Value.int .i64 n) e7 c7 l7)(J:iQ l1 l7){i:Nat}(hx:∀a,ev a env m=MH q.kd U W)(hy:∀a,ev a env x=I4 (i:Int)):
 OpP prog ⟨d,.lookup 93 m x true,ty,pos,af,g⟩ env [(U,.map e1 c1),(W,.map e7 c7)] (.tuple #[.string (str (JL q.kd i)),.bool (decide (JL q.kd i≠[]))]):=by
 have hz:=HS;have hu:=dy
 by_cases B:q.kd=7
 · have cu:∀a,ev a env m= .map (some W):=fun a=>by rw [hx a];unfold MH;rw [Ax B]
   have:=EU (d:=d) (ty:=ty) (pos:=pos) (af:=af) (g:=g) (v0:= .string (str (JL q.kd i))) (b0:=decide (JL q.kd i≠[])) (Cf D4 (D:=fun _=>True)) hu hz X (fun _ _=>trivial) trivial (k:=(i:Int)) (by
    unfold JL;rw [B];by_cases I:(i:Int)=1;· rw [I,D7 X.keys ((J.b (1,_)).2 (.inr rfl))];exact ⟨rfl,rfl⟩
    · by_cases a2:(i:Int)=2
      · rw [a2,D7 X.keys ((J.b (2,_)).2 (.inl rfl))];exact ⟨rfl,rfl⟩
      · rw [Da fun p Z K=>by rcases (J.b p).1 Z with rfl|rfl<;>simp at K<;>omega,As I,As A0];exact ⟨rfl,rfl⟩) cu hy
   exact fun a w O=>this a w fun c hc=>O c (by rw [C5.1 hc];simp)
 · by_cases G:q.kd=4\/q.kd=5\/q.kd=6
   · have bn:∀a,ev a env m= .map (some U):=fun a=>by rw [hx a];unfold MH;rw [As B,Ax G]
     have:=EU (d:=d) (ty:=ty) (pos:=pos) (af:=af) (g:=g) (v0:= .string (str (JL q.kd i))) (b0:=decide (JL q.kd i≠[])) (Cf D4 (D:=fun _=>True)) hu hz h1 (fun _ _=>trivial) trivial (k:=(i:Int)) (by
      unfold JL;by_cases I:(i:Int)=1;· rw [Ax I,Ax G,I,D7 h1.keys ((J.a (1,_)).2 rfl)];exact ⟨rfl,rfl⟩
      · rw [Da fun p Z K=>by rw [(J.a p).1 Z]at K;simp at K;omega,As I,As A0];exact ⟨rfl,rfl⟩) bn hy
     exact fun a w O=>this a w fun c hc=>O c (by rw [C5.1 hc];simp)
   · have ax:∀a,ev a env m= .map none:=fun a=>by rw [hx a];unfold MH;rw [As B,As G]
     have hg:JL q.kd i=[]:=by
      unfold JL;rw [As G,As B];split;· rfl
      · split
        · rename_i h9;exact absurd h9.2 B
        · rfl
     rw [hg];have:=XA (d:=d) (ty:=ty) (pos:=pos) (af:=af) (g:=g) (Cf D4 (D:=fun _=>True)) hu hz (k:=(i:Int)) trivial ax hy
     exact fun a w O=>this a w fun c hc=>by cases hc
theorem Ti:BR prog 30 #[] [] (fun v H'=>∃b es ck lm g e1 c1 l1 m e7 c7 l7,v= .map (some b)/\Co (fun n:Int=>Value.int .i64 n) es ck lm/\(∀p,p∈lm↔p∈Tj g m)/\Co (fun n:Int=>Value.int .i64 n) e1 c1 l1/\Co (fun n:Int=>Value.int .i64 n) e7 c7 l7/\iQ l1 l7/\H'=[[(b,.map es ck)],[(g,.map e1 c1)],[(m,.map e7 c7)]]):=by
 refine Se func30 ntmps30 [] ?_;intro u R;refine A1<|A5 Y<|A1<|Ze (DX)<|AG fun g=>Ze (EF (Cf D4 (D:=fun _=>True)) dy (EX _) (fun _ _=>trivial) (trivial) Y Y Y Wo) ?_;rintro _ _ ⟨rfl,I,B,af,K,W,rfl⟩;refine Zm Y<|A5 Y<|A1<|Ze (DX)<|AG fun mb=>Zv (BM (vs:=[(0,.string ⟨#[114,111,119]⟩),(1,.func (.func 69) #[] #[]),(2,.map none)]) (cs:=#[.string ⟨#[114,111,119]⟩,.func (.func 69) #[] #[],.map none]) Y (AY (pl:=#[(0,1),(1,1),(2,1)]) W5 ZD (fun _=>by kernel_rfl) AF))<|Ze (EF (Cf D4 (D:=fun _=>True)) cD (EX _) (fun _ _=>trivial) (trivial) Y Y Y Wo) ?_;rintro _ _ ⟨rfl,qj,pg,r9,cO,ic,rfl⟩;refine Zv (BM (vs:=[(0,.string ⟨#[114,111,119,115]⟩),(1,.func (.func 70) #[] #[]),(2,.map none)]) (cs:=#[.string ⟨#[114,111,119,115]⟩,.func (.func 70) #[] #[],.map none]) Y (AY (pl:=#[(0,1),(1,1),(2,1)]) W5 ZD (fun _=>by kernel_rfl) AF))<|Ze (EF (Cf D4 (D:=fun _=>True)) cD cO (fun _ _=>trivial) (trivial) Y Y Y Wo) ?_;rintro _ _ ⟨rfl,ql,pq,sj,d9,j3,rfl⟩;refine Zv (BM (vs:=[(0,.string ⟨#[99,111,117,110,116]⟩),(1,.func (.func 70) #[] #[]),(2,.map none)]) (cs:=#[.string ⟨#[99,111,117,110,116]⟩,.func (.func 70) #[] #[],.map none]) Y (AY (pl:=#[(0,1),(1,1),(2,1)]) W5 ZD (fun _=>by kernel_rfl) AF))<|Ze (EF (Cf D4 (D:=fun _=>True)) cD d9 (fun _ _=>trivial) (trivial) Y Y Y Wo) ?_;rintro _ _ ⟨rfl,qo,pz,sw,dn,j5,rfl⟩;refine Zm Y<|Zv (BM (vs:=[(0,.string ⟨#[115,117,109]⟩),(1,.func (.func 71) #[] #[]),(2,.map (some g))]) (cs:=#[.string ⟨#[115,117,109]⟩,.func (.func 71) #[] #[],.map (some g)]) Y (AY (pl:=#[(0,1),(1,1),(2,1)]) W5 ZD (fun _=>by kernel_rfl) AF))<|Ze (EF (Cf D4 (D:=fun _=>True)) cD dn (fun _ _=>trivial) (trivial) Y Y Y Wo) ?_;rintro _ _ ⟨rfl,qw,q9,sJ,ek,kv,rfl⟩
 refine Zm Y<|Zv (BM (vs:=[(0,.string ⟨#[109,105,110]⟩),(1,.func (.func 71) #[] #[]),(2,.map (some g))]) (cs:=#[.string ⟨#[109,105,110]⟩,.func (.func 71) #[] #[],.map (some g)]) Y (AY (pl:=#[(0,1),(1,1),(2,1)]) W5 ZD (fun _=>by kernel_rfl) AF))<|Ze (EF (Cf D4 (D:=fun _=>True)) cD ek (fun _ _=>trivial) (trivial) Y Y Y Wo) ?_;rintro _ _ ⟨rfl,qx,qa,sM,gm,l5,rfl⟩;refine Zm Y<|Zv (BM (vs:=[(0,.string ⟨#[109,97,120]⟩),(1,.func (.func 71) #[] #[]),(2,.map (some g))]) (cs:=#[.string ⟨#[109,97,120]⟩,.func (.func 71) #[] #[],.map (some g)]) Y (AY (pl:=#[(0,1),(1,1),(2,1)]) W5 ZD (fun _=>by kernel_rfl) AF))<|Ze (EF (Cf D4 (D:=fun _=>True)) cD gm (fun _ _=>trivial) (trivial) Y Y Y Wo) ?_;rintro _ _ ⟨rfl,qz,qb,sO,gq,l8,rfl⟩;refine Ze (DX)<|AG fun m=>Ze (EF (Cf D4 (D:=fun _=>True)) dy (EX _) (fun _ _=>trivial) (trivial) Y Y Y Wo) ?_;rintro _ _ ⟨rfl,p8,o9,p9,O,X,rfl⟩;refine Ze (EF (Cf D4 (D:=fun _=>True)) dy O (fun _ _=>trivial) (trivial) Y Y Y Wo) ?_;rintro _ _ ⟨rfl,J,G,ax,U,Z,rfl⟩;refine Zm Y<|Zv (BM (vs:=[(0,.string ⟨#[106,111,105,110]⟩),(1,.func (.func 72) #[] #[]),(2,.map (some m))]) (cs:=#[.string ⟨#[106,111,105,110]⟩,.func (.func 72) #[] #[],.map (some m)]) Y (AY (pl:=#[(0,1),(1,1),(2,1)]) W5 ZD (fun _=>by kernel_rfl) AF))<|Ze (EF (Cf D4 (D:=fun _=>True)) cD gq (fun _ _=>trivial) (trivial) Y Y Y Wo) ?_;rintro _ _ ⟨rfl,cu,bn,o8,gy,l9,rfl⟩;refine Zm Y<|AW Y<|Zn [0] ?_;refine Zx<|AJ<|AP V results30 Y (by
  refine ⟨mb,cu,bn,o8,g,I,B,af,m,J,G,ax,V,gy,fun p=>?_,K,U,⟨fun p=>?_,fun p=>?_⟩,V⟩
  · rw [l9,l8,l5,kv,j5,j3,ic]
    simp only [Tj,DB,Pc,OR,gx];constructor;· rintro (rfl|⟨rfl|⟨rfl|⟨rfl|⟨rfl|⟨rfl|⟨rfl,-⟩,-⟩,-⟩,-⟩,-⟩,-⟩)<;>simp
    · rintro (h|h|h|h|h|h|h)<;>subst h<;>simp
  · rw [W];simp
  · rw [Z,X];simp only [Pc,gx,OR]
    constructor
    · rintro (rfl|⟨rfl,-⟩)
      · exact .inl rfl
      · exact .inr rfl
    · rintro (rfl|rfl)
      · exact .inl rfl
      · exact .inr ⟨rfl,by simp⟩)
theorem uh{k:Int}(g:1<=k/\k<=7):∀(args:AK) (w:AD),(callFunc (Ue k) args).run prog w= .ok (.enter (Ue k) args) w:=by
 unfold Ue;split;· exact call69
 · split
   · exact call70
   · split
     · exact call72
     · exact call71
theorem ug(k:Int)(bq:Nat):BR prog (Ue k) #[I5 bq] [] (fun r H'=>∃s,Row 114 r ((Jy k).map fun o=> .pointer (some ⟨bq,o,none⟩)) s/\H'=[s]):=by
 unfold Ue Jy;split;· exact ko bq
 · split
   · exact IU bq
   · split
     · exact fe bq
     · exact pE bq
theorem oh(b:Nat)(v:A4)(l:List UInt8)(G:List A9)(m:Row 5 v (l.map u8v) G)(h0:0<l.length)(I:l.length<=1000000):BR prog 35 #[I5 b] [[(b,.cells #[I5 b,v] 105 (0,0))],G] (fun r H'=>r= .string (str l)/\H'=[[(b,.cells #[I5 b,v] 105 (0,0))]]):=by
 rcases m with⟨_,B,_⟩|⟨g,cap,cur,z,rfl,rfl,hle,hcm,hcs,htk,hfr⟩
 · simp at B;subst B;simp at h0
 · rw [B6]at hle htk⊢
   exact O0 b g cap _ l cur z h0 A0 A0 htk
theorem RX(b:Nat)(v:A4)(l:List UInt8)(c:UInt8)(G:List A9)(g:Row 5 v (l.map u8v) G)(hb:l.length<=1099511627776):BR prog 33 #[I5 b,.int .u8 (c.toNat:Int)] [[(b,.cells #[I5 b,v] 105 (0,0))],G] (fun r H'=>∃I B K,Row 5 I ((l++[c]).map u8v) B/\r=K/\H'=[[(b,.cells #[I5 b,I] 105 (0,0))],B]):=by
 have J:=mL;obtain ⟨gv,X,rfl⟩:=g.form;refine Se func33 ntmps33 [0,1] ?_;intro u R;refine A1<|A5 Y<|A1<|Zm Y<|Zc [_] Y call73 Y V (MU b _) ?_;rintro _ _ ⟨_,⟨rfl,rfl⟩,rfl⟩;refine A6<|A1<|Zm Y<|Zm Y<|Zp Y V<|Zh 1 S6 V rfl NO Y<|Zl SD Y<|Zm Y<|Ze (Ai (vs:=[_]) (cs:=[_]) HL It S7 Y V rfl V rfl V)<|AG fun U=>Ze (Dj (by_:=1) (news:=[_]) HL (V:Tryz.prog.info? 5=some Tryz.t5) V rfl V rfl Y g Y Wo Wh B0 V Ft B1 (by(rw [B6];omega)) (by(rw [B6];omega))) ?_;rintro _ _ ⟨O,m,rfl⟩;obtain ⟨Z,W,rfl⟩:=m.form;refine Zp Y V<|Zh 1 S6 V rfl NO Y<|Xe (Zs NO Y Y V)<|Z0<|Zn [] ?_;refine Zx<|A1<|A5 Y<|AJ<|AP rfl results33 Y (by exact ⟨_,O,_,(by rw [C0];exact m),rfl,rfl⟩)
theorem SY(b:Nat)(v:A4)(l x:List UInt8)(I:List A9)(g:Row 5 v (l.map u8v) I)(h0:0<x.length)(Z:l.length+x.length<=1000000):BR prog 32 #[.string (str x),I5 b] [[(b,.cells #[I5 b,v] 105 (0,0))],I] (fun r H'=>∃J m,Row 5 J ((X7 l x).map u8v) m/\H'=[[(b,.cells #[I5 b,J] 105 (0,0))],m]):=by
 refine Se func32 ntmps32 [0,1] ?_;intro u R;refine A1<|Zc [_,_] Y call33 Y V (RX b v l 32 I g A0) ?_;rintro _ _ ⟨_,⟨W,s2,K,B,rfl,rfl⟩,rfl⟩;refine A6<|Zg<|Zm Y<|Zc [_,_] Y call31 Y V (PV b W (l++[32]) x s2 B h0 Hi) ?_;rintro _ _ ⟨_,⟨X,U,O,G,rfl,rfl⟩,rfl⟩;refine Z0<|Ce rfl results32 (by exact ⟨X,U,by unfold X7;rw [show l++32::x=l++[32]++x by simp];exact G,rfl⟩)
theorem Kq(q:QM)(hq:BK q)(Tp:AM)(zp:Nat×Nat):BJ prog 10 #[.agg q.A72] [[(1,.cells (Lib.pow10Tab.map fun z=>Value.int .u64 z).toArray Tp zp)]] (.tuple #[.string (str (Bi q)),I4 0]):=by
 have kv:=mL;have hk:1<=q.kd/\q.kd<=7:=by obtain ⟨_,_,_,h⟩:=hq;omega
 have B:=wY hq;have j3:=yL q.kd
 have d9:=yK q.kd;have gy:=Xz q.kd
 refine Se func10 ntmps10 [0] ?_;intro u R;refine A1<|Ze (Bx #[_,_,_,_,_,_,_])<|AG fun bq=>Za Y<|A5 Y<|Zq<|A1<|Zo Wh (AB (cs:=q.A72) F1 CM Y Wn (BN V)) ?_;refine Xr [_] Y call29 Y V (Jd q) ?_;rw [DG hq];refine Zv (Bt Y)<|A6<|AU Y (fun hb=>by cases hb)<|fun hb=>AC<|Zx<|Zb [1] ?_;refine CW (e0:=[]) (H0:=[]) (fun e H=>∃(bf I J:Nat) (e1 U:Array MapEntry) (K O:Nat) (l1 l7:List (Int×A4)),(Co (fun n:Int=>Value.int .i64 n) e1 K l1/\Co (fun n:Int=>Value.int .i64 n) U O l7/\iQ l1 l7)/\e=[(4,I5 bf)]/\H=[[(bf,.cells #[.string (str (NA q.kd)),.func (.func (Ue q.kd)) #[] #[],MH q.kd I J] 99 (0,0))],[(I,.map e1 K)],[(J,.map U O)]]) Wp ?hx_1 ?hy_1
 case hx_1=>
  refine BA (n:=6) (0::0::2::7::0::31::[]) 49 AF AF V<|A3 1 V (AA (off:=0) CN V rfl AE Y)<|BE 2 V AH Y ?_;refine Zz (l:=[0,4])<|B7 [true] [(2,(_,_))] V rfl (Zw [] Y call30 Y V (Ti)) ?_ Bv ?_;·
   rintro _ _ ⟨_,⟨mf,es,ck,lm,I,e1,K,l1,J,U,O,l7,rfl,hm,hp,h1,h7,hG,rfl⟩,rfl⟩;refine ⟨Zk (AZ),?_⟩;have W:=aO hp hm.keys hk
   refine FG 3 rfl Wh (De (Cf D4 (D:=fun _=>True)) cD W5 hm (fun _ _=>trivial) (trivial) (by rw [W];first|done|rfl) Y Y) ?_;refine Yz 4 0 31 [3,2] [true,true] [(3,(_,_)),(2,(_,_))] V Y V rfl V rfl (Ey W5 (cs:=#[.string ⟨#[]⟩,.nilFunc,.map none]) AF)<|AG fun bf=>BW<|Yw 5 63 rfl (BL sizeOf99 Y Y (by intro u hu;rcases (by simpa using hu:u=_\/u=_\/u=_)with rfl|rfl|rfl<;>first|rfl|exact Vu _ _ _) Wu (by exact (rfl:_=(#[.string (str (NA q.kd)),.func (.func (Ue q.kd)) #[] #[],MH q.kd I J]:AK))) FA B1 (by exact BC _))<|Cp<|Ag<|Zn [4,1] ?_;refine Av (e':=[(4,_)]) (by exact ⟨bf,I,J,e1,U,K,O,l1,l7,⟨h1,h7,hG⟩,V,V⟩)
  refine B7 [true] [(2,(_,_))] V rfl (Ey W5 (cs:=#[.string ⟨#[]⟩,.nilFunc,.map none]) AF) ?_ (fun _ _ h=>h.elim) Aj;rintro _ _ ⟨bf,rfl,rfl⟩;refine BW<|Zz (l:=[0])<|B7 [true] [(2,(_,_))] V rfl (Zw [] Y call30 Y V (Ti)) ?_ Bv Aj;rintro _ _ ⟨_,⟨mf,es,ck,lm,I,e1,K,l1,J,U,O,l7,rfl,hm,hp,h1,h7,hG,rfl⟩,rfl⟩;refine ⟨Zk (AZ),?_⟩;have W:=aO hp hm.keys hk
  refine FG 3 rfl Wh (De (Cf D4 (D:=fun _=>True)) cD W5 hm (fun _ _=>trivial) (trivial) (by rw [W];first|done|rfl) Y Y) ?_;refine Yw 5 63 rfl (BL sizeOf99 Y Y (by intro u hu;rcases (by simpa using hu:u=_\/u=_\/u=_)with rfl|rfl|rfl<;>first|rfl|exact Vu _ _ _) Wu (by exact (rfl:_=(#[.string (str (NA q.kd)),.func (.func (Ue q.kd)) #[] #[],MH q.kd I J]:AK))) FA B1 (by exact BC _))<|Cp<|Ag<|Zn [4,1] ?_;refine Av (e':=[(4,_)]) (by exact ⟨bf,I,J,e1,U,K,O,l1,l7,⟨h1,h7,hG⟩,V,V⟩)
 rintro _ _ ⟨bf,I,J,e1,U,K,O,l1,l7,⟨h1,h7,hG⟩,rfl,rfl⟩;refine A1<|Ze (Al zeroValue105 #[_,_])<|AG fun b=>A6<|Zq<|Bc<|Zg<|Zh 0 ZD V rfl Fm Y<|Zl Hh Y ?_;refine Zc [_,_] Y call31 Y V (O7 b (.slice none 0 0) [] (NA q.kd) [] (Gs _) gy.1 Hi) ?_;rintro _ _ ⟨_,⟨v1,ic,l8,ek,rfl,rfl⟩,rfl⟩;refine A6<|A1<|Zv (Bg (vs:=[]) (us:=[_]) Y Y)<|A5 Y<|Zq<|A1<|Zh 1 ZD V rfl sizeOf97 Y<|Zl isAgg97 Y ?_;refine Zc [_] Y (uh hk) Y V (ug q.kd bq) ?_;rintro _ _ ⟨_,⟨sf,gq,rfl⟩,rfl⟩;rcases gq with⟨_,h0,_⟩|⟨gf,cf,cur,zf,rfl,rfl,hle,hcm,hcs,htk,hfr⟩
 · exfalso;have h0:=congrArg List.length h0;rw [B6]at h0;simp at h0;simp [h0]at d9
 simp only [B6]at hle htk;simp only [B6];refine Zv (Ac TO Y)<|Zm Y<|A6<|AQ<|Zb [26,4,5,6,24,25] ?_;refine BI (e0:=[(26,_)]) (fun m e H=>∃(i:Nat) (vb:A4) (sb:List A9),m=(Jy q.kd).length -i/\(i<=(Jy q.kd).length/\Row 5 vb ((upP q i).map u8v) sb)/\e=[(26,I4 (i:Int))]/\H=[[(b,.cells #[I5 b,vb] 105 (0,0))],sb]) (by exact ⟨0,v1,ic,V,⟨C7 _,ek⟩,V,V⟩) Wp ?_;rintro _ _ _ ⟨i,vb,sb,rfl,⟨hi,X⟩,rfl,rfl⟩;refine A1<|Zv (Ay Y Y)<|A6<|Zq<|Aw Y (fun dn=>?_) (fun dn=>?_);·
  have l5:=RH B i;obtain ⟨o,ho⟩:∃o,(Jy q.kd)[i]?=some o:=⟨_,BT A0⟩;have cu:(Jy q.kd).getD i 0=o:=by rw [Mz,ho];rfl
  have bn:=tB q.kd o (DQ ho);have ax:=tD q.kd o (DQ ho)
  have cO:cur[i]?=some (.pointer (some ⟨bq,o,none⟩)):=by
   have h:((Jy q.kd).map fun o=>(.pointer (some ⟨bq,o,none⟩):A4))[i]?=some (.pointer (some ⟨bq,o,none⟩)):=by rw [DP,ho];rfl
   rw [<-htk,HI,Ax A0]at h;simpa using h
  have j5:=Tf q.kd i;have af:=ZW _ (B o)
  refine AC<|Zx<|Zq<|AQ<|A1<|Zm Y<|BU (Be TO W7 Y Y cn)<|Zl isAgg114 Y (hv:=by exact cO) ?_;refine Za Y<|A5 Y<|Zq<|A1<|Zh 2 ZD V rfl sizeOf93 Y<|Zl isAgg93 Y ?_;refine Zm Y<|CS (cs:=[(I,.map e1 K),(J,.map U O)]) B4 (rj hk h1 h7 hG (i:=i) Y Y) V rfl ?_;refine Zm Y<|Zd Y V<|Zd Y V<|Za Y<|AW Y<|Zn [4,5,6,8,9,10,24,25,26] ?_;refine Zx<|A1<|Zm Y<|A6<|Aw Y (fun g=>?_) (fun g=>?_);·
   refine Zg<|Zm Y<|Zm Y<|Zc [_] Y (call32) Y V (SY b vb (upP q i) (JL q.kd i) sb X (List.length_pos_iff.2 g) A0) ?_;rintro _ _ ⟨_,⟨v4,l9,gm,rfl⟩,rfl⟩;refine A6<|Zg<|Zm Y<|Zm Y<|Zp Y V<|Zl AH Y (hv:=by exact zA q ax bn) ?_;refine Xr [_] Y call34 Y V (Vo (OD q o) (B o) Tp zp) ?_;refine Zc [_] Y (call32) Y V (SY b _ (TL q (upP q i) i) (Lib.itoa (OD q o)) _ (by unfold TL;(rw [As g];exact gm)) af.1 (by have:=ZB q (upP q i) i;omega)) ?_;rintro _ _ ⟨_,⟨v5,Z,G,rfl⟩,rfl⟩;rw [show X7 (TL q (upP q i) i) (Lib.itoa (OD q o))=upP q (i+1) from by rw [Y6,cu]]at G;refine Z0<|A8<|Zx<|Zg<|Ya (n:=1) Y Y<|Zm Y<|Z0<|Zn [26,4,5,6,24,25] ?_;refine Aa (e':=[(26,_)]) (by exact ⟨i+1,v5,Z,V,⟨by omega,G⟩,V,V⟩)
  refine AC<|Zx<|Zg<|Zm Y<|Zm Y<|Zp Y V<|Zl AH Y (hv:=by exact zA q ax bn) ?_;refine Xr [_] Y call34 Y V (Vo (OD q o) (B o) Tp zp) ?_;refine Zc [_] Y (call32) Y V (SY b _ (TL q (upP q i) i) (Lib.itoa (OD q o)) _ (by unfold TL;(rw [Ax (I0.1 g)];exact X)) af.1 (by have:=ZB q (upP q i) i;omega)) ?_;rintro _ _ ⟨_,⟨v5,Z,G,rfl⟩,rfl⟩;rw [show X7 (TL q (upP q i) i) (Lib.itoa (OD q o))=upP q (i+1) from by rw [Y6,cu]]at G;refine Z0<|A8<|Zx<|Zg<|Ya (n:=1) Y Y<|Zm Y<|Z0<|Zn [26,4,5,6,24,25] ?_;refine Aa (e':=[(26,_)]) (by exact ⟨i+1,v5,Z,V,⟨by omega,G⟩,V,V⟩)
 obtain rfl:i=(Jy q.kd).length:=by omega
 refine BD<|Zt<|Zt<|AV<|Zx<|A1<|Zc [_] Y call35 Y V (oh b vb _ sb X (RH B _).1 (by have:=RH B (Jy q.kd).length;omega)) ?_;rintro _ _ ⟨_,⟨rfl,rfl⟩,rfl⟩;refine Za Y<|A5 Y<|AJ<|DJ V results10 Y Y (by exact ⟨V,V⟩)
end Go.Proofs.YthhakdmlpngcmaaGreatDoor
namespace Go.Proofs.YthhakdmlpngcmaaGreatDoor
open Go.Proofs.Tryz
open Go Go.RowKit Gw
set_option maxRecDepth 100000
attribute [local irreducible] Gw.At Gw.Nx Gw.Ops
open Go.Sort
theorem vB(xs:List Bk):xs.map Value.string=(xs.map fun x=>x.data.toList).map encStr:=by
 rw [K0];rfl
theorem vF(ls:List (List UInt8)):ls.map encStr=(ls.map fun l=>(⟨l.toArray⟩:Bk)).map Value.string:=by
 rw [K0];rfl
theorem Rq{v:A4}{zs:List Bk}{s:List A9}(hr:Row 9 v (zs.map Value.string) s)(hl:zs.length<=1000000):BR prog 52 #[v] [s] (fun r H'=>∃(zs':List Bk) (s':List A9),r= .tuple #[]/\zs'.Perm zs/\(zs'.Pairwise fun x y=>x.data.toList<=y.data.toList)/\Row 9 v (zs'.map Value.string) s'/\H'=[s']):=fun u R w hs=>by
 obtain ⟨ls,m⟩:∃ls,ls=zs.map fun x=>x.data.toList:=⟨_,rfl⟩;have I:ls.length=zs.length:=by rw [m,B6]
 obtain ⟨G,B⟩:∃G,G=ls.mergeSort fun x y=>decide (x<=y):=⟨_,rfl⟩;have J:G.Perm ls:=by rw [B];exact oB _ _
 have W:G.Pairwise fun x y=>x<=y:=by
  have h:=List.pairwise_mergeSort (le:=fun x y:List UInt8=>decide (x<=y)) (fun a b c h1 h2=>by simp only [GO]at*;exact List.le_trans h1 h2) (fun a b=>by simp only [S3,GO];exact List.le_total a b) ls;rw [B];simpa only [GO]using h
 have O:(G.map fun l=>(⟨l.toArray⟩:Bk)).Perm zs:=by
  have h:=J.map fun l=>(⟨l.toArray⟩:Bk);rw [m,K0]at h;have e:zs.map ((fun l:List UInt8=>(⟨l.toArray⟩:Bk))∘fun x=>x.data.toList)=zs:=by
   conv=>rhs;rw [<-List.map_id zs]
   rfl
  rwa [e]at h
 have U:(G.map fun l=>(⟨l.toArray⟩:Bk)).Pairwise fun x y=>x.data.toList<=y.data.toList:=by rw [US];exact W
 rcases hr with⟨rfl,h0,rfl⟩|⟨g,cap,cur,z,rfl,rfl,hle,hcm,hcs,htk,hfr⟩
 · have hx:zs=[]:=by simpa using h0
   subst hx;refine (Tryz.slices_Sort_string_none none 0 w).mono ?_;rintro e w' ⟨rfl,rfl⟩;exact .inl ⟨_,[[]],V,⟨[],[],V,.refl _,.nil,by simp [Gs],V⟩,hs⟩
 · rw [vB,<-m]at htk
   rw [B6]at hle⊢;rw [B6]at htk;have K:Sat u ([(g,.cells cur 9 z)]::R) w:=by simpa using hs
   have Z:=K.get (g,.cells cur 9 z) B4;have hH:=Te (zs:=ls) Z A0 hfr htk
   have hc:=Tryz.slices_Sort_string g 0 cap ls w hH (HU.1 Z).1 A0;rw [I]at hc;refine hc.mono ?_;rintro e w' ⟨rfl,n,os,rfl⟩;rw [<-B];have X:=J.length_eq
   refine .inl ⟨_,[[(g,.cells (putCells encStr 0 G.toArray cur) 9 z)]],V,⟨_,_,V,O,U,?_,V⟩,by simpa using K.sorted (n:=n) _ os⟩;refine .inr ⟨g,cap,_,z,by rw [B6,B6,X,I],rfl,by rw [B6,B6];omega,hcm,by rw [Mh];exact hcs,?_,by rw [Mh];exact hfr⟩;rw [<-vF,B6];exact YX _ _ A0
theorem fT(mi:Nat):BR prog 54 #[.map (some mi)] [] (fun r H'=>∃b,r= .func (.func 107) #[] #[I5 b]/\H'=[[(b,.cells #[.map (some mi)] 92 (0,0))]]):=by
 refine Se func54 ntmps54 [0] ?_;intro u R;refine A1<|Ze (Bx #[_])<|AG fun b=>A5 Y<|A1<|Zv (Bg (vs:=[]) (us:=[_]) Y Y)<|A5 Y<|AJ<|AP V results54 Y (by exact ⟨b,V,V⟩)
variable{es:Array MapEntry}{ck:Nat}{lm:List (Bk×A4)}
theorem fU(U:Co (fun n:Bk=>Value.string n) es ck lm)(b mi:Nat):Kc prog 107 #[I5 b] [[(b,.cells #[.map (some mi)] 92 (0,0))]] (fun _ s=>(mi,Obj.map es ck)∈s) (fun x:Bk=>#[.string x]) (Mw lm) (fun ys=>ys.Perm (lm.map (·.1))):=by
 intro l J W hy s B;refine Se func107 ntmps107 [0,1] ?_;intro u R;refine A1<|Zl ON Y<|Ze (Le RC Y (Dy Wo (W _ s B)))<|AG fun ib=>A6<|AQ<|Zb [0,5] ?_;refine BI (e0:=[]) (fun m e H=>∃(js:List Nat) (seen:Array Nat) (s:List A9),m=lm.length -js.length/\(Iq es js seen/\J ((DW lm js).map (·.1)) s)/\e=[]/\H=[[(ib,.mapIter (some mi) ck seen ck)],s]) (by exact ⟨[],#[],s,V,⟨KR _,B⟩,V,V⟩) Wp ?_;rintro _ _ _ ⟨js,seen,s,rfl,⟨I,B⟩,rfl,rfl⟩;have X:=F9 es.size js I.nodup I.lt
 rw [U.size]at X;refine A1<|Ze (NT U I Y Wo (Dy Wo (W _ s B))) ?_;rintro _ _ af;rcases af with⟨G,rfl,rfl⟩|⟨jn,pn,seen2,hpn,hjn,hi2,rfl,rfl⟩
 ·
  refine Zd Y V<|A6<|Zq<|AU Y (fun g=>by cases g)<|fun g=>BD<|Zt<|Zt<|AV<|Ce V results107 (by exact ⟨_,s,G.map _,V,B⟩)
 refine Zd Y V<|A6<|Zq<|AU Y (fun g=>?_) (fun g=>?_);·
  have O:=F9 es.size (js++[jn]) hi2.nodup hi2.lt;rw [U.size,Bm,F2]at O;have cu:(js++[jn]).length=js.length+1:=by rw [Bm];rfl
  have ax:Mw lm ((DW lm js).map (·.1)++[pn.1]):=by
   have h:=Sr (l:=lm) hi2.nodup (fun j hj=>by rw [<-U.size];exact hi2.lt j hj);rw [G9 lm js hpn,C0]at h;exact h
  have bn:=hy ((DW lm js).map (·.1)) pn.1 s ax B;refine AC<|Zx<|AQ<|Zq<|Zg ?_;have Z:=W _ s B
  refine CS (cs:=[(ib,.mapIter (some mi) ck seen2 ck),(mi,.map es ck)]) (by simp [Z]) (JG U hi2 hpn Y) V rfl<|Zd Y V<|A5 Y<|A1<|Zm Y<|Zm Y<|Ze (Fe (vs:=[_]) Y Y (bn) Wp) ?_;rintro _ _ ⟨_,⟨s',rfl,rfl,K⟩,rfl⟩;rw [show(DW lm js).map (·.1)++[pn.1]=(DW lm (js++[jn])).map (·.1) by rw [G9 lm js hpn,C0];rfl]at K;refine Zv (Bt Y)<|A6<|AU Y (fun g=>by cases g)<|fun g=>AC<|A8<|Zn [0,5] ?_;refine Aa (e':=[]) (by exact ⟨js++[jn],seen2,s',V,⟨hi2,K⟩,V,V⟩)
 cases g
variable{M:List A9}
theorem RB(hm:Co (fun n:Bk=>Value.string n) es ck lm)(hn:lm.length<=1000000)(b mi:Nat)(O:(mi,Obj.map es ck)∈M):BR prog 172 #[.slice none 0 0,.func (.func 107) #[] #[I5 b]] [[(b,.cells #[.map (some mi)] 92 (0,0))],M] (fun r H'=>∃(zs:List Bk) (s':List A9),zs.Perm (lm.map (·.1))/\Row 9 r (zs.map Value.string) s'/\H'=[M,s']):=by
 have af:=mL;refine DU func172 V ntmps172 V ?_;intro u R;refine Zb [0,1] ?_;refine A1<|Ze (Bx #[_])<|AG fun X=>A5 Y<|Zq<|A1<|Zm Y<|A6<|AQ<|Zb [2,6] ?_;refine Bc<|J6 (H0:=_) (R:=_) (I:=(fun(pre:List Bk) H=>∃m s2,H=[[(X,.cells #[m] 52 (0,0))],s2,M]/\Row 9 m (pre.map Value.string) s2)) (E:=fun x e Hn=>e=[(5,.string x),(7,.string x)]/\Hn=[]) rfl Y call107 (fU hm b mi) (fun pre H1 c d h=>by obtain ⟨m,s2,rfl,_⟩:=h;simp [O]) Y rfl Wp (⟨_,[],rfl,Gs _⟩) ?ha_2 ?hbd_2 ?hk_2
 case ha_2=>
  intro _ x _ _;refine Zg<|AW Y<|L6 (e:=[(5,_),(7,_)]) (Hn:=[]) ?_;exact ⟨V,V⟩
 case hbd_2=>
  intro l pre x u e9 W H1 R1 r9 U Z G;obtain ⟨rfl,rfl⟩:=G;obtain ⟨m,s2,rfl,B⟩:=Z;have ax:=U.len
  obtain ⟨gv,cv,rfl⟩:=B.form;refine AQ<|Zg<|Zl LL Y<|Zm Y<|Ze (Ai (vs:=[_]) (cs:=[_]) DH Fm HS Y V rfl V rfl V)<|AG fun b2=>Ze (Dj (by_:=16) (news:=[_]) DH (V:Tryz.prog.info? 9=some Tryz.t9) V rfl V rfl Y B Y Wo Wh B0 V Ft B1 (by(simp only [B6];omega)) (by(simp only [B6];omega))) ?_;rintro _ _ ⟨sq,g,rfl⟩;obtain ⟨gq,cq,rfl⟩:=g.form;refine Xe (Zs I3 Y Y rfl)<|Z0<|A8<|Eg rfl (by exact ⟨_,_,rfl,by rw [C0];exact g⟩)
 intro D1 ys H2 K J;obtain ⟨m,s2,rfl,B⟩:=J;refine Zn [2] ?_;refine A8<|Zx<|A1<|Zl LL Y<|A5 Y<|AJ<|Fv V (dU results172 Y) Wo (by exact ⟨ys,s2,K,B,V⟩)
theorem Uh(m:Co (fun n:Bk=>Value.string n) es ck lm)(B:lm.length<=1000000)(b mi:Nat)(g:(mi,Obj.map es ck)∈M):BR prog 106 #[.func (.func 107) #[] #[I5 b]] [[(b,.cells #[.map (some mi)] 92 (0,0))],M] (fun r H'=>∃(zs:List Bk) (s':List A9),zs.Perm (lm.map (·.1))/\Row 9 r (zs.map Value.string) s'/\H'=[M,s']):=by
 refine Se func106 ntmps106 [0] ?_;intro u R;refine A1<|A5 Y<|A1<|Zm Y<|Zc [_,_] Y call172 Y V (RB m B b mi g) ?_;rintro _ _ ⟨_,⟨zs,s2,G,I,rfl⟩,rfl⟩;refine A5 Y<|AJ<|AP V results106 Y (by exact ⟨zs,s2,G,I,V⟩)
theorem Wm(O:Co (fun n:Bk=>Value.string n) es ck lm)(U:lm.length<=1000000)(b mi:Nat)(g:(mi,Obj.map es ck)∈M):BR prog 53 #[.func (.func 107) #[] #[I5 b]] [[(b,.cells #[.map (some mi)] 92 (0,0))],M] (fun r H'=>∃(zs:List Bk) (s':List A9),zs.Perm (lm.map (·.1))/\(zs.Pairwise fun x y=>x.data.toList<=y.data.toList)/\Row 9 r (zs.map Value.string) s'/\H'=[M,s']):=by
 refine Se func53 ntmps53 [0] ?_;intro u R;refine A1<|A5 Y<|A1<|Zm Y<|Zc [_] Y call106 Y V (Uh O U b mi g) ?_;rintro _ _ ⟨_,⟨zs,s2,K,W,rfl⟩,rfl⟩;have I:=K.length_eq
 rw [B6]at I;refine A5 Y<|A1<|Zm Y<|Zc [_] Y call52 Y V (Rq W A0) ?_;rintro _ _ ⟨_,⟨J,X,rfl,m,G,B,rfl⟩,rfl⟩;refine A6<|A1<|Zm Y<|A5 Y<|AJ<|AP V results53 Y (by exact ⟨J,X,m.trans K,G,B,V⟩)
end Go.Proofs.YthhakdmlpngcmaaGreatDoor
namespace Go.Proofs.YthhakdmlpngcmaaGreatDoor
open Go.Proofs.Tryz
open Go Go.RowKit Gw
set_option maxRecDepth 100000
attribute [local irreducible] Gw.At Gw.Nx Gw.Ops
structure Bf where
 b:Nat
 key:Bk
 te:Int
 sz:Int
structure BS where
 r:Nat
 E:List Bf
 nx:Nat->A4
 bf:Nat->A4
 cap:Int
 sh:A4
 us:A4
 mv:A4
 fr:Int
def Cq(f:Nat->A4)(a:Nat)(v:A4):Nat->A4:=fun x=>if x=a then v else f x
theorem IB(f:Nat->A4)(a:Nat)(v:A4):Cq f a v a=v:=Ax rfl
variable{x:Nat}
theorem EO(f:Nat->A4){a:Nat}(v:A4)(h:x≠a):Cq f a v x=f x:=As h
def Bf.ch(nx bf:Nat->A4)(e:Bf):A9:=(e.b,.cells #[.string e.key,I4 e.te,I4 e.sz,bf e.b,nx e.b] 157 (0,0))
def BS.S(z:BS):List A9:=(z.r,.cells #[.string ⟨#[]⟩,I4 0,I4 0,z.bf z.r,z.nx z.r,I4 z.cap,z.sh,z.us,z.mv,I4 z.fr] 161 (0,0))::z.E.map (Bf.ch z.nx z.bf)
def BS.bl(z:BS):List Nat:=z.r::z.E.map (·.b)
theorem BS.keys(z:BS):z.S.map (·.1)=z.bl:=by
 unfold BS.S BS.bl;rw [Dd,K0];rfl
theorem BS.root(z:BS):(z.r,Obj.cells #[.string ⟨#[]⟩,I4 0,I4 0,z.bf z.r,z.nx z.r,I4 z.cap,z.sh,z.us,z.mv,I4 z.fr] 161 (0,0))∈z.S:=E0 ..
variable{e:Bf}
theorem BS.node(z:BS)(g:e∈z.E):(e.b,Obj.cells #[.string e.key,I4 e.te,I4 e.sz,z.bf e.b,z.nx e.b] 157 (0,0))∈z.S:=E7 _ (DS (f:=Bf.ch z.nx z.bf) g)
theorem Ga{α β:Type}{f:α->β}:∀{l:List α},(l.map f).Nodup->∀{x y:α},x∈l->y∈l->f x=f y->x=y
 |a::l,hn,x,y,hx,hy,e=>by
  rw [Dd,HK]at hn;rcases DB.1 hx with h1|h1
  · rcases DB.1 hy with h2|h2
    · rw [h1,h2]
    · exact absurd (by rw [<-h1,e];exact DS h2) hn.1
  · rcases DB.1 hy with h2|h2
    · exact absurd (by rw [<-h2,<-e];exact DS h1) hn.1
    · exact Ga hn.2 h1 h2 e
theorem BS.upd(z:BS)(K:z.bl.Nodup){a:Nat}(B:a∈z.bl):∃c T,(a,Obj.cells c T (0,0))∈z.S/\(c.size=5\/c.size=10)/\∀v,IL a (.cells (c.setIfInBounds 4 v) T (0,0)) z.S=({z with nx:=Cq z.nx a v}:BS).S/\IL a (.cells (c.setIfInBounds 3 v) T (0,0)) z.S=({z with bf:=Cq z.bf a v}:BS).S:=by
 have g:(z.r::z.E.map (·.b)).Nodup:=K;rw [HK]at g;rcases DB.1 B with rfl|B
 · refine ⟨_,_,z.root,.inr rfl,fun v=>?_⟩
   have I:∀e∈z.E,e.b≠z.r:=fun e m h=>g.1 (h▸DS m);constructor<;>
   · unfold IL BS.S
     rw [Dd,Ax rfl];congr 1;· simp only [IB];rfl
     · rw [K0]
       refine Wc fun e m=>?_;show(if e.b=z.r then _ else _)=_
       rw [As (I e m)];unfold Bf.ch;simp only [EO _ _ (I e m)]
 · obtain ⟨e,m,rfl⟩:=C6.1 B
   refine ⟨_,_,z.node m,.inl V,fun v=>?_⟩;have J:z.r≠e.b:=fun h=>g.1 (h▸DS m)
   constructor<;>
   · unfold IL BS.S
     rw [Dd,As J];congr 1;· simp only [EO _ _ J]
     · rw [K0]
       refine Wc fun e' G=>?_;show(if e'.b=e.b then _ else _)=_
       split
       · rename_i h
         obtain rfl:=Ga g.2 G m h;unfold Bf.ch;simp only [IB];rfl
       · rename_i h
         unfold Bf.ch;simp only [EO _ _ h]
theorem BS.fr_upd(z:BS)(B:z.bl.Nodup)(v:Int):IL z.r (.cells ((#[.string ⟨#[]⟩,I4 0,I4 0,z.bf z.r,z.nx z.r,I4 z.cap,z.sh,z.us,z.mv,I4 z.fr]:AK).setIfInBounds 9 (I4 v)) 161 (0,0)) z.S=({z with fr:=v}:BS).S:=by
 have g:(z.r::z.E.map (·.b)).Nodup:=B;rw [HK]at g;have G:∀e∈z.E,e.b≠z.r:=fun e m h=>g.1 (h▸DS m)
 unfold IL BS.S;rw [Dd,Ax rfl];congr 1;rw [K0];refine Wc fun e m=>?_;show(if e.b=z.r then _ else _)=_
 rw [As (G e m)]
def EW:Nat->List Nat->Nat->List (Nat×Nat)
 |a,[],c=>[(a,c)]
 |a,b::l,c=>(a,b)::EW b l c
theorem Kt:∀(a:Nat) (l:List Nat),∃A p,∀y,EW a l y=A++[(p,y)]
 |a,[]=>⟨[],a,fun _=>rfl⟩
 |a,b::l=>by
  obtain ⟨A,p,h⟩:=Kt b l;exact ⟨(a,b)::A,p,fun y=>by rw [EW,h];rfl⟩
theorem Su:∀(l:List Nat) (c:Nat),∃n B,∀x,EW x l c=(x,n)::B
 |[],c=>⟨c,[],fun _=>rfl⟩
 |b::l,c=>⟨b,EW b l c,fun _=>rfl⟩
theorem KL:∀(a:Nat) (l:List Nat) (x:Nat) (m:List Nat) (c:Nat),EW a (l++x::m) c=EW a l x++EW x m c
 |a,[],x,m,c=>rfl
 |a,b::l,x,m,c=>by
  show(a,b)::EW b (l++x::m) c=_;rw [KL b l x m c];rfl
theorem Hw:∀(a:Nat) (l:List Nat) (c:Nat),(EW a l c).map (·.1)=a::l
 |a,[],c=>rfl
 |a,b::l,c=>by rw [EW,Dd,Hw b l c]
theorem JB:∀(a:Nat) (l:List Nat) (c:Nat),(EW a l c).map (·.2)=l++[c]
 |a,[],c=>rfl
 |a,b::l,c=>by rw [EW,Dd,JB b l c];rfl
def pV(b:Nat):A4:=I5 b
def H6(nx bf:Nat->A4)(r:Nat)(l:List Nat):Prop:=∀q∈EW r l r,nx q.1=pV q.2/\bf q.2=pV q.1
variable{bf nx:Nat->A4}{r:Nat}
theorem qh(h:nx r=pV r)(h2:bf r=pV r):H6 nx bf r []:=fun q g=>by
 obtain rfl:=C5.1 g;exact ⟨h,h2⟩
theorem SK{l:List Nat}(g:(r::l).Nodup):((EW r l r).map (·.1)).Nodup/\((EW r l r).map (·.2)).Nodup:=by
 rw [Hw,JB];refine ⟨g,?_⟩;rw [HK]at g;rw [GW];exact ⟨g.2,by simp,fun x m y B=>by rw [C5.1 B];rintro rfl;exact g.1 m⟩
theorem YS{l1 l2:List Nat}(U:(r::(l1++x::l2)).Nodup)(h:H6 nx bf r (l1++x::l2)):∃p n,p∈r::(l1++l2)/\n∈r::(l1++l2)/\bf x=pV p/\nx x=pV n/\H6 (Cq nx p (pV n)) (Cq bf n (pV p)) r (l1++l2):=by
 obtain ⟨A,p,K⟩:=Kt r l1;obtain ⟨n,B,O⟩:=Su l2 r;have e1:EW r (l1++x::l2) r=A++(p,x)::(x,n)::B:=by rw [KL,K,O];simp
 have e2:EW r (l1++l2) r=A++(p,n)::B:=by
  cases l2 with
  |nil=>
   have J:=O 0;injection J with h2 h3
   injection h2 with _ h2
   subst h2 h3;rw [D2,K]
  |cons y m=>
   have J:=O 0;injection J with h2 h3
   injection h2 with _ h2
   subst h2;rw [KL,K,<-h3];simp
 obtain ⟨I,d2⟩:=SK U;rw [e1,C0,Dd,Dd,GW,HK,HK]at I d2;have W:p∈r::(l1++l2):=by
  have:=Hw r (l1++l2) r;rw [e2]at this;rw [<-this];simp
 have g:n∈r::(l1++l2):=by
  have:=JB r (l1++l2) r;rw [e2]at this;have G:n∈l1++l2++[r]:=by rw [<-this];simp
  rcases C2.1 G with G|G
  · exact E7 _ G
  · rw [C5.1 G];exact E0 ..
 refine ⟨p,n,W,g,(h _ (by rw [e1];simp:(p,x)∈_)).2,(h _ (by rw [e1];simp:(x,n)∈_)).1,fun q g=>?_⟩;rw [e2]at g;rcases C2.1 g with g|g
 · have h0:=h q (by rw [e1];simp [g])
   rw [EO _ _ fun e=>I.2.2 _ (DS g) p (E0 ..) e,EO _ _ fun e=>d2.2.2 _ (DS g) n (E7 _ (E0 ..)) e];exact h0
 · rcases DB.1 g with rfl|g
   · exact ⟨IB _ _ _,IB _ _ _⟩
   · have h0:=h q (by rw [e1];simp [g])
     rw [EO _ _ fun e=>I.2.1.1 (by show p∈_;rw [<-e];exact E7 _ (DS g)),EO _ _ fun e=>d2.2.1.2.1 (by show n∈_;rw [<-e];exact DS g)];exact h0
theorem qi{l:List Nat}(X:(r::l).Nodup)(J:x∉r::l)(h:H6 nx bf r l):∃p,p∈r::l/\bf r=pV p/\H6 (Cq (Cq nx x (pV r)) p (pV x)) (Cq (Cq bf x (pV p)) r (pV x)) r (l++[x]):=by
 obtain ⟨A,p,U⟩:=Kt r l;have e1:=U r
 have e2:EW r (l++[x]) r=A++(p,x)::[(x,r)]:=by rw [KL,U];simp [EW]
 obtain ⟨O,d2⟩:=SK X;rw [e1,C0,GW]at O d2;have W:p∈r::l:=by
  have:=Hw r l r;rw [e1]at this;rw [<-this];simp
 have I:x≠r:=fun e=>J (by rw [e];exact E0 ..);have K:x≠p:=fun e=>J (by rw [e];exact W)
 refine ⟨p,W,(h _ (by rw [e1];simp:(p,r)∈_)).2,fun q g=>?_⟩;rw [e2]at g;have B:∀q∈A,q.1∈r::l:=fun q g=>by
  rw [<-Hw r l r,e1];exact DS (by simp [g])
 have G:∀q∈A,q.2≠x:=fun q g e=>by
  have m:q.2∈l++[r]:=by rw [<-JB r l r,e1];exact DS (by simp [g])
  rw [e]at m;rcases C2.1 m with m|m
  · exact J (E7 _ m)
  · exact I (C5.1 m)
 rcases C2.1 g with g|g
 · have h0:=h q (by rw [e1];simp [g])
   rw [EO _ _ fun e=>O.2.2 _ (DS g) p (E0 ..) e,EO _ _ fun e=>J (by rw [<-e];exact B q g),EO _ _ fun e=>d2.2.2 _ (DS g) r (E0 ..) e,EO _ _ (G q g)];exact h0
 · rcases DB.1 g with rfl|g
   · exact ⟨IB _ _ _,by show Cq _ _ _ x=_;rw [EO _ _ I,IB]⟩
   · obtain rfl:=C5.1 g
     exact ⟨by show Cq _ _ _ x=_;rw [EO _ _ K,IB],IB _ _ _⟩
theorem iH(r:Nat)(T:AM)(zz:Nat×Nat)(g m B W U G I J K O:A4):BR prog 67 #[I5 r] [[(r,.cells #[g,m,B,W,U,G,I,J,K,O] T (0,0))]] (fun v H'=>v=undef/\H'=[[(r,.cells #[g,m,B,I5 r,I5 r,G,I,J,K,O] T (0,0))]]):=by
 refine Se func67 ntmps67 [0] ?_;intro u R;refine BA (n:=16) (0::0::0::4::12::0::32::96::29::285::797::1821::4095::8191::16383::32767::[]) 34816 AF AF V<|A3 0 V (AO Y)<|A3 1 V (AO Y)<|A3 2 V (AO Y)<|A3 3 V (Ak Y V)<|A3 4 V (AA (off:=0) dv V rfl cX Y)<|A3 5 V (AO Y)<|A3 6 V (Ak Y V)<|A3 7 V (AA (off:=0) dv V rfl cX Y)<|A3 8 V (Ak Y V)<|A3 9 V (AA (off:=0) dv V rfl cX Y)<|A3 10 V (AA (off:=3) HD V rfl H4 Y)<|Zz (l:=[11])<|B7 [] [] V rfl (Zs H4 Y Y V) ?_ (fun _ _ h=>h.elim) Aj;rintro _ _ ⟨rfl,rfl⟩;refine BW<|A3 12 V (Ak Y V)<|A3 13 V (AA (off:=0) dv V rfl cX Y)<|A3 14 V (AA (off:=4) HD V rfl H4 Y)<|Zz (l:=[15])<|B7 [] [] V rfl (Zs H4 Y Y V) ?_ (fun _ _ h=>h.elim) Aj;rintro _ _ ⟨rfl,rfl⟩;refine BW<|Ag<|Ce V results67 (by exact ⟨V,V⟩)
theorem QS(z:BS)(G:z.bl.Nodup)(B:e∈z.E){p n:Nat}(J:p∈z.bl)(I:n∈z.bl)(g:z.bf e.b=pV p)(m:z.nx e.b=pV n):BR prog 131 #[.pointer (some ⟨e.b,0,none⟩)] [z.S] (fun v H'=>v=undef/\H'=[({z with nx:=Cq z.nx p (pV n),bf:=Cq z.bf n (pV p)}:BS).S]):=by
 obtain ⟨c1,X,K,s1,U⟩:=z.upd G J;obtain ⟨c2,Z,O,s2,W⟩:=BS.upd ({z with nx:=Cq z.nx p (pV n)}:BS) G I;refine Se func131 ntmps131 [0] ?_;intro u R;refine BA (n:=22) (0::1::3::7::0::16::48::112::0::256::768::1792::0::4096::12288::28672::65535::131071::262143::524287::1048575::2097151::[]) 2359296 AF AF V<|A3 0 V (AO Y)<|A3 1 V (Ak Y V)<|A3 2 V (AA (off:=3) HD V rfl H4 Y)<|Cc (D':=15) 3 V rfl V (Dy Wo (z.node B)) (BF SJ Y (congrArg some g)) ?_;refine A3 4 V (AO Y)<|A3 5 V (Ak Y V)<|A3 6 V (AA (off:=4) HD V rfl H4 Y)<|Cc (D':=255) 7 V rfl V (Dy Wo (z.node B)) (BF SJ Y (congrArg some m)) ?_;refine A3 8 V (AO Y)<|A3 9 V (Ak Y V)<|A3 10 V (AA (off:=4) HD V rfl H4 Y)<|Cc (D':=4095) 11 V rfl V (Dy Wo (z.node B)) (BF SJ Y (congrArg some m)) ?_;refine A3 12 V (AO Y)<|A3 13 V (Ak Y V)<|A3 14 V (AA (off:=3) HD V rfl H4 Y)<|Cc (D':=65535) 15 V rfl V (Dy Wo (z.node B)) (BF SJ Y (congrArg some g)) ?_;refine A3 16 V (Ak Y V)<|A3 17 V (AA (off:=4) HD V rfl H4 Y)<|Zz (l:=[18])<|B7 [false,false,false,false] [] V rfl (Fh H4 Y Y V Wo (K) (by exact (U _).1) A0 (by exact BC _)) ?_ (fun _ _ h=>h.elim) Aj;rintro _ _ ⟨rfl,rfl⟩;refine BW<|A3 19 V (Ak Y V)<|A3 20 V (AA (off:=3) HD V rfl H4 Y)<|Zz (l:=[21])<|B7 [] [] V rfl (Fh H4 Y Y V Wo (O) (by exact (W _).2) A0 (by exact BC _)) ?_ (fun _ _ h=>h.elim) Aj;rintro _ _ ⟨rfl,rfl⟩;refine BW<|Ag<|Ce V results131 (by exact ⟨V,V⟩)
variable{v:A4}{k:Nat}
theorem Ob{e:AM}{xs:List A4}{s:List A9}(h:Row e v xs s){y0:A4}(K:xs[k]?=some y0):∃b cap cur z,v=I6 b xs.length cap/\s=[(b,.cells cur e z)]/\k<cur.size/\Ie z cur.size/\cur[k]?=some y0/\∀y:A4,Row e v (xs.set k y) [(b,.cells (cur.setIfInBounds k y) e z)]:=by
 have I:=(C4.1 K).1;obtain ⟨b,cap,cur,z,hv,J,O,h2,U⟩:=xE h I;refine ⟨b,cap,cur,z,hv,J,O,h2,?_,U⟩;obtain ⟨X,B,G,Z,W,g,_,_,_,m,_⟩:=h.some A0;rw [J]at g;injection g with g _
 injection g with _ g
 injection g with g _
 subst g;rw [<-HQ,<-lP I,m];exact K
def Ck(L:List Bf)(k:Int):Int:=(L.map fun e=>if e.te=k then e.sz else 0).sum
def Fj(L:List Bf):Int:=(L.map (·.sz)).sum
structure CK(z:BS)(ns:Nat)(L:List Bf)(mb:Nat)(es:Array MapEntry)(ck:Nat)(lm:List (Bk×A4))(su:List A9):Prop where
 sub:∀e∈L,e∈z.E
 ring:H6 z.nx z.bf z.r (L.map (·.b))
 mv:z.mv= .map (some mb)
 map:Co (fun k:Bk=>Value.string k) es ck lm
 mem:∀p,p∈lm↔∃e∈L,p=(e.key,pV e.b)
 keys:(L.map (·.key)).Nodup
 used:Row 3 z.us ((List.range ns).map fun k:Nat=>Value.int .i64 (Ck L (k:Int))) su
 te:∀e∈L,0<=e.te/\e.te<(ns:Int)
 sz:∀e∈L,1<=e.sz
 free:z.fr=z.cap -Fj L
 room:0<=z.fr
 sh:∃a c,z.sh= .slice a ns c
 cap:1<=z.cap/\z.cap<=1000000
theorem GM(A B:List Bf)(k:Int):Ck (A++B) k=Ck A k+Ck B k:=by unfold Ck;rw [C0,oe]
theorem FU(e:Bf)(L:List Bf)(k:Int):Ck (e::L) k=(if e.te=k then e.sz else 0)+Ck L k:=by unfold Ck;rw [Dd,j8]
theorem OG(A B:List Bf):Fj (A++B)=Fj A+Fj B:=by unfold Fj;rw [C0,oe]
theorem Gd(e:Bf)(L:List Bf):Fj (e::L)=e.sz+Fj L:=by unfold Fj;rw [Dd,j8]
theorem NU:∀{L:List Bf},(∀e∈L,1<=e.sz)->∀k,0<=Ck L k/\Ck L k<=Fj L
 |[],_,k=>by unfold Ck Fj;simp
 |e::L,h,k=>by
  have m:=NU (fun x g=>h x (E7 _ g)) k;have h2:=h e (E0 ..)
  rw [FU,Gd];split<;>omega
variable{ns:Nat}
theorem Pv(f g:Nat->A4)(B:k<ns)(hv:g k=v)(m:∀i,i<ns->i≠k->g i=f i):((List.range ns).map f).set k v=(List.range ns).map g:=by
 apply Mb;intro i;rw [T0,B6,Wg,DP,DP];by_cases hi:i<ns
 · rw [Ss hi]
   by_cases e:k=i
   · subst e;rw [Ax rfl,Ax hi,<-hv];rfl
   · rw [As e];exact congrArg some (m i hi (dt e)).symm
 · rw [As (by omega:¬k=i),MT Hi];rfl
variable{z:BS}{L:List Bf}{mb ck:Nat}{es:Array MapEntry}{lm:List (Bk×A4)}{su:List A9}
theorem CK.nodup(h:CK z ns L mb es ck lm su)(B:z.bl.Nodup):(z.r::L.map (·.b)).Nodup:=by
 have g:(z.r::z.E.map (·.b)).Nodup:=B;rw [HK]at g⊢;refine ⟨fun J=>?_,?_⟩
 · obtain ⟨e,G,m⟩:=C6.1 J
   exact g.1 (m▸DS (h.sub e G))
 · have I:=US.1 h.keys
   refine US.2 (I.imp_of_mem fun{a b} ha m hne e=>hne ?_);rw [Ga g.2 (h.sub a ha) (h.sub b m) e]
theorem CK.use(h:CK z ns L mb es ck lm su)(k:Int):0<=Ck L k/\Ck L k<=1000000:=by
 have g:=NU h.sz k;have h2:=h.free;have m:=h.room;have B:=h.cap
 omega
theorem CK.size(h:CK z ns L mb es ck lm su)(m:e∈L):1<=e.sz/\e.sz<=1000000:=by
 obtain ⟨A,B,rfl⟩:=Wf m;have G:=OG A (e::B)
 rw [Gd]at G;have O:=(NU (fun x g=>h.sz x (Ek _ g):∀x∈A,1<=x.sz) 0)
 have U:=(NU (fun x g=>h.sz x (G2 _ (E7 _ g)):∀x∈B,1<=x.sz) 0);have h2:=h.free;have I:=h.room;have J:=h.cap;have K:=h.sz e m
 omega
theorem CK.get(h:CK z ns L mb es ck lm su)(g:e∈L):Dp e.key lm=some (pV e.b):=D7 h.map.keys ((h.mem _).2 ⟨e,g,rfl⟩)
theorem CK.none{z:BS}{ns:Nat}{L:List Bf}{mb:Nat}{es:Array MapEntry}{ck:Nat}{lm:List (Bk×A4)}{su:List A9}(h:CK z ns L mb es ck lm su){K:Bk}(g:∀e∈L,e.key≠K):Dp K lm=none:=Da fun p B=>by
 obtain ⟨e,m,rfl⟩:=(h.mem p).1 B;exact g e m
variable{L2 L1:List Bf}
theorem Sg(h:CK z ns (L1++e::L2) mb es ck lm su)(hr:H6 nx bf z.r ((L1++L2).map (·.b))){J:Array MapEntry}{I:Nat}{G:List (Bk×A4)}
 (hm:Co (fun k:Bk=>Value.string k) J I G)(hp:∀p,p∈G↔p∈lm/\p.1≠e.key)(hk:e.te=(k:Int)){O:List A9}(X:Row 3 z.us (((List.range ns).map fun i:Nat=>Value.int .i64 (Ck (L1++e::L2) (i:Int))).set k (I4 (Ck (L1++e::L2) (k:Int)+(-1)*e.sz))) O):
 CK {z with nx:=nx,bf:=bf,fr:=z.fr -(-1)*e.sz} ns (L1++L2) mb J I G O:=by
 have B:∀x∈L1++L2,x∈L1++e::L2:=fun x g=>by
  rcases C2.1 g with g|g
  · exact Ek _ g
  · exact G2 _ (E7 _ g)
 have U:k<ns:=by have:=(h.te e B4).2;omega
 have K:∀i:Int,Ck (L1++e::L2) i=Ck (L1++L2) i+if e.te=i then e.sz else 0:=fun i=>by
  rw [GM,FU,GM];omega
 have m:=h.keys;rw [C0,Dd,GW,HK]at m;have W:∀x∈L1++L2,x.key≠e.key:=fun x g=>by
  rcases C2.1 g with g|g
  · exact m.2.2 _ (DS g) _ (E0 ..)
  · exact fun hh=>m.2.1.1 (hh▸DS g)
 have h1:=h.sz e B4;have h2:=h.room
 have Z:=h.free;rw [OG,Gd]at Z;refine ⟨fun x g=>h.sub x (B x g),hr,h.mv,hm,fun p=>?_,?_,?_,fun x g=>h.te x (B x g),fun x g=>h.sz x (B x g),?_,?_,h.sh,h.cap⟩
 · rw [hp,h.mem]
   constructor
   · rintro ⟨⟨x,g,rfl⟩,hn⟩
     rcases C2.1 g with g|g
     · exact ⟨x,Ek _ g,rfl⟩
     · rcases DB.1 g with rfl|g
       · exact absurd rfl hn
       · exact ⟨x,G2 _ g,rfl⟩
   · rintro ⟨x,g,rfl⟩
     exact ⟨⟨x,B x g,V⟩,W x g⟩
 · rw [C0,GW]
   exact ⟨m.1,m.2.1.2,fun a ha b hb=>m.2.2 a ha b (E7 _ hb)⟩
 · rw [Pv (v:=I4 (Ck (L1++e::L2) (k:Int)+(-1)*e.sz)) (fun i:Nat=>Value.int .i64 (Ck (L1++e::L2) (i:Int))) (fun i:Nat=>Value.int .i64 (Ck (L1++L2) (i:Int))) U (by show Value.int .i64 _=Value.int .i64 _;rw [K,Ax hk];congr 1;omega) (fun i _ hi=>by
    show Value.int .i64 _=Value.int .i64 _;rw [K,As A0];congr 1;omega)]at X
   exact X
 · show z.fr -(-1)*e.sz=z.cap -_
   rw [OG];omega
 · show 0<=z.fr -(-1)*e.sz
   omega
theorem dm(h:CK z ns L mb es ck lm su)(hr:H6 nx bf z.r ((L++[e]).map (·.b))){I:Array MapEntry}{G:Nat}{B:List (Bk×A4)}
 (U:∀x∈L,x.key≠e.key)(hm:Co (fun k:Bk=>Value.string k) I G B)(hp:∀p,p∈B↔p=(e.key,pV e.b)\/(p∈lm/\p.1≠e.key))(hk:e.te=(k:Int))(O:k<ns)(hs:1<=e.sz/\e.sz<=z.fr){K:List A9}(W:Row 3 z.us (((List.range ns).map fun i:Nat=>Value.int .i64 (Ck L (i:Int))).set k (I4 (Ck L (k:Int)+1*e.sz))) K):
 CK {z with E:=z.E++[e],nx:=nx,bf:=bf,fr:=z.fr -1*e.sz} ns (L++[e]) mb I G B K:=by
 have J:∀i:Int,Ck (L++[e]) i=Ck L i+if e.te=i then e.sz else 0:=fun i=>by
  rw [GM,FU];unfold Ck;simp
 have h3:=h.free;have m:∀{Q:Bf->Prop},(∀x∈L,Q x)->Q e->∀x∈L++[e],Q x:=fun X h2 x g=>by
  rcases C2.1 g with g|g
  · exact X x g
  · rw [C5.1 g];exact h2
 refine ⟨m (fun x g=>Ek _ (h.sub x g)) (G2 _ (C5.2 V)),hr,h.mv,hm,fun p=>?_,?_,?_,m h.te ⟨by omega,by omega⟩,m h.sz hs.1,?_,?_,h.sh,h.cap⟩
 · rw [hp,h.mem]
   constructor
   · rintro (rfl|⟨⟨x,g,rfl⟩,_⟩)
     · exact ⟨e,by simp,rfl⟩
     · exact ⟨x,Ek _ g,rfl⟩
   · rintro ⟨x,g,rfl⟩
     rcases C2.1 g with g|g
     · exact .inr ⟨⟨x,g,rfl⟩,U x g⟩
     · rw [C5.1 g];exact .inl rfl
 · rw [C0,GW]
   refine ⟨h.keys,by simp,fun a Z b hb=>?_⟩;obtain ⟨x,g,rfl⟩:=C6.1 Z;obtain rfl:=C5.1 hb;exact U x g
 · rw [Pv (v:=I4 (Ck L (k:Int)+1*e.sz)) (fun i:Nat=>Value.int .i64 (Ck L (i:Int))) (fun i:Nat=>Value.int .i64 (Ck (L++[e]) (i:Int))) O (by show Value.int .i64 _=Value.int .i64 _;rw [J,Ax hk];congr 1;omega) (fun i _ hi=>by
    show Value.int .i64 _=Value.int .i64 _;rw [J,As A0];congr 1;omega)]at W
   exact W
 · show z.fr -1*e.sz=z.cap -_
   rw [OG,Gd];unfold Fj at*;simp;omega
 · show 0<=z.fr -1*e.sz
   omega
def Jr(M:List A9)(v:A4)(ns:List Int):Prop:=∃p cap,v= .slice p ns.length cap/\∀(i:Nat) (n:Int),ns[i]?=some n->∃g off cur T zz,p=some ⟨g,off,none⟩/\(g,Obj.cells cur T zz)∈M/\cur[off+i]?=some (I4 n)
theorem Jr.mono{M m:List A9}{ns:List Int}(h:Jr M v ns)(J:∀c∈M,c∈m):Jr m v ns:=by
 obtain ⟨p,cap,e,I⟩:=h;refine ⟨p,cap,e,fun i n hi=>?_⟩;obtain ⟨g,off,cur,T,zz,B,h2,G⟩:=I i n hi;exact ⟨g,off,cur,T,zz,B,J _ h2,G⟩
theorem mF{ns:List Int}{s:List A9}(h:Row 3 v (ns.map (Value.int .i64)) s):Jr s v ns:=by
 rcases h with⟨rfl,h0,_⟩|⟨g,cap,cur,z,rfl,rfl,h1,h2,h3,h4,_⟩
 · have B:ns=[]:=by simpa using h0
   subst B;exact ⟨none,0,V,fun i n hi=>by simp at hi⟩
 · rw [B6]at h4⊢
   refine ⟨some ⟨g,0,none⟩,cap,V,fun i n hi=>⟨g,0,cur,_,z,V,C5.2 V,?_⟩⟩;have G:=(C4.1 hi).1
   have m:=congrArg (fun l=>l[i]?) h4;simp only [HI,Ax G,DP,hi]at m;rw [D3];simpa using m
def BS.cs(z:BS):Int×A4:=(z.cap,z.sh)
theorem ZY(z:BS)(g:z.bl.Nodup)(G:e∈z.E){p:Nat}(I:p∈z.bl)(m:z.bf z.r=pV p):BR prog 85 #[.pointer (some ⟨e.b,0,none⟩),.pointer (some ⟨z.r,0,none⟩)] [z.S] (fun v H'=>v=undef/\H'=[({z with nx:=Cq (Cq z.nx e.b (pV z.r)) p (pV e.b),bf:=Cq (Cq z.bf e.b (pV p)) z.r (pV e.b)}:BS).S]):=by
 have B:e.b∈z.bl:=E7 _ (DS G);obtain ⟨c1,T1,J,s1,W⟩:=z.upd g B;obtain ⟨c2,T2,K,s2,X⟩:=BS.upd ({z with bf:=Cq z.bf e.b (pV p)}:BS) g B;obtain ⟨c3,T3,O,s3,Z⟩:=BS.upd ({z with bf:=Cq z.bf e.b (pV p),nx:=Cq z.nx e.b (pV z.r)}:BS) g I;obtain ⟨c4,T4,U,s4,u4⟩:=BS.upd ({z with bf:=Cq z.bf e.b (pV p),nx:=Cq (Cq z.nx e.b (pV z.r)) p (pV e.b)}:BS) g (E0 ..);refine Se func85 ntmps85 [0,1] ?_;intro u R;refine A1<|Zm Y<|Zm Y<|Zm Y<|Zp Y V<|Zh 3 HD V rfl H4 Y<|CS (IX Wo (z.root)) (BF SJ Y (congrArg some m)) V rfl<|Zm Y<|Zp Y V<|Zh 3 HD V rfl H4 Y<|Xe (Fh H4 Y Y V Wo (J) (by exact (W _).2) A0 (by exact BC _))<|Zp Y V<|Zh 4 HD V rfl H4 Y<|Xe (Fh H4 Y Y V Wo (K) (by exact (X _).1) A0 (by exact BC _))<|Z0<|Zn [0,1] ?_;refine Zx<|Zg<|Zm Y<|Zp Y V<|Zh 3 HD V rfl H4 Y<|CS (IX Wo ((BS.node ({z with bf:=Cq z.bf e.b (pV p),nx:=Cq z.nx e.b (pV z.r)}:BS) G))) (BF SJ Y (by exact congrArg some (IB _ _ _))) V rfl<|Zm Y<|Zm Y<|Zm Y<|Zp Y V<|Zh 4 HD V rfl H4 Y<|Xe (Fh H4 Y Y V Wo (O) (by exact (Z _).1) A0 (by exact BC _))<|Zp Y V<|Zh 3 HD V rfl H4 Y<|Xe (Fh H4 Y Y V Wo (U) (by exact (u4 _).2) A0 (by exact BC _))<|Z0<|Ce V results85 (by exact ⟨V,V⟩)
theorem LH(z:BS)(U:z.bl.Nodup)(G:e∈z.E){sg:Int}(J:sg=1\/sg=-1){xs:List A4}(hu:Row 3 z.us xs su)(X:e.te=(k:Int)){x:Int}(O:xs[k]?=some (I4 x))(bn:-1000000000<=x/\x<=1000000000)(ax:0<=e.sz/\e.sz<=1000000000)(W:-1000000000<=z.fr/\z.fr<=1000000000):BR prog 86 #[.pointer (some ⟨z.r,0,none⟩),.pointer (some ⟨e.b,0,none⟩),I4 sg] [z.S,su] (fun v H'=>v=undef/\∃B,Row 3 z.us (xs.set k (I4 (x+sg*e.sz))) B/\H'=[({z with fr:=z.fr -sg*e.sz}:BS).S,B]):=by
 have Z:=(C4.1 O).1;obtain ⟨bu,cu,cur,zu,K,rfl,af,I,g,m⟩:=Ob hu O;have hm:-1000000000<=sg*e.sz/\sg*e.sz<=1000000000:=by rcases J with rfl|rfl<;>omega
 refine Se func86 ntmps86 [0,1,2] ?_;intro u R;refine Zq<|BA (n:=19) (0::1::3::7::0::16::48::112::255::511::0::0::2048::6144::14336::31744::65535::131071::262143::[]) 262144 AF AF V<|A3 0 V (AO Y)<|A3 1 V (Ak Y V)<|A3 2 V (AA (off:=7) HR V rfl aE Y)<|Cc (D':=15) 3 V rfl V (Dy Wo (z.root)) (BF W8 Y (congrArg some K)) ?_;refine A3 4 V (AO Y)<|A3 5 V (Ak Y V)<|A3 6 V (AA (off:=1) HD V rfl AE Y)<|Cc (D':=255) 7 V rfl V (Dy Wo (z.node G)) (BF AH Y (by exact congrArg (fun t=>some (Value.int .i64 t)) X)) ?_;refine A3 8 rfl (Be DE AE Y Y (by first|omega|(rw [SU];omega)))<|BE 9 rfl AH Y (hv:=by exact g) ?_;refine A3 10 V (AO Y)<|A3 11 V (AO Y)<|A3 12 V (Ak Y V)<|A3 13 V (AA (off:=2) HD V rfl AE Y)<|Cc (D':=32767) 14 V rfl V (Dy Wo (z.node G)) (BF AH Y B0) ?_
 (refine Dn (D':=65535) 15 (ry Y Y (IntWalk.i64_in _ ?_)) ?_;(focus (omega)))
 (refine Dn (D':=131071) 16 (Gm Y Y (IntWalk.i64_in _ ?_)) ?_;(focus (omega)))
 refine A3 17 rfl (Be DE AE Y Y (by first|omega|(rw [SU];omega)))<|Yw 18 524287 rfl (Zs AE Y Y rfl (hi:=by omega) (hz:=by exact I))<|Cp<|Ag<|Zn [0,1,2] ?_;refine Zx<|BA (n:=14) (0::1::3::7::0::0::32::96::224::496::1023::2047::4095::8191::[]) 8192 AF AF V<|A3 0 V (AO Y)<|A3 1 V (Ak Y V)<|A3 2 V (AA (off:=9) HR V rfl AE Y)<|Cc (D':=15) 3 V rfl V (Dy Wo (z.root)) (BF AH Y B0) ?_;refine A3 4 V (AO Y)<|A3 5 V (AO Y)<|A3 6 V (Ak Y V)<|A3 7 V (AA (off:=2) HD V rfl AE Y)<|Cc (D':=511) 8 V rfl V (Dy Wo (z.node G)) (BF AH Y B0) ?_
 (refine Dn (D':=1023) 9 (ry Y Y (IntWalk.i64_in _ ?_)) ?_;(focus (omega)))
 (refine Dn (D':=2047) 10 (FP Y Y (IntWalk.i64_in _ ?_)) ?_;(focus (omega)))
 refine A3 11 V (Ak Y V)<|A3 12 V (AA (off:=9) HR V rfl AE Y)<|Zz (l:=[13])<|B7 [false,false] [] V rfl (Fh AE Y Y V Wo (z.root) (by exact z.fr_upd U _) Wn (by exact BC _)) ?_ (fun _ _ h=>h.elim) Aj;rintro _ _ ⟨rfl,rfl⟩;refine BW<|Ag<|Ce V results86 (by exact ⟨V,_,m _,V⟩)
theorem ni(z:BS)(m:z.mv= .map (some mb))(B:Co (fun k:Bk=>Value.string k) es ck lm)(K:Bk):BJ prog 153 #[.pointer (some ⟨z.r,0,none⟩),.string K] [z.S,[(mb,.map es ck)]] (.tuple #[(Dp K lm).getD (.pointer none),.bool (Dp K lm).isSome]):=by
 refine Se func153 ntmps153 [0,1] ?_;intro u R;refine A1<|Za Y<|A5 Y<|Zq<|A1<|Zm Y<|Zv (Bh underlying87 Y Y)<|A6<|AU Y (fun g=>by cases g)<|fun g=>AC<|Zx<|A1<|Zm Y<|Zp Y V<|Zh 8 HR V rfl ee Y<|CS (IX Wo (z.root)) (BF isAgg154 Y (congrArg some m)) V rfl<|Zm Y<|Zo Wh (EU (Dt HA (D:=fun _=>True)) ft gC B (fun _ _=>trivial) (trivial) (⟨V,V⟩) Y Y)<|Zm Y<|Zd Y V<|Zd Y V<|Za Y<|AW Y<|Zn [6,7] ?_;refine Zx<|A1<|Zm Y<|Zm Y<|Za Y<|A5 Y<|AJ<|DJ V results153 Y Y (by exact ⟨V,V⟩)
theorem kL(g:CK z ns (L1++e::L2) mb es ck lm su)(Z:z.bl.Nodup):BR prog 81 #[.pointer (some ⟨z.r,0,none⟩),.pointer (some ⟨e.b,0,none⟩)] [z.S,[(mb,.map es ck)],su] (fun v H'=>v=undef/\∃K G B dn J,K.r=z.r/\K.cs=z.cs/\K.E=z.E/\CK K ns (L1++L2) mb G B dn J/\H'=[K.S,[(mb,.map G B)],J]):=by
 have he:e∈z.E:=g.sub e B4;have bn:=g.nodup Z
 obtain ⟨p,n,hp,hn,X,cu,m⟩:=YS (l1:=L1.map (·.b)) (l2:=L2.map (·.b)) (x:=e.b) (by simpa using bn) (by simpa using g.ring);have I:∀q,q∈z.r::(L1.map (·.b)++L2.map (·.b))->q∈z.bl:=fun q O=>by
  rcases DB.1 O with rfl|O
  · exact E0 ..
  · rw [<-C0]at O
    obtain ⟨x,hx,rfl⟩:=C6.1 O;exact E7 _ (DS (g.sub x (by rcases C2.1 hx with h|h<;>simp [h])))
 rw [<-C0]at m;have j3:=g.te e B4
 obtain ⟨k,hk⟩:∃k:Nat,e.te=(k:Int):=⟨e.te.toNat,by omega⟩;have af:k<ns:=by omega
 have j5:=g.use (k:Int);have ic:=g.size (e:=e) B4
 have gq:=g.room;have gy:z.fr<=1000000:=by
  have h1:=g.free;have h2:=g.cap;have h3:=NU g.sz 0
  omega
 refine Se func81 ntmps81 [0,1] ?_;intro u R;refine A1<|Zm Y<|Zc [_] Y call131 Y V (QS z Z he (I p hp) (I n hn) X cu) ?_;rintro _ _ ⟨_,⟨rfl,rfl⟩,rfl⟩;refine A6<|Zq<|BA (n:=9) (0::1::3::7::0::16::48::112::255::[]) 256 AF AF V<|A3 0 V (AO Y)<|A3 1 V (Ak Y V)<|A3 2 V (AA (off:=8) HR V rfl ee Y)<|Cc (D':=15) 3 V rfl V (Dy Wo ((BS.root ({z with nx:=Cq z.nx p (pV n),bf:=Cq z.bf n (pV p)}:BS)))) (BF isAgg154 Y (congrArg some g.mv)) ?_;refine A3 4 V (AO Y)<|A3 5 V (Ak Y V)<|A3 6 V (AA (off:=0) HD V rfl Fm Y)<|Cc (D':=255) 7 V rfl V (Dy Wo ((BS.node ({z with nx:=Cq z.nx p (pV n),bf:=Cq z.bf n (pV p)}:BS) he))) (BF Hh Y B0) ?_;refine Yw 8 511 V (K6 (Dt HA (D:=fun _=>True)) ft g.map (fun _ _=>trivial) (trivial) Y Y Wo) ?_;rintro _ _ ⟨rfl,W,U,ek,ax,cO,rfl⟩;refine Ag<|Zx<|Zg<|Zm Y<|Zm Y<|Zc [_,_,_] Y call86 Y rfl (LH ({z with nx:=Cq z.nx p (pV n),bf:=Cq z.bf n (pV p)}:BS) Z he (.inr rfl) g.used hk (k:=k) (x:=Ck (L1++e::L2) (k:Int)) (by rw [DP,Ss af];rfl) A0 A0 (by show _<=z.fr/\z.fr<=_;omega)) ?_;rintro _ _ ⟨_,⟨rfl,gm,d9,rfl⟩,rfl⟩;refine Z0<|Ce V results81 (by exact ⟨V,({z with nx:=Cq z.nx p (pV n),bf:=Cq z.bf n (pV p),fr:=z.fr -(-1)*e.sz}:BS),W,U,ek,gm,V,V,V,Sg g m ax cO hk d9,V⟩)
theorem kz(B:CK z ns (L1++e::L2) mb es ck lm su)(Z:z.bl.Nodup):BR prog 98 #[.pointer (some ⟨z.r,0,none⟩),.string e.key] [z.S,[(mb,.map es ck)],su] (fun v H'=>v= .bool true/\∃J m g I G,J.r=z.r/\J.cs=z.cs/\J.E=z.E/\CK J ns (L1++L2) mb m g I G/\H'=[J.S,[(mb,.map m g)],G]):=by
 have hg:=B.get (e:=e) B4;refine Se func98 ntmps98 [0,1] ?_;intro u R;refine A1<|A5 Y<|A1<|Zm Y<|Zm Y<|Xr [_,_] Y call153 Y V (ni z B.mv B.map e.key) ?_;rw [hg,fN];refine Zm Y<|Zd Y V<|Zd Y V<|Za Y<|A5 Y<|Zq<|A1<|Zm Y<|A6<|AU Y (fun K=>?_) (fun K=>?_);·
  refine Zg<|Zm Y<|Zm Y<|Zc [_,_] Y call81 Y V (kL B Z) ?_;rintro _ _ ⟨_,⟨rfl,J,m,g,I,G,X,W,U,O,rfl⟩,rfl⟩;refine Z0<|Zn [6] ?_;refine Zx<|A1<|Zm Y<|A5 Y<|AJ<|AP V results98 Y (by exact ⟨V,J,m,g,I,G,X,W,U,O,V⟩)
 cases K
theorem wh(B:CK z ns (L) mb es ck lm su)(hd:z.bl.Nodup)(U:k<ns):BJ prog 37 #[.pointer (some ⟨z.r,0,none⟩),I4 (k:Int)] [z.S,[(mb,.map es ck)],su] (I4 (Ck L (k:Int))):=by
 obtain ⟨X,Z,cur,zu,g,rfl,W,O,m,I⟩:=Ob B.used (k:=k) (by rw [DP,Ss U];rfl);rw [B6,Wg]at g;refine Se func37 ntmps37 [0,1] ?_;intro u R;refine A1<|A5 Y<|Zq<|A1<|Zm Y<|Zv (Bh underlying87 Y Y)<|Zm Y<|Ah (t:=7) Y V (fun G=>by cases G)<|fun G=>Zf Y Y<|Yg (Ay (n:=0) Y Y)<|Zv (AL Y Y)<|Zm Y<|Ao (t:=11) Y V (fun K=>by omega)<|fun K=>Zf Y Y<|Zf Y Y<|Yg (Ak Y V)<|Yf 7 HR V rfl aE Y<|Ng Y (IX Wo (z.root)) (BF W8 Y (congrArg some g)) V rfl ?_;refine Yg (Ac DE Y)<|Yg (Gi Y Y)<|Zv (AL Y Y)<|Z0<|Zn [0,1,19] ?_;refine Zx<|Aw Y (fun J=>by omega)<|fun J=>AC<|Zx<|A1<|Zm Y<|Zp Y V<|Zh 7 HR V rfl aE Y<|CS (IX Wo (z.root)) (BF W8 Y (congrArg some g)) V rfl<|Zm Y<|BU (Be DE AE Y Y A0)<|Zl AH Y (hv:=by exact m)<|A5 Y<|AJ<|AP V results37 Y (by exact ⟨V,V⟩)
end Go.Proofs.YthhakdmlpngcmaaGreatDoor
