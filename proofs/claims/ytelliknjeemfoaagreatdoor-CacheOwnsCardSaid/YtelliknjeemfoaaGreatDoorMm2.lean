/- The line of a query (plain); its parts. -/
import Derived.Test.YtelliknjeemfoaaGreatDoorBu1
set_option linter.unusedVariables false
set_option linter.unusedSimpArgs false
namespace Go.Proofs.YtelliknjeemfoaaGreatDoor
open Go.Proofs.Tryz
open Go Go.RowKit Gw
set_option maxRecDepth 100000
attribute [local irreducible] Gw.At Gw.Nx Gw.Ops
def O1(k:Int):List UInt8:=if k=1 then [114,111,119]else if k=2 then [114,111,119,115]else if k=3 then [99,111,117,110,116]else if k=4 then [115,117,109]else if k=5 then [109,105,110]else if k=6 then [109,97,120]else [106,111,105,110]
def Jm(k:Int):List Nat:=if k=1 then [1,3]else if k=2\/k=3 then [1,2,3,4]else if k=7 then [5,6,1,2,3,4]else [5,1,2,3,4]
def XN(k:Int):Nat:=if k=1 then 69 else if k=2\/k=3 then 70 else if k=7 then 72 else 71
def JC(k:Int)(i:Int):List UInt8:=if i=1 then(if k=4\/k=5\/k=6 then [111,102]else if k=7 then [116,111]else [])else if i=2/\k=7 then [111,102]else []
def ND(k:Int)(g1 g7:Nat):A2:=if k=7 then .map (some g7)else if k=4\/k=5\/k=6 then .map (some g1)else .map none
def PO(q:QM)(o:Nat):Int:=if o=1 then q.tb else if o=2 then q.cl else if o=3 then q.lo else if o=4 then q.hi else if o=5 then q.bq else q.ot
def YP(l x:List UInt8):List UInt8:=l++32::x
def UQ(q:QM)(l:List UInt8)(i:Nat):List UInt8:=if JC q.kd i=[]then l else YP l (JC q.kd i)
def upP(q:QM):Nat->List UInt8
 |0=>O1 q.kd
 |i+1=>YP (UQ q (upP q i) i) (Lib.itoa (PO q ((Jm q.kd).getD i 0)))
theorem oh(q:QM)(i:Nat):upP q (i+1)=YP (UQ q (upP q i) i) (Lib.itoa (PO q ((Jm q.kd).getD i 0))):=rfl
def Cs(q:QM):List UInt8:=upP q (Jm q.kd).length
theorem yI(k:Int):(Jm k).length<=6:=by
 unfold Jm;split;· decide
 · split
   · decide
   · split<;>decide
theorem yH(k:Int):0<(Jm k).length:=by
 unfold Jm;split;· decide
 · split
   · decide
   · split<;>decide
theorem vd(k:Int):∀o∈Jm k,o<=6:=by
 unfold Jm;split;· decide
 · split
   · decide
   · split<;>decide
theorem vf(k:Int):∀o∈Jm k,1<=o:=by
 unfold Jm;split;· decide
 · split
   · decide
   · split<;>decide
theorem sH:∀(k u:Nat),1<=k->u<10^k->Lib.nDigits u<=k
 |0,_,h,_=>by omega
 |k+1,u,_,h=>by
  by_cases g:u<10
  · rw [Lib.nDigits_small g];omega
  · rw [Lib.nDigits_big g]
    have m:1<=k:=by
     rcases S3 k with rfl|h2
     · simp at h;omega
     · exact h2
    have:=sH k (u/10) m (by rw [hQ]at h;omega);omega
theorem ZI(n:Int)(h:-9223372036854775808<=n/\n<=9223372036854775807):0<(Lib.itoa n).length/\(Lib.itoa n).length<=21:=by
 unfold Lib.itoa;split
 · rw [EV,Lib.decDigits_length]
   have:=sH 20 n.natAbs An A0;omega
 · rw [Lib.decDigits_length]
   have:=sH 20 n.toNat An A0;have:=Lib.nDigits_pos n.toNat
   omega
theorem TM(k i:Int):(JC k i).length<=2:=by
 unfold JC;split
 · split
   · decide
   · split<;>decide
 · split<;>decide
theorem Xm(k:Int):0<(O1 k).length/\(O1 k).length<=5:=by
 unfold O1;split;· decide
 · split
   · decide
   · split
     · decide
     · split
       · decide
       · split
         · decide
         · split<;>decide
theorem R4{q:QM}(g:∀o,-9223372036854775808<=PO q o/\PO q o<=9223372036854775807):∀i,0<(upP q i).length/\(upP q i).length<=5+25*i
 |0=>by
  have:=Xm q.kd;unfold upP;omega
 |i+1=>by
  have h:=R4 g i;have m:=ZI _ (g ((Jm q.kd).getD i 0))
  have h2:=TM q.kd i;unfold upP UQ YP;rw [C2,EV];split;· omega
  · rw [C2,EV];omega
theorem Yp(q:QM)(l:List UInt8)(i:Nat):(UQ q l i).length<=l.length+3:=by
 have:=TM q.kd i;unfold UQ YP;split;· omega
 · rw [C2,EV];omega
theorem wK{q:QM}(h:BG q)(o:Nat):-9223372036854775808<=PO q o/\PO q o<=9223372036854775807:=by
 obtain ⟨g,h2,m,B⟩:=h;unfold PO;split;· omega
 · split
   · omega
   · split
     · omega
     · split
       · omega
       · split<;>omega
theorem zB(q:QM){o:Nat}(g:1<=o)(h2:o<=6):(q.A89:AM)[o]?=some (I0 (PO q o)):=by
 rcases (by omega:o=1\/o=2\/o=3\/o=4\/o=5\/o=6)with rfl|rfl|rfl|rfl|rfl|rfl<;>rfl
theorem Vi(n:Int)(hn:-9223372036854775808<=n/\n<=9223372036854775807)(Tp:AK)(zp:Nat×Nat):Az prog 33 #[I0 n] [[(1,.cells (Lib.pow10Tab.map fun z=>Value.int .u64 z).toArray Tp zp)]] (.string (str (Lib.itoa n))):=fun u R w hs=>by
 have hg:=hs.get (1,.cells (Lib.pow10Tab.map fun z=>Value.int .u64 z).toArray Tp zp) B6;refine (Tryz.strconv_Itoa n hn.1 hn.2 w ?_).mono ?_
 · unfold Lib.TabIs World.var?
   rw [show Tryz.prog.globalNamed "internal/strconv.uint64pow10"=some 1 by kernel_rfl];simp only [Lk,hg]
 · rintro e w' ⟨rfl,k,os,rfl⟩
   exact .inl ⟨_,_,V,⟨V,V⟩,Rm hs k os⟩
theorem X3{P:Program}{α:Type}{κ:α->A2}{D:α->Prop}{k:α}{env:Env}{d:Option Nat}{ty:AK}{pos:String}{af:Array Edge}{g:Option (Nat×Bool)}{t kt G:AK}{m x:Operand}{z:A2}(I:Fw P kt κ D)(K:P.underlying t=some (.map kt G))(hz:∀w:A4,(zeroValue G).run P w= .ok z w)(J:D k)(hx:∀a,ev a env m= .map none)(hy:∀a,ev a env x=κ k):
 OpP P ⟨d,.lookup t m x true,ty,pos,af,g⟩ env [] (.tuple #[z,.bool false]):=fun a w O=>by
 show((do pure (Next.value (<-Instr.lookup t (ev a env m) (ev a env x) true))):Sem Next).run P w=_;rw [hx a,hy a];have B:(Instr.findKey kt (κ k) []).run P w= .ok none w:=by
  rcases I4 I (EX κ) (fun p h=>by cases h) w k J with⟨B,_⟩|⟨j,v,_,h2⟩
  · exact B
  · simp at h2
 simp only [Instr.lookup,Sem.run_bind,run_underlying K,Result.andThen,F6 I J,Sem.run_pure,B,hz];rfl
theorem kE(bq:Nat):BQ prog 69 #[I1 bq] [] (fun r H'=>∃s,Row 104 r (([1,3]:List Nat).map fun o=> .pointer (some ⟨bq,o,none⟩)) s/\H'=[s]):=by
 refine Se func69 ntmps69 [0] ?_;intro u R;refine A3<|D2 Y<|Aw (n:=8) (0::1::3::0::8::24::63::127::[]) 64 AD AD V<|A1 0 V (AQ Y)<|A1 1 V (Aq Y V)<|A1 2 V (AB (off:=1) DB V rfl A6 Y)<|A1 3 V (AQ Y)<|A1 4 V (Aq Y V)<|A1 5 V (AB (off:=3) DB V rfl A6 Y)<|Zz (l:=[6])<|C0 [] [] V rfl (Ah (vs:=[_,_]) (cs:=[_,_]) aq X2 ar Y V rfl V rfl V) ?_ (fun _ _ h=>h.elim) Am;rintro _ _ ⟨g,rfl,rfl⟩;refine CA<|A1 7 V (BI Y)<|Ao<|Zx<|AJ<|AX V results69 Y (by exact ⟨_,M9 _ g [.pointer (some ⟨bq,1,none⟩),.pointer (some ⟨bq,3,none⟩)] 2 V An,V⟩)
theorem IK(bq:Nat):BQ prog 70 #[I1 bq] [] (fun r H'=>∃s,Row 104 r (([1,2,3,4]:List Nat).map fun o=> .pointer (some ⟨bq,o,none⟩)) s/\H'=[s]):=by
 refine Se func70 ntmps70 [0] ?_;intro u R;refine A3<|D2 Y<|Aw (n:=14) (0::1::3::0::8::24::0::64::192::0::512::1536::4095::8191::[]) 4096 AD AD V<|A1 0 V (AQ Y)<|A1 1 V (Aq Y V)<|A1 2 V (AB (off:=1) DB V rfl A6 Y)<|A1 3 V (AQ Y)<|A1 4 V (Aq Y V)<|A1 5 V (AB (off:=2) DB V rfl A6 Y)<|A1 6 V (AQ Y)<|A1 7 V (Aq Y V)<|A1 8 V (AB (off:=3) DB V rfl A6 Y)<|A1 9 V (AQ Y)<|A1 10 V (Aq Y V)<|A1 11 V (AB (off:=4) DB V rfl A6 Y)<|Zz (l:=[12])<|C0 [] [] V rfl (Ah (vs:=[_,_,_,_]) (cs:=[_,_,_,_]) aq X2 ar Y V rfl V rfl V) ?_ (fun _ _ h=>h.elim) Am;rintro _ _ ⟨g,rfl,rfl⟩;refine CA<|A1 13 V (BI Y)<|Ao<|Zn [2] ?_;refine Zx<|AJ<|AX V results70 Y (by exact ⟨_,M9 _ g [.pointer (some ⟨bq,1,none⟩),.pointer (some ⟨bq,2,none⟩),.pointer (some ⟨bq,3,none⟩),.pointer (some ⟨bq,4,none⟩)] 4 V An,V⟩)
theorem oC(bq:Nat):BQ prog 71 #[I1 bq] [] (fun r H'=>∃s,Row 104 r (([5,1,2,3,4]:List Nat).map fun o=> .pointer (some ⟨bq,o,none⟩)) s/\H'=[s]):=by
 have O:=mL;refine Se func71 ntmps71 [0] ?_;intro u R;refine A3<|D2 Y<|Aw (n:=8) (0::1::3::7::0::16::63::127::[]) 104 AD AD V<|A1 0 V (AQ Y)<|A1 1 V (Aq Y V)<|A1 2 V (AB (off:=5) DB V rfl A6 Y)<|A1 4 V (AQ Y)<|Zz (l:=[3,5])<|C0 [] [] V rfl (Ah (vs:=[_]) (cs:=[_]) aq X2 ar Y V rfl V rfl V) ?hk_1 (fun _ _ h=>h.elim) ?hl_1
 case' hk_1=>
  rintro _ _ ⟨g,rfl,rfl⟩;refine CA<|Zz (l:=[5])<|C0 [] [] V rfl (Zw [_] Y call70 Y V (IK bq)) ?hk_2 Bz ?hl_2
  case' hk_2=>
   rintro _ _ ⟨_,⟨s2,m,rfl⟩,rfl⟩;refine ⟨Ac,?_⟩;obtain ⟨J,G,rfl⟩:=m.form
  case' hl_2=>
   exact Am
 case' hl_1=>
  refine C0 [] [] V rfl (Zw [_] Y call70 Y V (IK bq)) ?hk_5 Bz ?hl_5
  case' hk_5=>
   rintro _ _ ⟨_,⟨s2,m,rfl⟩,rfl⟩;refine ⟨Ac,?_⟩;obtain ⟨J,G,rfl⟩:=m.form;refine Yw 3 63 V (Ah (vs:=[_]) (cs:=[_]) aq X2 ar Y V rfl V rfl V) ?_;rintro _ _ ⟨g,rfl,rfl⟩
  case' hl_5=>
   exact Am
 all_goals
  refine Yw 6 127 V (KQ (by_:=8) aq (V:Tryz.prog.info? 104=some Tryz.t104) V rfl V rfl Y ((M9 _ g [.pointer (some ⟨bq,5,none⟩)] 1 V An)) Y (m) Wo Wo HQ (by((simp;omega))) (by((simp;done)))) ?_;rintro _ _ ⟨U,B,rfl⟩;obtain ⟨K,I,rfl⟩:=B.form;refine A1 7 V (BI Y)<|Ao<|Zx<|AJ<|AX V results71 Y (by exact ⟨_,B,V⟩)
theorem fO(bq:Nat):BQ prog 72 #[I1 bq] [] (fun r H'=>∃s,Row 104 r (([5,6,1,2,3,4]:List Nat).map fun o=> .pointer (some ⟨bq,o,none⟩)) s/\H'=[s]):=by
 have O:=mL;refine Se func72 ntmps72 [0] ?_;intro u R;refine A3<|D2 Y<|Aw (n:=11) (0::1::3::0::8::24::63::0::128::511::1023::[]) 832 AD AD V<|A1 0 V (AQ Y)<|A1 1 V (Aq Y V)<|A1 2 V (AB (off:=5) DB V rfl A6 Y)<|A1 3 V (AQ Y)<|A1 4 V (Aq Y V)<|A1 5 V (AB (off:=6) DB V rfl A6 Y)<|A1 7 V (AQ Y)<|Zz (l:=[6,8])<|C0 [] [] V rfl (Ah (vs:=[_,_]) (cs:=[_,_]) aq X2 ar Y V rfl V rfl V) ?hk_1 (fun _ _ h=>h.elim) ?hl_1
 case' hk_1=>
  rintro _ _ ⟨g,rfl,rfl⟩;refine CA<|Zz (l:=[8])<|C0 [] [] V rfl (Zw [_] Y call70 Y V (IK bq)) ?hk_2 Bz ?hl_2
  case' hk_2=>
   rintro _ _ ⟨_,⟨s2,m,rfl⟩,rfl⟩;refine ⟨Ac,?_⟩;obtain ⟨J,G,rfl⟩:=m.form
  case' hl_2=>
   exact Am
 case' hl_1=>
  refine C0 [] [] V rfl (Zw [_] Y call70 Y V (IK bq)) ?hk_5 Bz ?hl_5
  case' hk_5=>
   rintro _ _ ⟨_,⟨s2,m,rfl⟩,rfl⟩;refine ⟨Ac,?_⟩;obtain ⟨J,G,rfl⟩:=m.form;refine Yw 6 511 V (Ah (vs:=[_,_]) (cs:=[_,_]) aq X2 ar Y V rfl V rfl V) ?_;rintro _ _ ⟨g,rfl,rfl⟩
  case' hl_5=>
   exact Am
 all_goals
  refine Yw 9 1023 V (KQ (by_:=8) aq (V:Tryz.prog.info? 104=some Tryz.t104) V rfl V rfl Y ((M9 _ g [.pointer (some ⟨bq,5,none⟩),.pointer (some ⟨bq,6,none⟩)] 2 V An)) Y (m) Wo Wo HQ (by((simp;omega))) (by((simp;done)))) ?_;rintro _ _ ⟨U,B,rfl⟩;obtain ⟨K,I,rfl⟩:=B.form;refine A1 10 V (BI Y)<|Ao<|Zx<|AJ<|AX V results72 Y (by exact ⟨_,B,V⟩)
def TP(g1 g7:Nat):List (Int×A2):=[(1,.agg #[.string ⟨#[114,111,119]⟩,.func (.func 69) #[] #[],.map none]),(2,.agg #[.string ⟨#[114,111,119,115]⟩,.func (.func 70) #[] #[],.map none]),(3,.agg #[.string ⟨#[99,111,117,110,116]⟩,.func (.func 70) #[] #[],.map none]),(4,.agg #[.string ⟨#[115,117,109]⟩,.func (.func 71) #[] #[],.map (some g1)]),(5,.agg #[.string ⟨#[109,105,110]⟩,.func (.func 71) #[] #[],.map (some g1)]),(6,.agg #[.string ⟨#[109,97,120]⟩,.func (.func 71) #[] #[],.map (some g1)]),(7,.agg #[.string ⟨#[106,111,105,110]⟩,.func (.func 72) #[] #[],.map (some g7)])]
theorem ZW{lm:List (Int×A2)}{g m:Nat}(h:∀p,p∈lm↔p∈TP g m)(hn:(lm.map (·.1)).Nodup){k:Int}(B:1<=k/\k<=7):EL k lm=some (.agg #[.string (str (O1 k)),.func (.func (XN k)) #[] #[],ND k g m]):=by
 have G:∀{k:Int} {v:A2},(k,v)∈TP g m->EL k lm=some v:=fun B=>Cw hn ((h _).2 B);obtain h9|h9|h9|h9|h9|h9|h9:k=1\/k=2\/k=3\/k=4\/k=5\/k=6\/k=7:=by omega
 all_goals subst h9
 all_goals exact G (by simp [TP,XN,O1,ND,str])
structure iG(l1 l7:List (Int×A2)):Prop where
 a:∀p,p∈l1↔p=(1,.string ⟨#[111,102]⟩)
 b:∀p,p∈l7↔p=(2,.string ⟨#[111,102]⟩)\/p=(1,.string ⟨#[116,111]⟩)
theorem mX(k:Int)(g m:Nat):(ND k g m).oneCell'=true:=by
 unfold ND;split;· rfl
 · split<;>rfl
theorem tx{env:Env}{d:Option Nat}{ty:AK}{pos:String}{af:Array Edge}{g:Option (Nat×Bool)}{m x:Operand}{q:QM}(hq:1<=q.kd/\q.kd<=7){U W:Nat}{e1 e7:Array MapEntry}{c1 c7:Nat}{l1 l7:List (Int×A2)}(h1:Ck (fun n:Int=>Value.int .i64 n) e1 c1 l1)(X:Ck (fun n:Int=>Value.int .i64 n) e7 c7 l7)(J:iG l1 l7){i:Nat}(hx:∀a,ev a env m=ND q.kd U W)(hy:∀a,ev a env x=I0 (i:Int)):
 OpP prog ⟨d,.lookup 87 m x true,ty,pos,af,g⟩ env [(U,.map e1 c1),(W,.map e7 c7)] (.tuple #[.string (str (JC q.kd i)),.bool (decide (JC q.kd i≠[]))]):=by
 have hz:=Ks;have hu:=er
 by_cases B:q.kd=7
 · have cu:∀a,ev a env m= .map (some W):=fun a=>by rw [hx a];unfold ND;rw [B0 B]
   have:=EN (d:=d) (ty:=ty) (pos:=pos) (af:=af) (g:=g) (v0:= .string (str (JC q.kd i))) (b0:=decide (JC q.kd i≠[])) (Cc D3 (D:=fun _=>True)) hu hz X (fun _ _=>trivial) trivial (k:=(i:Int)) (by
    unfold JC;rw [B];by_cases I:(i:Int)=1;· rw [I,Cw X.keys ((J.b (1,_)).2 (.inr rfl))];exact ⟨rfl,rfl⟩
    · by_cases a2:(i:Int)=2
      · rw [a2,Cw X.keys ((J.b (2,_)).2 (.inl rfl))];exact ⟨rfl,rfl⟩
      · rw [DN fun p Z K=>by rcases (J.b p).1 Z with rfl|rfl<;>simp at K<;>omega,As I,As A0];exact ⟨rfl,rfl⟩) cu hy
   exact fun a w O=>this a w fun c hc=>O c (by rw [CH.1 hc];simp)
 · by_cases G:q.kd=4\/q.kd=5\/q.kd=6
   · have bn:∀a,ev a env m= .map (some U):=fun a=>by rw [hx a];unfold ND;rw [As B,B0 G]
     have:=EN (d:=d) (ty:=ty) (pos:=pos) (af:=af) (g:=g) (v0:= .string (str (JC q.kd i))) (b0:=decide (JC q.kd i≠[])) (Cc D3 (D:=fun _=>True)) hu hz h1 (fun _ _=>trivial) trivial (k:=(i:Int)) (by
      unfold JC;by_cases I:(i:Int)=1;· rw [B0 I,B0 G,I,Cw h1.keys ((J.a (1,_)).2 rfl)];exact ⟨rfl,rfl⟩
      · rw [DN fun p Z K=>by rw [(J.a p).1 Z]at K;simp at K;omega,As I,As A0];exact ⟨rfl,rfl⟩) bn hy
     exact fun a w O=>this a w fun c hc=>O c (by rw [CH.1 hc];simp)
   · have ax:∀a,ev a env m= .map none:=fun a=>by rw [hx a];unfold ND;rw [As B,As G]
     have hg:JC q.kd i=[]:=by
      unfold JC;rw [As G,As B];split;· rfl
      · split
        · rename_i h9;exact absurd h9.2 B
        · rfl
     rw [hg];have:=X3 (d:=d) (ty:=ty) (pos:=pos) (af:=af) (g:=g) (Cc D3 (D:=fun _=>True)) hu hz (k:=(i:Int)) trivial ax hy
     exact fun a w O=>this a w fun c hc=>by cases hc
theorem TN:BQ prog 29 #[] [] (fun v H'=>∃b es ck lm g e1 c1 l1 m e7 c7 l7,v= .map (some b)/\Ck (fun n:Int=>Value.int .i64 n) es ck lm/\(∀p,p∈lm↔p∈TP g m)/\Ck (fun n:Int=>Value.int .i64 n) e1 c1 l1/\Ck (fun n:Int=>Value.int .i64 n) e7 c7 l7/\iG l1 l7/\H'=[[(b,.map es ck)],[(g,.map e1 c1)],[(m,.map e7 c7)]]):=by
 refine Se func29 ntmps29 [] ?_;intro u R;refine A3<|AH Y<|A3<|Ze (DK)<|AF fun g=>Ze (EI (Cc D3 (D:=fun _=>True)) er (EX _) (fun _ _=>trivial) (trivial) Y Y Y Wo) ?_;rintro _ _ ⟨rfl,I,B,af,K,W,rfl⟩;refine Zm Y<|AH Y<|A3<|Ze (DK)<|AF fun mb=>Zv (BM (vs:=[(0,.string ⟨#[114,111,119]⟩),(1,.func (.func 69) #[] #[]),(2,.map none)]) (cs:=#[.string ⟨#[114,111,119]⟩,.func (.func 69) #[] #[],.map none]) Y (Aa (pl:=#[(0,1),(1,1),(2,1)]) Wk bj (fun _=>by kernel_rfl) AD))<|Ze (EI (Cc D3 (D:=fun _=>True)) cW (EX _) (fun _ _=>trivial) (trivial) Y Y Y Wo) ?_;rintro _ _ ⟨rfl,qj,pg,qz,cO,j3,rfl⟩;refine Zv (BM (vs:=[(0,.string ⟨#[114,111,119,115]⟩),(1,.func (.func 70) #[] #[]),(2,.map none)]) (cs:=#[.string ⟨#[114,111,119,115]⟩,.func (.func 70) #[] #[],.map none]) Y (Aa (pl:=#[(0,1),(1,1),(2,1)]) Wk bj (fun _=>by kernel_rfl) AD))<|Ze (EI (Cc D3 (D:=fun _=>True)) cW cO (fun _ _=>trivial) (trivial) Y Y Y Wo) ?_;rintro _ _ ⟨rfl,ql,pq,r9,d9,j5,rfl⟩;refine Zv (BM (vs:=[(0,.string ⟨#[99,111,117,110,116]⟩),(1,.func (.func 70) #[] #[]),(2,.map none)]) (cs:=#[.string ⟨#[99,111,117,110,116]⟩,.func (.func 70) #[] #[],.map none]) Y (Aa (pl:=#[(0,1),(1,1),(2,1)]) Wk bj (fun _=>by kernel_rfl) AD))<|Ze (EI (Cc D3 (D:=fun _=>True)) cW d9 (fun _ _=>trivial) (trivial) Y Y Y Wo) ?_;rintro _ _ ⟨rfl,qo,pz,sj,ek,kv,rfl⟩;refine Zm Y<|Zv (BM (vs:=[(0,.string ⟨#[115,117,109]⟩),(1,.func (.func 71) #[] #[]),(2,.map (some g))]) (cs:=#[.string ⟨#[115,117,109]⟩,.func (.func 71) #[] #[],.map (some g)]) Y (Aa (pl:=#[(0,1),(1,1),(2,1)]) Wk bj (fun _=>by kernel_rfl) AD))<|Ze (EI (Cc D3 (D:=fun _=>True)) cW ek (fun _ _=>trivial) (trivial) Y Y Y Wo) ?_;rintro _ _ ⟨rfl,qw,q9,sw,gm,l5,rfl⟩
 refine Zm Y<|Zv (BM (vs:=[(0,.string ⟨#[109,105,110]⟩),(1,.func (.func 71) #[] #[]),(2,.map (some g))]) (cs:=#[.string ⟨#[109,105,110]⟩,.func (.func 71) #[] #[],.map (some g)]) Y (Aa (pl:=#[(0,1),(1,1),(2,1)]) Wk bj (fun _=>by kernel_rfl) AD))<|Ze (EI (Cc D3 (D:=fun _=>True)) cW gm (fun _ _=>trivial) (trivial) Y Y Y Wo) ?_;rintro _ _ ⟨rfl,qx,qa,sD,gq,l8,rfl⟩;refine Zm Y<|Zv (BM (vs:=[(0,.string ⟨#[109,97,120]⟩),(1,.func (.func 71) #[] #[]),(2,.map (some g))]) (cs:=#[.string ⟨#[109,97,120]⟩,.func (.func 71) #[] #[],.map (some g)]) Y (Aa (pl:=#[(0,1),(1,1),(2,1)]) Wk bj (fun _=>by kernel_rfl) AD))<|Ze (EI (Cc D3 (D:=fun _=>True)) cW gq (fun _ _=>trivial) (trivial) Y Y Y Wo) ?_;rintro _ _ ⟨rfl,qy,qb,sJ,gy,l9,rfl⟩;refine Ze (DK)<|AF fun m=>Ze (EI (Cc D3 (D:=fun _=>True)) er (EX _) (fun _ _=>trivial) (trivial) Y Y Y Wo) ?_;rintro _ _ ⟨rfl,p8,ow,p9,O,X,rfl⟩;refine Ze (EI (Cc D3 (D:=fun _=>True)) er O (fun _ _=>trivial) (trivial) Y Y Y Wo) ?_;rintro _ _ ⟨rfl,J,G,ax,U,Z,rfl⟩;refine Zm Y<|Zv (BM (vs:=[(0,.string ⟨#[106,111,105,110]⟩),(1,.func (.func 72) #[] #[]),(2,.map (some m))]) (cs:=#[.string ⟨#[106,111,105,110]⟩,.func (.func 72) #[] #[],.map (some m)]) Y (Aa (pl:=#[(0,1),(1,1),(2,1)]) Wk bj (fun _=>by kernel_rfl) AD))<|Ze (EI (Cc D3 (D:=fun _=>True)) cW gy (fun _ _=>trivial) (trivial) Y Y Y Wo) ?_;rintro _ _ ⟨rfl,cu,bn,o9,ic,o8,rfl⟩;refine Zm Y<|B1 Y<|Zn [0] ?_;refine Zx<|AJ<|AX V results29 Y (by
  refine ⟨mb,cu,bn,o9,g,I,B,af,m,J,G,ax,V,ic,fun p=>?_,K,U,⟨fun p=>?_,fun p=>?_⟩,V⟩
  · rw [o8,l9,l8,l5,kv,j5,j3]
    simp only [TP,Dg,T0,Sf,false_and];constructor;· rintro (rfl|⟨rfl|⟨rfl|⟨rfl|⟨rfl|⟨rfl|⟨rfl,-⟩,-⟩,-⟩,-⟩,-⟩,-⟩)<;>simp
    · rintro (h|h|h|h|h|h|h)<;>subst h<;>simp
  · rw [W];simp
  · rw [Z,X];simp only [T0,false_and,Sf]
    constructor
    · rintro (rfl|⟨rfl,-⟩)
      · exact .inl rfl
      · exact .inr rfl
    · rintro (rfl|rfl)
      · exact .inl rfl
      · exact .inr ⟨rfl,by simp⟩)
theorem uP{k:Int}(g:1<=k/\k<=7):∀(args:AM) (w:A4),(callFunc (XN k) args).run prog w= .ok (.enter (XN k) args) w:=by
 unfold XN;split;· exact call69
 · split
   · exact call70
   · split
     · exact call72
     · exact call71
theorem uO(k:Int)(bq:Nat):BQ prog (XN k) #[I1 bq] [] (fun r H'=>∃s,Row 104 r ((Jm k).map fun o=> .pointer (some ⟨bq,o,none⟩)) s/\H'=[s]):=by
 unfold XN Jm;split;· exact kE bq
 · split
   · exact IK bq
   · split
     · exact fO bq
     · exact oC bq
theorem ni(b:Nat)(v:A2)(l:List UInt8)(G:List A8)(m:Row 5 v (l.map u8v) G)(h0:0<l.length)(I:l.length<=1000000):BQ prog 34 #[I1 b] [[(b,.cells #[I1 b,v] 95 (0,0))],G] (fun r H'=>r= .string (str l)/\H'=[[(b,.cells #[I1 b,v] 95 (0,0))]]):=by
 rcases m with⟨_,B,_⟩|⟨g,cap,cur,z,rfl,rfl,hle,hcm,hcs,htk,hfr⟩
 · simp at B;subst B;simp at h0
 · rw [Bm]at hle htk⊢
   exact Nr b g cap _ l cur z h0 A0 A0 htk
theorem RI(b:Nat)(v:A2)(l:List UInt8)(c:UInt8)(G:List A8)(g:Row 5 v (l.map u8v) G)(hb:l.length<=1099511627776):BQ prog 32 #[I1 b,.int .u8 (c.toNat:Int)] [[(b,.cells #[I1 b,v] 95 (0,0))],G] (fun r H'=>∃I B K,Row 5 I ((l++[c]).map u8v) B/\r=K/\H'=[[(b,.cells #[I1 b,I] 95 (0,0))],B]):=by
 have J:=mL;obtain ⟨gv,X,rfl⟩:=g.form;refine Se func32 ntmps32 [0,1] ?_;intro u R;refine A3<|AH Y<|AN Y<|Zc [_] Y call73 Y V (Lv b _) ?_;rintro _ _ ⟨_,⟨rfl,rfl⟩,rfl⟩;refine A5<|AN Y<|Zm Y<|Zp Y V<|Zh 1 Th V rfl SP Y<|Zl Tr Y<|Zm Y<|Ze (Ah (vs:=[_]) (cs:=[_]) Hv Lq To Y V rfl V rfl V)<|AF fun U=>Ze (FO (by_:=1) (news:=[_]) Hv (V:Tryz.prog.info? 5=some Tryz.t5) V rfl V rfl Y g Y Wo Wh B2 V HQ An (by(rw [Bm];omega)) (by(rw [Bm];omega))) ?_;rintro _ _ ⟨O,m,rfl⟩;obtain ⟨Z,W,rfl⟩:=m.form;refine Zp Y V<|Zh 1 Th V rfl SP Y<|Xe (Zs SP Y Y V)<|Z0<|Zn [] ?_;refine CD<|Ax Y<|AX rfl results32 Y (by exact ⟨_,O,_,(by rw [CN];exact m),rfl,rfl⟩)
theorem SC(b:Nat)(v:A2)(l x:List UInt8)(I:List A8)(g:Row 5 v (l.map u8v) I)(h0:0<x.length)(Z:l.length+x.length<=1000000):BQ prog 31 #[.string (str x),I1 b] [[(b,.cells #[I1 b,v] 95 (0,0))],I] (fun r H'=>∃J m,Row 5 J ((YP l x).map u8v) m/\H'=[[(b,.cells #[I1 b,J] 95 (0,0))],m]):=by
 refine Se func31 ntmps31 [0,1] ?_;intro u R;refine A3<|Zc [_,_] Y call32 Y V (RI b v l 32 I g A0) ?_;rintro _ _ ⟨_,⟨W,s2,K,B,rfl,rfl⟩,rfl⟩;refine A5<|Zg<|Zm Y<|Zc [_,_] Y call30 Y V (PM b W (l++[32]) x s2 B h0 LO) ?_;rintro _ _ ⟨_,⟨X,U,O,G,rfl,rfl⟩,rfl⟩;refine Z0<|D6 rfl results31 (by exact ⟨X,U,by unfold YP;rw [show l++32::x=l++[32]++x by simp];exact G,rfl⟩)
theorem J6(q:QM)(hq:BG q)(Tp:AK)(zp:Nat×Nat):Az prog 7 #[.agg q.A89] [[(1,.cells (Lib.pow10Tab.map fun z=>Value.int .u64 z).toArray Tp zp)]] (.tuple #[.string (str (Cs q)),I0 0]):=by
 have l8:=mL;have hk:1<=q.kd/\q.kd<=7:=by obtain ⟨_,_,_,h⟩:=hq;omega
 have B:=wK hq;have kv:=yI q.kd
 have cO:=yH q.kd;have ic:=Xm q.kd
 refine Se func7 ntmps7 [0] ?_;intro u R;refine A3<|Ze (Bx #[_,_,_,_,_,_,_])<|AF fun bq=>Za Y<|D2 Y<|A3<|Zo Wh (AA (cs:=q.A89) FG D4 Y Wn (Au V)) ?_;refine Xr [_] Y call28 Y V (JR q) ?_;rw [DO hq];refine Zv (Bh Y)<|A5<|AY Y (fun hb=>by cases hb)<|fun hb=>B4<|Zb [1] ?_;refine Ch (e0:=[]) (H0:=[]) (fun e H=>∃(bf G I:Nat) (e1 O:Array MapEntry) (J K:Nat) (l1 l7:List (Int×A2)),(Ck (fun n:Int=>Value.int .i64 n) e1 J l1/\Ck (fun n:Int=>Value.int .i64 n) O K l7/\iG l1 l7)/\e=[(4,I1 bf)]/\H=[[(bf,.cells #[.string (str (O1 q.kd)),.func (.func (XN q.kd)) #[] #[],ND q.kd G I] 89 (0,0))],[(G,.map e1 J)],[(I,.map O K)]]) Wp ?hx_1 ?hy_1
 case hx_1=>
  refine Aw (n:=6) (0::0::2::7::0::31::[]) 49 AD AD V<|A1 1 V (AB (off:=0) DB V rfl A6 Y)<|Bk 2 V AE Y ?_;refine Zz (l:=[0,4])<|C0 [true] [(2,(_,_))] V rfl (Zw [] Y call29 Y V (TN)) ?hk_2 Bz ?hl_2
  case' hk_2=>
   rintro _ _ ⟨_,⟨mf,es,ck,lm,G,e1,J,l1,I,O,K,l7,rfl,Z,hp,h1,h7,hG,rfl⟩,rfl⟩;refine ⟨Zk (Ac),?_⟩;have U:=ZW hp Z.keys hk
   refine GB 3 rfl Wh (De (Cc D3 (D:=fun _=>True)) cW Wk Z (fun _ _=>trivial) (trivial) (by rw [U];first|done|rfl) Y Y) ?_;refine Yz 4 0 31 [3,2] [true,true] [(3,(_,_)),(2,(_,_))] V Y V rfl V rfl (Dm Wk (cs:=#[.string ⟨#[]⟩,.nilFunc,.map none]) AD) ?_;rintro _ _ ⟨bf,rfl,rfl⟩;refine ⟨Zk (Zk (Ac)),?_⟩
  case' hl_2=>
   refine C0 [true] [(2,(_,_))] V rfl (Dm Wk (cs:=#[.string ⟨#[]⟩,.nilFunc,.map none]) AD) ?hk_6 (fun _ _ h=>h.elim) ?hl_6
   case' hk_6=>
    rintro _ _ ⟨bf,rfl,rfl⟩;refine CA<|Zz (l:=[0])<|C0 [true] [(2,(_,_))] V rfl (Zw [] Y call29 Y V (TN)) ?hk_7 Bz ?hl_7
    case' hk_7=>
     rintro _ _ ⟨_,⟨mf,es,ck,lm,G,e1,J,l1,I,O,K,l7,rfl,Z,hp,h1,h7,hG,rfl⟩,rfl⟩;refine ⟨Zk (Ac),?_⟩;have U:=ZW hp Z.keys hk
     refine GB 3 rfl Wh (De (Cc D3 (D:=fun _=>True)) cW Wk Z (fun _ _=>trivial) (trivial) (by rw [U];first|done|rfl) Y Y) ?_
    case' hl_7=>
     exact Am
   case' hl_6=>
    exact Am
  all_goals
   refine Yw 5 63 rfl (BF sizeOf89 Y Y (by intro u hu;rcases (by simpa using hu:u=_\/u=_\/u=_)with rfl|rfl|rfl<;>first|rfl|exact mX _ _ _) Wu (by exact (rfl:_=(#[.string (str (O1 q.kd)),.func (.func (XN q.kd)) #[] #[],ND q.kd G I]:AM))) Fm An (by exact BA _))<|F1<|Ao<|Hx (by exact ⟨bf,G,I,e1,O,J,K,l1,l7,⟨h1,h7,hG⟩,V,V⟩)
 rintro _ _ ⟨bf,G,I,e1,O,J,K,l1,l7,⟨h1,h7,hG⟩,rfl,rfl⟩;refine A3<|Ze (Al zeroValue95 #[_,_])<|AF fun b=>A5<|Zq<|Bc<|Zg<|Zh 0 bj V rfl HD Y<|Zl Kx Y ?_;refine Zc [_,_] Y call30 Y V (Nz b (.slice none 0 0) [] (O1 q.kd) [] (IB _) ic.1 LO) ?_;rintro _ _ ⟨_,⟨v1,j3,o8,gm,rfl,rfl⟩,rfl⟩;refine A5<|A3<|Zv (Bg (vs:=[]) (us:=[_]) Y Y)<|D2 Y<|A3<|Zh 1 bj V rfl sizeOf86 Y<|Zl isAgg86 Y ?_;refine Zc [_] Y (uP hk) Y V (uO q.kd bq) ?_;rintro _ _ ⟨_,⟨sf,gy,rfl⟩,rfl⟩;rcases gy with⟨_,h0,_⟩|⟨gf,cf,cur,zf,rfl,rfl,hle,hcm,hcs,htk,hfr⟩
 · exfalso;have h0:=congrArg List.length h0;rw [Bm]at h0;simp at h0;simp [h0]at cO
 simp only [Bm]at hle htk;simp only [Bm];refine Zv (AR aq Y)<|Zm Y<|A5<|AP<|Zb [26,4,5,6,24,25] ?_;refine Ay (e0:=[(26,_)]) (fun m e H=>∃(i:Nat) (vb:A2) (sb:List A8),m=(Jm q.kd).length -i/\(i<=(Jm q.kd).length/\Row 5 vb ((upP q i).map u8v) sb)/\e=[(26,I0 (i:Int))]/\H=[[(b,.cells #[I1 b,vb] 95 (0,0))],sb]) (by exact ⟨0,v1,j3,V,⟨C7 _,gm⟩,V,V⟩) Wp ?_;rintro _ _ _ ⟨i,vb,sb,rfl,⟨hi,W⟩,rfl,rfl⟩;refine A3<|Zv (Ar Y Y)<|A5<|Zq<|Ap Y (fun d9=>?_) (fun d9=>?_);·
  have l9:=R4 B i;obtain ⟨o,ho⟩:∃o,(Jm q.kd)[i]?=some o:=⟨_,BE A0⟩;have ek:(Jm q.kd).getD i 0=o:=by rw [Q2,ho];rfl
  have ax:=vd q.kd o (E7 ho);have af:=vf q.kd o (E7 ho)
  have cu:cur[i]?=some (.pointer (some ⟨bq,o,none⟩)):=by
   have h:((Jm q.kd).map fun o=>(.pointer (some ⟨bq,o,none⟩):A2))[i]?=some (.pointer (some ⟨bq,o,none⟩)):=by rw [FF,ho];rfl
   rw [<-htk,HU,B0 A0]at h;simpa using h
  have l5:=TM q.kd i;have X:=ZI _ (B o)
  refine B4<|Zq<|AP<|AN Y<|Ba (Bd aq X2 Y Y PC)<|Zl isAgg104 Y (hv:=by exact cu) ?_;refine Za Y<|D2 Y<|A3<|Zh 2 bj V rfl sizeOf87 Y<|Zl isAgg87 Y ?_;refine Zm Y<|CO (cs:=[(G,.map e1 J),(I,.map O K)]) B6 (tx hk h1 h7 hG (i:=i) Y Y) V rfl ?_;refine Zm Y<|Zd Y V<|Zd Y V<|Za Y<|B1 Y<|Zn [4,5,6,8,9,10,24,25,26] ?_;refine Zx<|AN Y<|A5<|Ap Y (fun g=>?_) (fun g=>?_);focus
   refine Zg<|Zm Y<|Zm Y<|Zc [_] Y (call31) Y V (SC b vb (upP q i) (JC q.kd i) sb W (List.length_pos_iff.2 g) A0) ?_;rintro _ _ ⟨_,⟨v4,o9,gq,rfl⟩,rfl⟩;refine A5<|Zg<|Zm Y<|Zm Y<|Zp Y V<|Zl AE Y (hv:=by exact zB q af ax) ?_;refine Xr [_] Y call33 Y V (Vi (PO q o) (B o) Tp zp) ?_;refine Zc [_] Y (call31) Y V (SC b _ (UQ q (upP q i) i) (Lib.itoa (PO q o)) _ (by unfold UQ;(rw [As g];exact gq)) X.1 (by have:=Yp q (upP q i) i;omega)) ?_
  rotate_left
  focus
   refine B4<|Zg<|Zm Y<|Zm Y<|Zp Y V<|Zl AE Y (hv:=by exact zB q af ax) ?_;refine Xr [_] Y call33 Y V (Vi (PO q o) (B o) Tp zp) ?_;refine Zc [_] Y (call31) Y V (SC b _ (UQ q (upP q i) i) (Lib.itoa (PO q o)) _ (by unfold UQ;(rw [B0 (Kf.1 g)];exact W)) X.1 (by have:=Yp q (upP q i) i;omega)) ?_
  all_goals
   rintro _ _ ⟨_,⟨v5,j5,bn,rfl⟩,rfl⟩;rw [show YP (UQ q (upP q i) i) (Lib.itoa (PO q o))=upP q (i+1) from by rw [oh,ek]]at bn;refine Z0<|A9<|Zx<|E6 Y Y Y<|HB (by exact ⟨i+1,v5,j5,V,⟨by omega,bn⟩,V,V⟩)
 obtain rfl:i=(Jm q.kd).length:=by omega
 refine BB<|Zt<|Zt<|AV<|CD<|Zc [_] Y call34 Y V (ni b vb _ sb W (R4 B _).1 (by have:=R4 B (Jm q.kd).length;omega)) ?_;rintro _ _ ⟨_,⟨rfl,rfl⟩,rfl⟩;refine Za Y<|Ax Y<|Di V results7 Y Y (by exact ⟨V,V⟩)
end Go.Proofs.YtelliknjeemfoaaGreatDoor
namespace Go.Proofs.YtelliknjeemfoaaGreatDoor
open Go.Proofs.Tryz
open Go Go.RowKit Gw
set_option maxRecDepth 100000
attribute [local irreducible] Gw.At Gw.Nx Gw.Ops
open Go.Sort
theorem uf(xs:List C4):xs.map Value.string=(xs.map fun x=>x.data.toList).map encStr:=by
 rw [Mz];rfl
theorem uj(ls:List (List UInt8)):ls.map encStr=(ls.map fun l=>(⟨l.toArray⟩:C4)).map Value.string:=by
 rw [Mz];rfl
theorem Re{v:A2}{zs:List C4}{s:List A8}(hr:Row 9 v (zs.map Value.string) s)(hl:zs.length<=1000000):BQ prog 52 #[v] [s] (fun r H'=>∃(zs':List C4) (s':List A8),r= .tuple #[]/\zs'.Perm zs/\(zs'.Pairwise fun x y=>x.data.toList<=y.data.toList)/\Row 9 v (zs'.map Value.string) s'/\H'=[s']):=fun u R w hs=>by
 obtain ⟨ls,m⟩:∃ls,ls=zs.map fun x=>x.data.toList:=⟨_,rfl⟩;have I:ls.length=zs.length:=by rw [m,Bm]
 obtain ⟨G,B⟩:∃G,G=ls.mergeSort fun x y=>decide (x<=y):=⟨_,rfl⟩;have J:G.Perm ls:=by rw [B];exact q6 _ _
 have W:G.Pairwise fun x y=>x<=y:=by
  have h:=List.pairwise_mergeSort (le:=fun x y:List UInt8=>decide (x<=y)) (fun a b c h1 h2=>by simp only [H4]at*;exact List.le_trans h1 h2) (fun a b=>by simp only [TO,H4];exact List.le_total a b) ls;rw [B];simpa only [H4]using h
 have O:(G.map fun l=>(⟨l.toArray⟩:C4)).Perm zs:=by
  have h:=J.map fun l=>(⟨l.toArray⟩:C4);rw [m,Mz]at h;have e:zs.map ((fun l:List UInt8=>(⟨l.toArray⟩:C4))∘fun x=>x.data.toList)=zs:=by
   conv=>rhs;rw [<-List.map_id zs]
   rfl
  rwa [e]at h
 have U:(G.map fun l=>(⟨l.toArray⟩:C4)).Pairwise fun x y=>x.data.toList<=y.data.toList:=by rw [W7];exact W
 rcases hr with⟨rfl,h0,rfl⟩|⟨g,cap,cur,z,rfl,rfl,hle,hcm,hcs,htk,hfr⟩
 · have hx:zs=[]:=by simpa using h0
   subst hx;refine (Tryz.slices_Sort_string_none none 0 w).mono ?_;rintro e w' ⟨rfl,rfl⟩;exact .inl ⟨_,[[]],V,⟨[],[],V,.refl _,.nil,by simp [IB],V⟩,hs⟩
 · rw [uf,<-m]at htk
   rw [Bm]at hle⊢;rw [Bm]at htk;have K:Sat u ([(g,.cells cur 9 z)]::R) w:=by simpa using hs
   have Z:=K.get (g,.cells cur 9 z) B6;have hH:=TL (zs:=ls) Z A0 hfr htk
   have hc:=Tryz.slices_Sort_string g 0 cap ls w hH (Hj.1 Z).1 A0;rw [I]at hc;refine hc.mono ?_;rintro e w' ⟨rfl,n,os,rfl⟩;rw [<-B];have X:=J.length_eq
   refine .inl ⟨_,[[(g,.cells (putCells encStr 0 G.toArray cur) 9 z)]],V,⟨_,_,V,O,U,?_,V⟩,by simpa using K.sorted (n:=n) _ os⟩;refine .inr ⟨g,cap,_,z,by rw [Bm,Bm,X,I],rfl,by rw [Bm,Bm];omega,hcm,by rw [MH];exact hcs,?_,by rw [MH];exact hfr⟩;rw [<-uj,Bm];exact YL _ _ A0
theorem fG(mi:Nat):BQ prog 64 #[.map (some mi)] [] (fun r H'=>∃b,r= .func (.func 118) #[] #[I1 b]/\H'=[[(b,.cells #[.map (some mi)] 114 (0,0))]]):=by
 refine Se func64 ntmps64 [0] ?_;intro u R;refine A3<|Ze (Bx #[_])<|AF fun b=>AH Y<|A3<|Zv (Bg (vs:=[]) (us:=[_]) Y Y)<|Ax Y<|AX V results64 Y (by exact ⟨b,V,V⟩)
variable{es:Array MapEntry}{ck:Nat}{lm:List (C4×A2)}
theorem fH(U:Ck (fun n:C4=>Value.string n) es ck lm)(b mi:Nat):KL prog 118 #[I1 b] [[(b,.cells #[.map (some mi)] 114 (0,0))]] (fun _ s=>(mi,Obj.map es ck)∈s) (fun x:C4=>#[.string x]) (Mi lm) (fun ys=>ys.Perm (lm.map (·.1))):=by
 intro l J W hy s B;refine Se func118 ntmps118 [0,1] ?_;intro u R;refine A3<|Zl RR Y<|Ze (LC SM Y (Eg Wo (W _ s B)))<|AF fun ib=>A5<|AP<|Zb [0,5] ?_;refine Ay (e0:=[]) (fun m e H=>∃(js:List Nat) (seen:Array Nat) (s:List A8),m=lm.length -js.length/\(Ii es js seen/\J ((DJ lm js).map (·.1)) s)/\e=[]/\H=[[(ib,.mapIter (some mi) ck seen ck)],s]) (by exact ⟨[],#[],s,V,⟨KE _,B⟩,V,V⟩) Wp ?_;rintro _ _ _ ⟨js,seen,s,rfl,⟨I,B⟩,rfl,rfl⟩;have X:=F8 es.size js I.nodup I.lt
 rw [U.size]at X;refine A3<|Ze (NJ U I Y Wo (Eg Wo (W _ s B))) ?_;rintro _ _ af;rcases af with⟨G,rfl,rfl⟩|⟨jn,pn,seen2,hpn,hjn,hi2,rfl,rfl⟩
 ·
  refine Zd Y V<|A5<|Zq<|AY Y (fun g=>by cases g)<|fun g=>BB<|Zt<|Zt<|AV<|D6 V results118 (by exact ⟨_,s,G.map _,V,B⟩)
 refine Zd Y V<|A5<|Zq<|AY Y (fun g=>?_) (fun g=>?_);·
  have O:=F8 es.size (js++[jn]) hi2.nodup hi2.lt;rw [U.size,C2,G0]at O;have cu:(js++[jn]).length=js.length+1:=by rw [C2];rfl
  have ax:Mi lm ((DJ lm js).map (·.1)++[pn.1]):=by
   have h:=SY (l:=lm) hi2.nodup (fun j hj=>by rw [<-U.size];exact hi2.lt j hj);rw [G7 lm js hpn,CN]at h;exact h
  have bn:=hy ((DJ lm js).map (·.1)) pn.1 s ax B;refine B4<|AP<|Zq<|Zg ?_;have Z:=W _ s B
  refine CO (cs:=[(ib,.mapIter (some mi) ck seen2 ck),(mi,.map es ck)]) (by simp [Z]) (J8 U hi2 hpn Y) V rfl<|Zd Y V<|AH Y<|AN Y<|Zm Y<|Ze (GX (vs:=[_]) Y Y (bn) Wp) ?_;rintro _ _ ⟨_,⟨s',rfl,rfl,K⟩,rfl⟩;rw [show(DJ lm js).map (·.1)++[pn.1]=(DJ lm (js++[jn])).map (·.1) by rw [G7 lm js hpn,CN];rfl]at K;refine Zv (Bh Y)<|A5<|AY Y (fun g=>by cases g)<|fun g=>AC<|A9<|HB (by exact ⟨js++[jn],seen2,s',V,⟨hi2,K⟩,V,V⟩)
 cases g
variable{M:List A8}
theorem Qx(Z:Ck (fun n:C4=>Value.string n) es ck lm)(hn:lm.length<=1000000)(b mi:Nat)(O:(mi,Obj.map es ck)∈M):BQ prog 170 #[.slice none 0 0,.func (.func 118) #[] #[I1 b]] [[(b,.cells #[.map (some mi)] 114 (0,0))],M] (fun r H'=>∃(zs:List C4) (s':List A8),zs.Perm (lm.map (·.1))/\Row 9 r (zs.map Value.string) s'/\H'=[M,s']):=by
 have af:=mL;refine Ct func170 V ntmps170 V ?_;intro u R;refine Zb [0,1] ?_;refine A3<|Ze (Bx #[_])<|AF fun bs=>AH Y<|B7 Y<|A5<|AP<|Zb [2,6] ?_;refine Bc<|Iu (H0:=_) (R:=_) (I:=(fun(pre:List C4) H=>∃m s2,H=[[(bs,.cells #[m] 45 (0,0))],s2,M]/\Row 9 m (pre.map Value.string) s2)) (E:=fun x e Hn=>e=[(5,.string x),(7,.string x)]/\Hn=[]) rfl Y call118 (fH Z b mi) (fun pre H1 c d h=>by obtain ⟨m,s2,rfl,_⟩:=h;simp [O]) Y rfl Wp (⟨_,[],rfl,IB _⟩) ?ha_2 ?hbd_2 ?hk_2
 case ha_2=>
  intro _ x _ _;refine Zg<|B1 Y<|Lh (e:=[(5,_),(7,_)]) (Hn:=[]) ?_;exact ⟨V,V⟩
 case hbd_2=>
  intro l pre x u e9 W H1 R1 r9 U X G;obtain ⟨rfl,rfl⟩:=G;obtain ⟨m,s2,rfl,B⟩:=X;have ax:=U.len
  obtain ⟨gv,cv,rfl⟩:=B.form;refine AP<|Zg<|Zl KK Y<|Zm Y<|Ze (Ah (vs:=[_]) (cs:=[_]) Dd HD Ks Y V rfl V rfl V)<|AF fun b2=>Ze (FO (by_:=16) (news:=[_]) Dd (V:Tryz.prog.info? 9=some Tryz.t9) V rfl V rfl Y B Y Wo Wh B2 V HQ An (by(simp only [Bm];omega)) (by(simp only [Bm];omega))) ?_;rintro _ _ ⟨sq,g,rfl⟩;obtain ⟨gq,cq,rfl⟩:=g.form;refine Xe (Zs Hc Y Y rfl)<|Z0<|A9<|Fq rfl (by exact ⟨_,_,rfl,by rw [CN];exact g⟩)
 intro D1 ys H2 K J;obtain ⟨m,s2,rfl,B⟩:=J;refine Zn [2] ?_;refine A9<|CD<|Zl KK Y<|Ax Y<|Gv V (dE results170 Y) Wo (by exact ⟨ys,s2,K,B,V⟩)
theorem UV(m:Ck (fun n:C4=>Value.string n) es ck lm)(hn:lm.length<=1000000)(b mi:Nat)(g:(mi,Obj.map es ck)∈M):BQ prog 117 #[.func (.func 118) #[] #[I1 b]] [[(b,.cells #[.map (some mi)] 114 (0,0))],M] (fun r H'=>∃(zs:List C4) (s':List A8),zs.Perm (lm.map (·.1))/\Row 9 r (zs.map Value.string) s'/\H'=[M,s']):=by
 refine Se func117 ntmps117 [0] ?_;intro u R;refine A3<|AH Y<|AN Y<|Zc [_,_] Y call170 Y V (Qx m hn b mi g) ?_;rintro _ _ ⟨_,⟨zs,s2,B,G,rfl⟩,rfl⟩;refine Ax Y<|AX V results117 Y (by exact ⟨zs,s2,B,G,V⟩)
theorem WV(O:Ck (fun n:C4=>Value.string n) es ck lm)(hn:lm.length<=1000000)(b mi:Nat)(g:(mi,Obj.map es ck)∈M):BQ prog 63 #[.func (.func 118) #[] #[I1 b]] [[(b,.cells #[.map (some mi)] 114 (0,0))],M] (fun r H'=>∃(zs:List C4) (s':List A8),zs.Perm (lm.map (·.1))/\(zs.Pairwise fun x y=>x.data.toList<=y.data.toList)/\Row 9 r (zs.map Value.string) s'/\H'=[M,s']):=by
 refine Se func63 ntmps63 [0] ?_;intro u R;refine A3<|AH Y<|AN Y<|Zc [_] Y call117 Y V (UV O hn b mi g) ?_;rintro _ _ ⟨_,⟨zs,s2,K,U,rfl⟩,rfl⟩;have I:=K.length_eq
 rw [Bm]at I;refine AH Y<|AN Y<|Zc [_] Y call52 Y V (Re U A0) ?_;rintro _ _ ⟨_,⟨J,W,rfl,m,G,B,rfl⟩,rfl⟩;refine A5<|AN Y<|Ax Y<|AX V results63 Y (by exact ⟨J,W,m.trans K,G,B,V⟩)
end Go.Proofs.YtelliknjeemfoaaGreatDoor
namespace Go.Proofs.YtelliknjeemfoaaGreatDoor
open Go.Proofs.Tryz
open Go Go.RowKit Gw
set_option maxRecDepth 100000
attribute [local irreducible] Gw.At Gw.Nx Gw.Ops
structure Bp where
 b:Nat
 key:C4
 te:Int
 sz:Int
structure Bf where
 r:Nat
 E:List Bp
 nx:Nat->A2
 bf:Nat->A2
 cap:Int
 sh:A2
 us:A2
 mv:A2
 fr:Int
def DT(f:Nat->A2)(a:Nat)(v:A2):Nat->A2:=fun x=>if x=a then v else f x
theorem I9(f:Nat->A2)(a:Nat)(v:A2):DT f a v a=v:=B0 rfl
variable{x:Nat}
theorem Ef(f:Nat->A2){a:Nat}(v:A2)(h:x≠a):DT f a v x=f x:=As h
def Bp.ch(nx bf:Nat->A2)(e:Bp):A8:=(e.b,.cells #[.string e.key,I0 e.te,I0 e.sz,bf e.b,nx e.b] 158 (0,0))
def Bf.S(z:Bf):List A8:=(z.r,.cells #[.string ⟨#[]⟩,I0 0,I0 0,z.bf z.r,z.nx z.r,I0 z.cap,z.sh,z.us,z.mv,I0 z.fr] 162 (0,0))::z.E.map (Bp.ch z.nx z.bf)
def Bf.bl(z:Bf):List Nat:=z.r::z.E.map (·.b)
theorem Bf.keys(z:Bf):z.S.map (·.1)=z.bl:=by
 unfold Bf.S Bf.bl;rw [F2,Mz];rfl
theorem Bf.root(z:Bf):(z.r,Obj.cells #[.string ⟨#[]⟩,I0 0,I0 0,z.bf z.r,z.nx z.r,I0 z.cap,z.sh,z.us,z.mv,I0 z.fr] 162 (0,0))∈z.S:=Fo ..
variable{e:Bp}
theorem Bf.node(z:Bf)(g:e∈z.E):(e.b,Obj.cells #[.string e.key,I0 e.te,I0 e.sz,z.bf e.b,z.nx e.b] 158 (0,0))∈z.S:=G3 _ (Ek (f:=Bp.ch z.nx z.bf) g)
theorem Ga{α β:Type}{f:α->β}:∀{l:List α},(l.map f).Nodup->∀{x y:α},x∈l->y∈l->f x=f y->x=y
 |a::l,hn,x,y,hx,hy,e=>by
  rw [F2,JT]at hn;rcases Dg.1 hx with h1|h1
  · rcases Dg.1 hy with h2|h2
    · rw [h1,h2]
    · exact absurd (by rw [<-h1,e];exact Ek h2) hn.1
  · rcases Dg.1 hy with h2|h2
    · exact absurd (by rw [<-h2,<-e];exact Ek h1) hn.1
    · exact Ga hn.2 h1 h2 e
theorem Bf.upd(z:Bf)(J:z.bl.Nodup){a:Nat}(B:a∈z.bl):∃c T,(a,Obj.cells c T (0,0))∈z.S/\(c.size=5\/c.size=10)/\∀v,Fe a (.cells (c.setIfInBounds 4 v) T (0,0)) z.S=({z with nx:=DT z.nx a v}:Bf).S/\Fe a (.cells (c.setIfInBounds 3 v) T (0,0)) z.S=({z with bf:=DT z.bf a v}:Bf).S:=by
 have g:(z.r::z.E.map (·.b)).Nodup:=J;rw [JT]at g;rcases Dg.1 B with rfl|B
 · refine ⟨_,_,z.root,.inr rfl,fun v=>?_⟩
   have hn:∀e∈z.E,e.b≠z.r:=fun e m h=>g.1 (h▸Ek m);constructor<;>
   · unfold Fe Bf.S
     rw [F2,B0 rfl];congr 1;· simp only [I9];rfl
     · rw [Mz]
       refine W6 fun e m=>?_;show(if e.b=z.r then _ else _)=_
       rw [As (hn e m)];unfold Bp.ch;simp only [Ef _ _ (hn e m)]
 · obtain ⟨e,m,rfl⟩:=CM.1 B
   refine ⟨_,_,z.node m,.inl V,fun v=>?_⟩;have I:z.r≠e.b:=fun h=>g.1 (h▸Ek m)
   constructor<;>
   · unfold Fe Bf.S
     rw [F2,As I];congr 1;· simp only [Ef _ _ I]
     · rw [Mz]
       refine W6 fun e' G=>?_;show(if e'.b=e.b then _ else _)=_
       split
       · rename_i h
         obtain rfl:=Ga g.2 G m h;unfold Bp.ch;simp only [I9];rfl
       · rename_i h
         unfold Bp.ch;simp only [Ef _ _ h]
theorem Bf.fr_upd(z:Bf)(B:z.bl.Nodup)(v:Int):Fe z.r (.cells ((#[.string ⟨#[]⟩,I0 0,I0 0,z.bf z.r,z.nx z.r,I0 z.cap,z.sh,z.us,z.mv,I0 z.fr]:AM).setIfInBounds 9 (I0 v)) 162 (0,0)) z.S=({z with fr:=v}:Bf).S:=by
 have g:(z.r::z.E.map (·.b)).Nodup:=B;rw [JT]at g;have hn:∀e∈z.E,e.b≠z.r:=fun e m h=>g.1 (h▸Ek m)
 unfold Fe Bf.S;rw [F2,B0 rfl];congr 1;rw [Mz];refine W6 fun e m=>?_;show(if e.b=z.r then _ else _)=_
 rw [As (hn e m)]
def F7:Nat->List Nat->Nat->List (Nat×Nat)
 |a,[],c=>[(a,c)]
 |a,b::l,c=>(a,b)::F7 b l c
theorem NT:∀(a:Nat) (l:List Nat),∃A p,∀y,F7 a l y=A++[(p,y)]
 |a,[]=>⟨[],a,fun _=>rfl⟩
 |a,b::l=>by
  obtain ⟨A,p,h⟩:=NT b l;exact ⟨(a,b)::A,p,fun y=>by rw [F7,h];rfl⟩
theorem dm:∀(l:List Nat) (c:Nat),∃n B,∀x,F7 x l c=(x,n)::B
 |[],c=>⟨c,[],fun _=>rfl⟩
 |b::l,c=>⟨b,F7 b l c,fun _=>rfl⟩
theorem MI:∀(a:Nat) (l:List Nat) (x:Nat) (m:List Nat) (c:Nat),F7 a (l++x::m) c=F7 a l x++F7 x m c
 |a,[],x,m,c=>rfl
 |a,b::l,x,m,c=>by
  show(a,b)::F7 b (l++x::m) c=_;rw [MI b l x m c];rfl
theorem J3:∀(a:Nat) (l:List Nat) (c:Nat),(F7 a l c).map (·.1)=a::l
 |a,[],c=>rfl
 |a,b::l,c=>by rw [F7,F2,J3 b l c]
theorem K3:∀(a:Nat) (l:List Nat) (c:Nat),(F7 a l c).map (·.2)=l++[c]
 |a,[],c=>rfl
 |a,b::l,c=>by rw [F7,F2,K3 b l c];rfl
def pV(b:Nat):A2:=I1 b
def JH(nx bf:Nat->A2)(r:Nat)(l:List Nat):Prop:=∀q∈F7 r l r,nx q.1=pV q.2/\bf q.2=pV q.1
variable{bf nx:Nat->A2}{r:Nat}
theorem qH(h:nx r=pV r)(h2:bf r=pV r):JH nx bf r []:=fun q g=>by
 obtain rfl:=CH.1 g;exact ⟨h,h2⟩
theorem Rw{l:List Nat}(hn:(r::l).Nodup):((F7 r l r).map (·.1)).Nodup/\((F7 r l r).map (·.2)).Nodup:=by
 rw [J3,K3];refine ⟨hn,?_⟩;rw [JT]at hn;rw [HN];exact ⟨hn.2,by simp,fun x hx y hy=>by rw [CH.1 hy];rintro rfl;exact hn.1 hx⟩
theorem qI{l1 l2:List Nat}(hn:(r::(l1++x::l2)).Nodup)(h:JH nx bf r (l1++x::l2)):∃p n,p∈r::(l1++l2)/\n∈r::(l1++l2)/\bf x=pV p/\nx x=pV n/\JH (DT nx p (pV n)) (DT bf n (pV p)) r (l1++l2):=by
 obtain ⟨A,p,K⟩:=NT r l1;obtain ⟨n,B,O⟩:=dm l2 r;have e1:F7 r (l1++x::l2) r=A++(p,x)::(x,n)::B:=by rw [MI,K,O];simp
 have e2:F7 r (l1++l2) r=A++(p,n)::B:=by
  cases l2 with
  |nil=>
   have J:=O 0;injection J with h2 h3
   injection h2 with _ h2
   subst h2 h3;rw [DQ,K]
  |cons y m=>
   have J:=O 0;injection J with h2 h3
   injection h2 with _ h2
   subst h2;rw [MI,K,<-h3];simp
 obtain ⟨I,d2⟩:=Rw hn;rw [e1,CN,F2,F2,HN,JT,JT]at I d2;have U:p∈r::(l1++l2):=by
  have:=J3 r (l1++l2) r;rw [e2]at this;rw [<-this];simp
 have g:n∈r::(l1++l2):=by
  have:=K3 r (l1++l2) r;rw [e2]at this;have G:n∈l1++l2++[r]:=by rw [<-this];simp
  rcases CI.1 G with G|G
  · exact G3 _ G
  · rw [CH.1 G];exact Fo ..
 refine ⟨p,n,U,g,(h _ (by rw [e1];simp:(p,x)∈_)).2,(h _ (by rw [e1];simp:(x,n)∈_)).1,fun q g=>?_⟩;rw [e2]at g;rcases CI.1 g with g|g
 · have h0:=h q (by rw [e1];simp [g])
   rw [Ef _ _ fun e=>I.2.2 _ (Ek g) p (Fo ..) e,Ef _ _ fun e=>d2.2.2 _ (Ek g) n (G3 _ (Fo ..)) e];exact h0
 · rcases Dg.1 g with rfl|g
   · exact ⟨I9 _ _ _,I9 _ _ _⟩
   · have h0:=h q (by rw [e1];simp [g])
     rw [Ef _ _ fun e=>I.2.1.1 (by show p∈_;rw [<-e];exact G3 _ (Ek g)),Ef _ _ fun e=>d2.2.1.2.1 (by show n∈_;rw [<-e];exact Ek g)];exact h0
theorem qJ{l:List Nat}(hn:(r::l).Nodup)(hx:x∉r::l)(h:JH nx bf r l):∃p,p∈r::l/\bf r=pV p/\JH (DT (DT nx x (pV r)) p (pV x)) (DT (DT bf x (pV p)) r (pV x)) r (l++[x]):=by
 obtain ⟨A,p,O⟩:=NT r l;have e1:=O r
 have e2:F7 r (l++[x]) r=A++(p,x)::[(x,r)]:=by rw [MI,O];simp [F7]
 obtain ⟨K,d2⟩:=Rw hn;rw [e1,CN,HN]at K d2;have U:p∈r::l:=by
  have:=J3 r l r;rw [e1]at this;rw [<-this];simp
 have I:x≠r:=fun e=>hx (by rw [e];exact Fo ..);have J:x≠p:=fun e=>hx (by rw [e];exact U)
 refine ⟨p,U,(h _ (by rw [e1];simp:(p,r)∈_)).2,fun q g=>?_⟩;rw [e2]at g;have B:∀q∈A,q.1∈r::l:=fun q g=>by
  rw [<-J3 r l r,e1];exact Ek (by simp [g])
 have G:∀q∈A,q.2≠x:=fun q g e=>by
  have m:q.2∈l++[r]:=by rw [<-K3 r l r,e1];exact Ek (by simp [g])
  rw [e]at m;rcases CI.1 m with m|m
  · exact hx (G3 _ m)
  · exact I (CH.1 m)
 rcases CI.1 g with g|g
 · have h0:=h q (by rw [e1];simp [g])
   rw [Ef _ _ fun e=>K.2.2 _ (Ek g) p (Fo ..) e,Ef _ _ fun e=>hx (by rw [<-e];exact B q g),Ef _ _ fun e=>d2.2.2 _ (Ek g) r (Fo ..) e,Ef _ _ (G q g)];exact h0
 · rcases Dg.1 g with rfl|g
   · exact ⟨I9 _ _ _,by show DT _ _ _ x=_;rw [Ef _ _ I,I9]⟩
   · obtain rfl:=CH.1 g
     exact ⟨by show DT _ _ _ x=_;rw [Ef _ _ J,I9],I9 _ _ _⟩
theorem gu(r:Nat)(T:AK)(zz:Nat×Nat)(g m B W U G I J K O:A2):BQ prog 76 #[I1 r] [[(r,.cells #[g,m,B,W,U,G,I,J,K,O] T (0,0))]] (fun v H'=>v=undef/\H'=[[(r,.cells #[g,m,B,I1 r,I1 r,G,I,J,K,O] T (0,0))]]):=by
 refine Se func76 ntmps76 [0] ?_;intro u R;refine Aw (n:=16) (0::0::0::4::12::0::32::96::29::285::797::1821::4095::8191::16383::32767::[]) 34816 AD AD V<|A1 0 V (AQ Y)<|A1 1 V (AQ Y)<|A1 2 V (AQ Y)<|A1 3 V (Aq Y V)<|A1 4 V (AB (off:=0) ia V rfl fh Y)<|A1 5 V (AQ Y)<|A1 6 V (Aq Y V)<|A1 7 V (AB (off:=0) ia V rfl fh Y)<|A1 8 V (Aq Y V)<|A1 9 V (AB (off:=0) ia V rfl fh Y)<|A1 10 V (AB (off:=3) N1 V rfl LI Y)<|Zz (l:=[11])<|C0 [] [] V rfl (Zs LI Y Y V) ?_ (fun _ _ h=>h.elim) Am;rintro _ _ ⟨rfl,rfl⟩;refine CA<|A1 12 V (Aq Y V)<|A1 13 V (AB (off:=0) ia V rfl fh Y)<|A1 14 V (AB (off:=4) N1 V rfl LI Y)<|Zz (l:=[15])<|C0 [] [] V rfl (Zs LI Y Y V) ?_ (fun _ _ h=>h.elim) Am;rintro _ _ ⟨rfl,rfl⟩;refine CA<|Ao<|D6 V results76 (by exact ⟨V,V⟩)
theorem Xq(z:Bf)(G:z.bl.Nodup)(B:e∈z.E){p n:Nat}(I:p∈z.bl)(hn:n∈z.bl)(g:z.bf e.b=pV p)(m:z.nx e.b=pV n):BQ prog 116 #[.pointer (some ⟨e.b,0,none⟩)] [z.S] (fun v H'=>v=undef/\H'=[({z with nx:=DT z.nx p (pV n),bf:=DT z.bf n (pV p)}:Bf).S]):=by
 obtain ⟨Z,W,J,s1,O⟩:=z.upd G I;obtain ⟨c2,X,K,s2,U⟩:=Bf.upd ({z with nx:=DT z.nx p (pV n)}:Bf) G hn;refine Se func116 ntmps116 [0] ?_;intro u R;refine Aw (n:=22) (0::1::3::7::0::16::48::112::0::256::768::1792::0::4096::12288::28672::65535::131071::262143::524287::1048575::2097151::[]) 2359296 AD AD V<|A1 0 V (AQ Y)<|A1 1 V (Aq Y V)<|A1 2 V (AB (off:=3) N1 V rfl LI Y)<|CS (D':=15) 3 V rfl V (Eg Wo (z.node B)) (BL isAgg156 Y (congrArg some g)) ?_;refine A1 4 V (AQ Y)<|A1 5 V (Aq Y V)<|A1 6 V (AB (off:=4) N1 V rfl LI Y)<|CS (D':=255) 7 V rfl V (Eg Wo (z.node B)) (BL isAgg156 Y (congrArg some m)) ?_;refine A1 8 V (AQ Y)<|A1 9 V (Aq Y V)<|A1 10 V (AB (off:=4) N1 V rfl LI Y)<|CS (D':=4095) 11 V rfl V (Eg Wo (z.node B)) (BL isAgg156 Y (congrArg some m)) ?_;refine A1 12 V (AQ Y)<|A1 13 V (Aq Y V)<|A1 14 V (AB (off:=3) N1 V rfl LI Y)<|CS (D':=65535) 15 V rfl V (Eg Wo (z.node B)) (BL isAgg156 Y (congrArg some g)) ?_;refine A1 16 V (Aq Y V)<|A1 17 V (AB (off:=4) N1 V rfl LI Y)<|Zz (l:=[18])<|C0 [false,false,false,false] [] V rfl (FM LI Y Y V Wo (J) (by exact (O _).1) A0 (by exact BA _)) ?_ (fun _ _ h=>h.elim) Am;rintro _ _ ⟨rfl,rfl⟩;refine CA<|A1 19 V (Aq Y V)<|A1 20 V (AB (off:=3) N1 V rfl LI Y)<|Zz (l:=[21])<|C0 [] [] V rfl (FM LI Y Y V Wo (K) (by exact (U _).2) A0 (by exact BA _)) ?_ (fun _ _ h=>h.elim) Am;rintro _ _ ⟨rfl,rfl⟩;refine CA<|Ao<|D6 V results116 (by exact ⟨V,V⟩)
variable{v:A2}{k:Nat}
theorem Wj{e:AK}{xs:List A2}{s:List A8}(h:Row e v xs s){y0:A2}(hy:xs[k]?=some y0):∃b cap cur z,v=I2 b xs.length cap/\s=[(b,.cells cur e z)]/\k<cur.size/\Gc z cur.size/\cur[k]?=some y0/\∀y:A2,Row e v (xs.set k y) [(b,.cells (cur.setIfInBounds k y) e z)]:=by
 have I:=(C6.1 hy).1;obtain ⟨b,cap,cur,z,hv,J,K,h2,O⟩:=wX h I;refine ⟨b,cap,cur,z,hv,J,K,h2,?_,O⟩;obtain ⟨W,B,G,X,U,g,_,_,_,m,_⟩:=h.some A0;rw [J]at g;injection g with g _
 injection g with _ g
 injection g with g _
 subst g;rw [<-Hs,<-mx I,m];exact hy
def FW(L:List Bp)(k:Int):Int:=(L.map fun e=>if e.te=k then e.sz else 0).sum
def L6(L:List Bp):Int:=(L.map (·.sz)).sum
structure Da(z:Bf)(ns:Nat)(L:List Bp)(mb:Nat)(es:Array MapEntry)(ck:Nat)(lm:List (C4×A2))(su:List A8):Prop where
 sub:∀e∈L,e∈z.E
 ring:JH z.nx z.bf z.r (L.map (·.b))
 mv:z.mv= .map (some mb)
 map:Ck (fun k:C4=>Value.string k) es ck lm
 mem:∀p,p∈lm↔∃e∈L,p=(e.key,pV e.b)
 keys:(L.map (·.key)).Nodup
 used:Row 3 z.us ((List.range ns).map fun k:Nat=>Value.int .i64 (FW L (k:Int))) su
 te:∀e∈L,0<=e.te/\e.te<(ns:Int)
 sz:∀e∈L,1<=e.sz
 free:z.fr=z.cap -L6 L
 room:0<=z.fr
 sh:∃a c,z.sh= .slice a ns c
 cap:1<=z.cap/\z.cap<=1000000
theorem RS(A B:List Bp)(k:Int):FW (A++B) k=FW A k+FW B k:=by unfold FW;rw [CN,rI]
theorem PP(e:Bp)(L:List Bp)(k:Int):FW (e::L) k=(if e.te=k then e.sz else 0)+FW L k:=by unfold FW;rw [F2,lB]
theorem LH(A B:List Bp):L6 (A++B)=L6 A+L6 B:=by unfold L6;rw [CN,rI]
theorem Jq(e:Bp)(L:List Bp):L6 (e::L)=e.sz+L6 L:=by unfold L6;rw [F2,lB]
theorem NK:∀{L:List Bp},(∀e∈L,1<=e.sz)->∀k,0<=FW L k/\FW L k<=L6 L
 |[],_,k=>by unfold FW L6;simp
 |e::L,h,k=>by
  have g:=NK (fun x hx=>h x (G3 _ hx)) k;have h2:=h e (Fo ..)
  rw [PP,Jq];split<;>omega
variable{ns:Nat}
theorem VC(f g:Nat->A2)(B:k<ns)(hv:g k=v)(m:∀i,i<ns->i≠k->g i=f i):((List.range ns).map f).set k v=(List.range ns).map g:=by
 apply O2;intro i;rw [Vc,Bm,dq,FF,FF];by_cases hi:i<ns
 · rw [cM hi]
   by_cases e:k=i
   · subst e;rw [B0 rfl,B0 hi,<-hv];rfl
   · rw [As e];exact congrArg some (m i hi (en e)).symm
 · rw [As (by omega:¬k=i),Nd LO];rfl
variable{z:Bf}{L:List Bp}{mb ck:Nat}{es:Array MapEntry}{lm:List (C4×A2)}{su:List A8}
theorem Da.nodup(h:Da z ns L mb es ck lm su)(B:z.bl.Nodup):(z.r::L.map (·.b)).Nodup:=by
 have g:(z.r::z.E.map (·.b)).Nodup:=B;rw [JT]at g⊢;refine ⟨fun J=>?_,?_⟩
 · obtain ⟨e,G,m⟩:=CM.1 J
   exact g.1 (m▸Ek (h.sub e G))
 · have I:=W7.1 h.keys
   refine W7.2 (I.imp_of_mem fun{a b} ha m hne e=>hne ?_);rw [Ga g.2 (h.sub a ha) (h.sub b m) e]
theorem Da.use(h:Da z ns L mb es ck lm su)(k:Int):0<=FW L k/\FW L k<=1000000:=by
 have g:=NK h.sz k;have h2:=h.free;have m:=h.room;have B:=h.cap
 omega
theorem Da.size(h:Da z ns L mb es ck lm su)(g:e∈L):1<=e.sz/\e.sz<=1000000:=by
 obtain ⟨A,B,rfl⟩:=cP g;have m:=LH A (e::B)
 rw [Jq]at m;have K:=(NK (fun x hx=>h.sz x (Fc _ hx):∀x∈A,1<=x.sz) 0)
 have O:=(NK (fun x hx=>h.sz x (HC _ (G3 _ hx)):∀x∈B,1<=x.sz) 0);have h2:=h.free;have G:=h.room;have I:=h.cap;have J:=h.sz e g
 omega
theorem Da.get(h:Da z ns L mb es ck lm su)(g:e∈L):EL e.key lm=some (pV e.b):=Cw h.map.keys ((h.mem _).2 ⟨e,g,rfl⟩)
theorem Da.none{z:Bf}{ns:Nat}{L:List Bp}{mb:Nat}{es:Array MapEntry}{ck:Nat}{lm:List (C4×A2)}{su:List A8}(h:Da z ns L mb es ck lm su){K:C4}(g:∀e∈L,e.key≠K):EL K lm=none:=DN fun p B=>by
 obtain ⟨e,m,rfl⟩:=(h.mem p).1 B;exact g e m
variable{L2 L1:List Bp}
theorem dM(h:Da z ns (L1++e::L2) mb es ck lm su)(hr:JH nx bf z.r ((L1++L2).map (·.b))){I:Array MapEntry}{G:Nat}{B:List (C4×A2)}
 (hm:Ck (fun k:C4=>Value.string k) I G B)(hp:∀p,p∈B↔p∈lm/\p.1≠e.key)(hk:e.te=(k:Int)){K:List A8}(W:Row 3 z.us (((List.range ns).map fun i:Nat=>Value.int .i64 (FW (L1++e::L2) (i:Int))).set k (I0 (FW (L1++e::L2) (k:Int)+(-1)*e.sz))) K):
 Da {z with nx:=nx,bf:=bf,fr:=z.fr -(-1)*e.sz} ns (L1++L2) mb I G B K:=by
 have m:∀x∈L1++L2,x∈L1++e::L2:=fun x hx=>by
  rcases CI.1 hx with hx|hx
  · exact Fc _ hx
  · exact HC _ (G3 _ hx)
 have O:k<ns:=by have:=(h.te e B6).2;omega
 have J:∀i:Int,FW (L1++e::L2) i=FW (L1++L2) i+if e.te=i then e.sz else 0:=fun i=>by
  rw [RS,PP,RS];omega
 have g:=h.keys;rw [CN,F2,HN,JT]at g;have U:∀x∈L1++L2,x.key≠e.key:=fun x hx=>by
  rcases CI.1 hx with hx|hx
  · exact g.2.2 _ (Ek hx) _ (Fo ..)
  · exact fun hh=>g.2.1.1 (hh▸Ek hx)
 have h1:=h.sz e B6;have h2:=h.room
 have X:=h.free;rw [LH,Jq]at X;refine ⟨fun x hx=>h.sub x (m x hx),hr,h.mv,hm,fun p=>?_,?_,?_,fun x hx=>h.te x (m x hx),fun x hx=>h.sz x (m x hx),?_,?_,h.sh,h.cap⟩
 · rw [hp,h.mem]
   constructor
   · rintro ⟨⟨x,hx,rfl⟩,hn⟩
     rcases CI.1 hx with hx|hx
     · exact ⟨x,Fc _ hx,rfl⟩
     · rcases Dg.1 hx with rfl|hx
       · exact absurd rfl hn
       · exact ⟨x,HC _ hx,rfl⟩
   · rintro ⟨x,hx,rfl⟩
     exact ⟨⟨x,m x hx,V⟩,U x hx⟩
 · rw [CN,HN]
   exact ⟨g.1,g.2.1.2,fun a Z b hb=>g.2.2 a Z b (G3 _ hb)⟩
 · rw [VC (v:=I0 (FW (L1++e::L2) (k:Int)+(-1)*e.sz)) (fun i:Nat=>Value.int .i64 (FW (L1++e::L2) (i:Int))) (fun i:Nat=>Value.int .i64 (FW (L1++L2) (i:Int))) O (by show Value.int .i64 _=Value.int .i64 _;rw [J,B0 hk];congr 1;omega) (fun i _ hi=>by
    show Value.int .i64 _=Value.int .i64 _;rw [J,As A0];congr 1;omega)]at W
   exact W
 · show z.fr -(-1)*e.sz=z.cap -_
   rw [LH];omega
 · show 0<=z.fr -(-1)*e.sz
   omega
theorem SK(h:Da z ns L mb es ck lm su)(hr:JH nx bf z.r ((L++[e]).map (·.b))){G:Array MapEntry}{B:Nat}{m:List (C4×A2)}
 (O:∀x∈L,x.key≠e.key)(hm:Ck (fun k:C4=>Value.string k) G B m)(hp:∀p,p∈m↔p=(e.key,pV e.b)\/(p∈lm/\p.1≠e.key))(hk:e.te=(k:Int))(K:k<ns)(hs:1<=e.sz/\e.sz<=z.fr){J:List A8}(U:Row 3 z.us (((List.range ns).map fun i:Nat=>Value.int .i64 (FW L (i:Int))).set k (I0 (FW L (k:Int)+1*e.sz))) J):
 Da {z with E:=z.E++[e],nx:=nx,bf:=bf,fr:=z.fr -1*e.sz} ns (L++[e]) mb G B m J:=by
 have I:∀i:Int,FW (L++[e]) i=FW L i+if e.te=i then e.sz else 0:=fun i=>by
  rw [RS,PP];unfold FW;simp
 have h3:=h.free;have g:∀{Q:Bp->Prop},(∀x∈L,Q x)->Q e->∀x∈L++[e],Q x:=fun W h2 x hx=>by
  rcases CI.1 hx with hx|hx
  · exact W x hx
  · rw [CH.1 hx];exact h2
 refine ⟨g (fun x hx=>Fc _ (h.sub x hx)) (HC _ (CH.2 V)),hr,h.mv,hm,fun p=>?_,?_,?_,g h.te ⟨by omega,by omega⟩,g h.sz hs.1,?_,?_,h.sh,h.cap⟩
 · rw [hp,h.mem]
   constructor
   · rintro (rfl|⟨⟨x,hx,rfl⟩,_⟩)
     · exact ⟨e,by simp,rfl⟩
     · exact ⟨x,Fc _ hx,rfl⟩
   · rintro ⟨x,hx,rfl⟩
     rcases CI.1 hx with hx|hx
     · exact .inr ⟨⟨x,hx,rfl⟩,O x hx⟩
     · rw [CH.1 hx];exact .inl rfl
 · rw [CN,HN]
   refine ⟨h.keys,by simp,fun a X b Z=>?_⟩;obtain ⟨x,hx,rfl⟩:=CM.1 X;obtain rfl:=CH.1 Z;exact O x hx
 · rw [VC (v:=I0 (FW L (k:Int)+1*e.sz)) (fun i:Nat=>Value.int .i64 (FW L (i:Int))) (fun i:Nat=>Value.int .i64 (FW (L++[e]) (i:Int))) K (by show Value.int .i64 _=Value.int .i64 _;rw [I,B0 hk];congr 1;omega) (fun i _ hi=>by
    show Value.int .i64 _=Value.int .i64 _;rw [I,As A0];congr 1;omega)]at U
   exact U
 · show z.fr -1*e.sz=z.cap -_
   rw [LH,Jq];unfold L6 at*;simp;omega
 · show 0<=z.fr -1*e.sz
   omega
def U5(M:List A8)(v:A2)(ns:List Int):Prop:=∃p cap,v= .slice p ns.length cap/\∀(i:Nat) (n:Int),ns[i]?=some n->∃g off cur T zz,p=some ⟨g,off,none⟩/\(g,Obj.cells cur T zz)∈M/\cur[off+i]?=some (I0 n)
theorem U5.mono{M M':List A8}{ns:List Int}(h:U5 M v ns)(I:∀c∈M,c∈M'):U5 M' v ns:=by
 obtain ⟨p,cap,e,G⟩:=h;refine ⟨p,cap,e,fun i n hi=>?_⟩;obtain ⟨g,off,cur,T,zz,m,h2,B⟩:=G i n hi;exact ⟨g,off,cur,T,zz,m,I _ h2,B⟩
theorem lJ{ns:List Int}{s:List A8}(h:Row 3 v (ns.map (Value.int .i64)) s):U5 s v ns:=by
 rcases h with⟨rfl,h0,_⟩|⟨g,cap,cur,z,rfl,rfl,h1,h2,h3,h4,_⟩
 · have B:ns=[]:=by simpa using h0
   subst B;exact ⟨none,0,V,fun i n hi=>by simp at hi⟩
 · rw [Bm]at h4⊢
   refine ⟨some ⟨g,0,none⟩,cap,V,fun i n hi=>⟨g,0,cur,_,z,V,CH.2 V,?_⟩⟩;have G:=(C6.1 hi).1
   have m:=congrArg (fun l=>l[i]?) h4;simp only [HU,B0 G,FF,hi]at m;rw [DP];simpa using m
def Bf.cs(z:Bf):Int×A2:=(z.cap,z.sh)
theorem QZ(z:Bf)(g:z.bl.Nodup)(G:e∈z.E){p:Nat}(I:p∈z.bl)(m:z.bf z.r=pV p):BQ prog 90 #[.pointer (some ⟨e.b,0,none⟩),.pointer (some ⟨z.r,0,none⟩)] [z.S] (fun v H'=>v=undef/\H'=[({z with nx:=DT (DT z.nx e.b (pV z.r)) p (pV e.b),bf:=DT (DT z.bf e.b (pV p)) z.r (pV e.b)}:Bf).S]):=by
 have B:e.b∈z.bl:=G3 _ (Ek G);obtain ⟨c1,T1,J,s1,W⟩:=z.upd g B;obtain ⟨c2,T2,K,s2,X⟩:=Bf.upd ({z with bf:=DT z.bf e.b (pV p)}:Bf) g B;obtain ⟨c3,T3,O,s3,Z⟩:=Bf.upd ({z with bf:=DT z.bf e.b (pV p),nx:=DT z.nx e.b (pV z.r)}:Bf) g I;obtain ⟨c4,T4,U,s4,u4⟩:=Bf.upd ({z with bf:=DT z.bf e.b (pV p),nx:=DT (DT z.nx e.b (pV z.r)) p (pV e.b)}:Bf) g (Fo ..);refine Se func90 ntmps90 [0,1] ?_;intro u R;refine AN Y<|Zm Y<|Zm Y<|Zp Y V<|Zh 3 N1 V rfl LI Y<|CO (Gn Wo (z.root)) (BL isAgg156 Y (congrArg some m)) V rfl<|Zm Y<|Zp Y V<|Zh 3 N1 V rfl LI Y<|Xe (FM LI Y Y V Wo (J) (by exact (W _).2) A0 (by exact BA _))<|Zp Y V<|Zh 4 N1 V rfl LI Y<|Xe (FM LI Y Y V Wo (K) (by exact (X _).1) A0 (by exact BA _))<|Z0<|Zn [0,1] ?_;refine Zx<|Zg<|Zm Y<|Zp Y V<|Zh 3 N1 V rfl LI Y<|CO (Gn Wo ((Bf.node ({z with bf:=DT z.bf e.b (pV p),nx:=DT z.nx e.b (pV z.r)}:Bf) G))) (BL isAgg156 Y (by exact congrArg some (I9 _ _ _))) V rfl<|Zm Y<|Zm Y<|Zm Y<|Zp Y V<|Zh 4 N1 V rfl LI Y<|Xe (FM LI Y Y V Wo (O) (by exact (Z _).1) A0 (by exact BA _))<|Zp Y V<|Zh 3 N1 V rfl LI Y<|Xe (FM LI Y Y V Wo (U) (by exact (u4 _).2) A0 (by exact BA _))<|Z0<|D6 V results90 (by exact ⟨V,V⟩)
theorem Nl(z:Bf)(O:z.bl.Nodup)(G:e∈z.E){sg:Int}(J:sg=1\/sg=-1){xs:List A2}(hu:Row 3 z.us xs su)(W:e.te=(k:Int)){x:Int}(hx:xs[k]?=some (I0 x))(ax:-1000000000<=x/\x<=1000000000)(af:0<=e.sz/\e.sz<=1000000000)(U:-1000000000<=z.fr/\z.fr<=1000000000):BQ prog 91 #[.pointer (some ⟨z.r,0,none⟩),.pointer (some ⟨e.b,0,none⟩),I0 sg] [z.S,su] (fun v H'=>v=undef/\∃B,Row 3 z.us (xs.set k (I0 (x+sg*e.sz))) B/\H'=[({z with fr:=z.fr -sg*e.sz}:Bf).S,B]):=by
 have X:=(C6.1 hx).1;obtain ⟨bu,cu,cur,zu,K,rfl,Z,I,g,m⟩:=Wj hu hx;have hm:-1000000000<=sg*e.sz/\sg*e.sz<=1000000000:=by rcases J with rfl|rfl<;>omega
 refine Se func91 ntmps91 [0,1,2] ?_;intro u R;refine Zq<|Aw (n:=19) (0::1::3::7::0::16::48::112::255::511::0::0::2048::6144::14336::31744::65535::131071::262143::[]) 262144 AD AD V<|A1 0 V (AQ Y)<|A1 1 V (Aq Y V)<|A1 2 V (AB (off:=7) Mb V rfl eK Y)<|CS (D':=15) 3 V rfl V (Eg Wo (z.root)) (BL db Y (congrArg some K)) ?_;refine A1 4 V (AQ Y)<|A1 5 V (Aq Y V)<|A1 6 V (AB (off:=1) N1 V rfl A6 Y)<|CS (D':=255) 7 V rfl V (Eg Wo (z.node G)) (BL AE Y (by exact congrArg (fun t=>some (Value.int .i64 t)) W)) ?_;refine A1 8 rfl (Bd DS A6 Y Y (by first|omega|(rw [US];omega)))<|Bk 9 rfl AE Y (hv:=by exact g) ?_;refine A1 10 V (AQ Y)<|A1 11 V (AQ Y)<|A1 12 V (Aq Y V)<|A1 13 V (AB (off:=2) N1 V rfl A6 Y)<|CS (D':=32767) 14 V rfl V (Eg Wo (z.node G)) (BL AE Y B2) ?_
 (refine FB (D':=65535) 15 (rG Y Y (IntWalk.i64_in _ ?_)) ?_;(focus (omega)))
 (refine FB (D':=131071) 16 (JX Y Y (IntWalk.i64_in _ ?_)) ?_;(focus (omega)))
 refine A1 17 rfl (Bd DS A6 Y Y (by first|omega|(rw [US];omega)))<|Yw 18 524287 rfl (Zs A6 Y Y rfl (hi:=by omega) (hz:=by exact I))<|F1<|Ao<|Zn [0,1,2] ?_;refine Zx<|Aw (n:=14) (0::1::3::7::0::0::32::96::224::496::1023::2047::4095::8191::[]) 8192 AD AD V<|A1 0 V (AQ Y)<|A1 1 V (Aq Y V)<|A1 2 V (AB (off:=9) Mb V rfl A6 Y)<|CS (D':=15) 3 V rfl V (Eg Wo (z.root)) (BL AE Y B2) ?_;refine A1 4 V (AQ Y)<|A1 5 V (AQ Y)<|A1 6 V (Aq Y V)<|A1 7 V (AB (off:=2) N1 V rfl A6 Y)<|CS (D':=511) 8 V rfl V (Eg Wo (z.node G)) (BL AE Y B2) ?_
 (refine FB (D':=1023) 9 (rG Y Y (IntWalk.i64_in _ ?_)) ?_;(focus (omega)))
 (refine FB (D':=2047) 10 (Gu Y Y (IntWalk.i64_in _ ?_)) ?_;(focus (omega)))
 refine A1 11 V (Aq Y V)<|A1 12 V (AB (off:=9) Mb V rfl A6 Y)<|Zz (l:=[13])<|C0 [false,false] [] V rfl (FM A6 Y Y V Wo (z.root) (by exact z.fr_upd O _) Wn (by exact BA _)) ?_ (fun _ _ h=>h.elim) Am;rintro _ _ ⟨rfl,rfl⟩;refine CA<|Ao<|D6 V results91 (by exact ⟨V,_,m _,V⟩)
theorem nA(z:Bf)(m:z.mv= .map (some mb))(B:Ck (fun k:C4=>Value.string k) es ck lm)(K:C4):Az prog 115 #[.pointer (some ⟨z.r,0,none⟩),.string K] [z.S,[(mb,.map es ck)]] (.tuple #[(EL K lm).getD (.pointer none),.bool (EL K lm).isSome]):=by
 refine Se func115 ntmps115 [0,1] ?_;intro u R;refine A3<|Za Y<|AH Y<|B7 Y<|Zv (BZ mB Y Y)<|A5<|AY Y (fun g=>by cases g)<|fun g=>B4<|AN Y<|Zp Y V<|Zh 8 Mb V rfl fj Y<|CO (Gn Wo (z.root)) (BL isAgg155 Y (congrArg some m)) V rfl<|Zm Y<|Zo Wh (EN (Dx HO (D:=fun _=>True)) ie mm B (fun _ _=>trivial) (trivial) (⟨V,V⟩) Y Y)<|Zm Y<|Zd Y V<|Zd Y V<|Za Y<|B1 Y<|Zn [6,7] ?_;refine Zx<|AN Y<|Zm Y<|Za Y<|Ax Y<|Di V results115 Y Y (by exact ⟨V,V⟩)
theorem Um(g:Da z ns (L1++e::L2) mb es ck lm su)(Z:z.bl.Nodup):BQ prog 86 #[.pointer (some ⟨z.r,0,none⟩),.pointer (some ⟨e.b,0,none⟩)] [z.S,[(mb,.map es ck)],su] (fun v H'=>v=undef/\∃K G B ek J,K.r=z.r/\K.cs=z.cs/\K.E=z.E/\Da K ns (L1++L2) mb G B ek J/\H'=[K.S,[(mb,.map G B)],J]):=by
 have he:e∈z.E:=g.sub e B6;have bn:=g.nodup Z
 obtain ⟨p,n,hp,hn,X,cu,m⟩:=qI (l1:=L1.map (·.b)) (l2:=L2.map (·.b)) (x:=e.b) (by simpa using bn) (by simpa using g.ring);have I:∀q,q∈z.r::(L1.map (·.b)++L2.map (·.b))->q∈z.bl:=fun q O=>by
  rcases Dg.1 O with rfl|O
  · exact Fo ..
  · rw [<-CN]at O
    obtain ⟨x,hx,rfl⟩:=CM.1 O;exact G3 _ (Ek (g.sub x (by rcases CI.1 hx with h|h<;>simp [h])))
 rw [<-CN]at m;have j5:=g.te e B6
 obtain ⟨k,hk⟩:∃k:Nat,e.te=(k:Int):=⟨e.te.toNat,by omega⟩;have af:k<ns:=by omega
 have kv:=g.use (k:Int);have j3:=g.size (e:=e) B6
 have gy:=g.room;have ic:z.fr<=1000000:=by
  have h1:=g.free;have h2:=g.cap;have h3:=NK g.sz 0
  omega
 refine Se func86 ntmps86 [0,1] ?_;intro u R;refine AN Y<|Zc [_] Y call116 Y V (Xq z Z he (I p hp) (I n hn) X cu) ?_;rintro _ _ ⟨_,⟨rfl,rfl⟩,rfl⟩;refine A5<|Zq<|Aw (n:=9) (0::1::3::7::0::16::48::112::255::[]) 256 AD AD V<|A1 0 V (AQ Y)<|A1 1 V (Aq Y V)<|A1 2 V (AB (off:=8) Mb V rfl fj Y)<|CS (D':=15) 3 V rfl V (Eg Wo ((Bf.root ({z with nx:=DT z.nx p (pV n),bf:=DT z.bf n (pV p)}:Bf)))) (BL isAgg155 Y (congrArg some g.mv)) ?_;refine A1 4 V (AQ Y)<|A1 5 V (Aq Y V)<|A1 6 V (AB (off:=0) N1 V rfl HD Y)<|CS (D':=255) 7 V rfl V (Eg Wo ((Bf.node ({z with nx:=DT z.nx p (pV n),bf:=DT z.bf n (pV p)}:Bf) he))) (BL Kx Y B2) ?_;refine Yw 8 511 V (LF (Dx HO (D:=fun _=>True)) ie g.map (fun _ _=>trivial) (trivial) Y Y Wo) ?_;rintro _ _ ⟨rfl,W,U,gm,ax,cO,rfl⟩;refine Ao<|Zx<|Zg<|Zm Y<|Zm Y<|Zc [_,_,_] Y call91 Y rfl (Nl ({z with nx:=DT z.nx p (pV n),bf:=DT z.bf n (pV p)}:Bf) Z he (.inr rfl) g.used hk (k:=k) (x:=FW (L1++e::L2) (k:Int)) (by rw [FF,cM af];rfl) A0 A0 (by show _<=z.fr/\z.fr<=_;omega)) ?_;rintro _ _ ⟨_,⟨rfl,gq,d9,rfl⟩,rfl⟩;refine Z0<|D6 V results86 (by exact ⟨V,({z with nx:=DT z.nx p (pV n),bf:=DT z.bf n (pV p),fr:=z.fr -(-1)*e.sz}:Bf),W,U,gm,gq,V,V,V,dM g m ax cO hk d9,V⟩)
theorem kI(B:Da z ns (L1++e::L2) mb es ck lm su)(Z:z.bl.Nodup):BQ prog 62 #[.pointer (some ⟨z.r,0,none⟩),.string e.key] [z.S,[(mb,.map es ck)],su] (fun v H'=>v= .bool true/\∃J m g I G,J.r=z.r/\J.cs=z.cs/\J.E=z.E/\Da J ns (L1++L2) mb m g I G/\H'=[J.S,[(mb,.map m g)],G]):=by
 have hg:=B.get (e:=e) B6;refine Se func62 ntmps62 [0,1] ?_;intro u R;refine A3<|AH Y<|AN Y<|Zm Y<|Xr [_,_] Y call115 Y V (nA z B.mv B.map e.key) ?_;rw [hg,kk];refine Zm Y<|Zd Y V<|Zd Y V<|Za Y<|AH Y<|B7 Y<|A5<|AY Y (fun K=>?_) (fun K=>?_);·
  refine Zg<|Zm Y<|Zm Y<|Zc [_,_] Y call86 Y V (Um B Z) ?_;rintro _ _ ⟨_,⟨rfl,J,m,g,I,G,X,W,U,O,rfl⟩,rfl⟩;refine Z0<|Zn [6] ?_;refine Zx<|AN Y<|Ax Y<|AX V results62 Y (by exact ⟨V,J,m,g,I,G,X,W,U,O,V⟩)
 cases K
theorem wM(B:Da z ns (L) mb es ck lm su)(hd:z.bl.Nodup)(U:k<ns):Az prog 65 #[.pointer (some ⟨z.r,0,none⟩),I0 (k:Int)] [z.S,[(mb,.map es ck)],su] (I0 (FW L (k:Int))):=by
 obtain ⟨X,Z,cur,zu,g,rfl,W,O,m,I⟩:=Wj B.used (k:=k) (by rw [FF,cM U];rfl);rw [Bm,dq]at g;refine Se func65 ntmps65 [0,1] ?_;intro u R;refine A3<|AH Y<|B7 Y<|Zv (BZ mB Y Y)<|Zm Y<|Ab (t:=7) Y V (fun G=>by cases G)<|fun G=>Zf Y Y<|Yg (Ar (n:=0) Y Y)<|BW Y Y<|Zm Y<|Ae (t:=11) Y V (fun K=>by omega)<|fun K=>Zf Y Y<|Zf Y Y<|Yg (Aq Y V)<|Yf 7 Mb V rfl eK Y<|Lg Y (Gn Wo (z.root)) (BL db Y (congrArg some g)) V rfl ?_;refine Yg (AR DS Y)<|Yg (G8 Y Y)<|BW Y Y<|Z0<|Zn [0,1,19] ?_;refine Zx<|Ap Y (fun J=>by omega)<|fun J=>B4<|AN Y<|Zp Y V<|Zh 7 Mb V rfl eK Y<|CO (Gn Wo (z.root)) (BL db Y (congrArg some g)) V rfl<|Zm Y<|Ba (Bd DS A6 Y Y A0)<|Zl AE Y (hv:=by exact m)<|Ax Y<|AX V results65 Y (by exact ⟨V,V⟩)
end Go.Proofs.YtelliknjeemfoaaGreatDoor
