/- The program's layer 3: put. -/
/- Rows of several cells, read. -/
/- Sorted lists of rows: what a change does to them. -/
/- The reference of layer 4: Apply. -/
/- Records in plain words: a log that can be applied. -/
/- The keys of the store; a map that holds rows. -/
/- The store: New, Apply, At. -/
/- The store: At. -/
/- The value of a column: of the reference of layer 3, of the program. -/
/- The reference of layer 4: Range. -/
/- row.Value, to the world: what the comparator of the sort wants. -/
/- The store: the predicate of Range. -/
/- The store: chosen, over a contract of the sort. -/
/- The store: chosen, called by Range. -/
/-
  The sort with a function lies in the program: laid at rows (printed by the kit, in plain words).
-/
/- The comparator of chosen, to the world. -/
/- What the sort does with it. -/
/- The rows of a range, of a table: one list. -/
/- Rows in memory. -/
/- slices.IndexFunc, DeleteFunc, Insert at rows. -/
/- Queries: their results on a state, and which changes touch them. -/
import Derived.Test.YteaiajghbkenoaaGreatDoorEz
import Derived.Test.YteaiajghbkenoaaGreatDoorLg5
import Derived.Test.YteaiajghbkenoaaGreatDoorEx36
import Derived.WalkKit
import Derived.WalkSpells
import Derived.Sort.Grow
import Derived.Deep.Draws
import Derived.Lib.Hide
import Derived.LoopTactic
import Derived.Shelf.SlSortCmp.WholeK
import Derived.Test.YteaiajghbkenoaaGreatDoorProg
import Derived.Shelf.SlSortCmp.NoneTotal
set_option linter.unusedVariables false
set_option linter.unusedSimpArgs false
namespace Go.Proofs.YteaiajghbkenoaaGreatDoor
open Go.Proofs.Tryz
open Go Go.RowKit Gw
set_option maxRecDepth 100000
attribute [local irreducible] Gw.At Gw.Nx Gw.Ops
def Gs(ls:List Int):List UInt8:=ls.flatMap Sz
theorem Gr:∀(ls:List Int),(∀n∈ls,-4611686018427387903<=n/\n<=4611686018427387903)->(Gs ls).length<=ls.length*9
 |[],_=>by simp [Gs]
 |n::ls,h=>by
  have h1:=Gr ls (fun m hm=>h m (by simp [hm]));have h2:=Ob n (h n Ap0).1 (h n Ap0).2
  unfold Gs at*;rw [AB2,zG,ze];omega
theorem XQ(ls:List Int)(n:Int):Gs (ls++[n])=Gs ls++Sz n:=by simp [Gs]
theorem lX(g off cap:Nat)(cur:Array Value)(T:TypeId)(z:Nat×Nat)(ls:List Int)(hin:KZ cur off ls)(hn:ls.length<=1073741824)(hr:∀n∈ls,-4611686018427387903<=n/\n<=4611686018427387903):
 BJ Tryz.prog 273 #[.slice (some ⟨g,off,none⟩) ls.length cap] [[(g,.cells cur T z)]] (.string (str (Gs ls))):=by
 have hml:=mL;refine Se func273 ntmps273 [0] ?_;intro u R;refine Zq<|Zg<|Za Y<|Z0<|Zx<|Zq<|Zg<|Za Y<|Z0<|Zx<|Zq<|Zq<|Zg<|Zm Y<|Zv (Aa AV0 Y)<|Zm Y<|Z0<|Zx<|AO<|Zb [3,10,8,9] ?_;refine BI (e0:=[(3,_),(10,_)]) (fun m e H=>∃(i:Nat),m=ls.length -i/\(i<=ls.length)/\e=[(3,.string (str (Gs (ls.take i)))),(10,I4 (i:Int))]/\H=[]) (by exact ⟨0,V,zT _,V,V⟩) Wp ?_;rintro _ _ _ ⟨i,rfl,hi,rfl,rfl⟩;refine Zq<|Zg<|Zv (Au Y Y)<|Z0<|Zx<|Zq<|Aw Y (fun hlt=>?_) (fun hlt=>?_)
 ·
  obtain ⟨x,hx⟩:∃x,ls[i]?=some x:=⟨_,zD hlt⟩;have hxr:=hr x (zP hx)
  have htk:ls.take (i+1)=ls.take i++[x]:=by rw [AH3,hx];rfl
  have hpl:=Gr (ls.take i) (fun m hm=>hr m (AI9 hm));have htl:(ls.take i).length<=i:=List.length_take_le ..
  have hel:=Ob x hxr.1 hxr.2;refine AJ<|Zx<|Zq<|AO<|Zq<|Zg<|Bq (CY AV0 AU1 Y Y Ao7)<|Zl AU2 Y (hv:=by exact hin i x hx) ?_;refine Za Y<|Z0<|Zx<|Zq<|Zg<|Zm Y<|Xr [_] Y call231 Y V (Q0 x hxr.1 hxr.2) ?_;refine Zm Y<|Zd Y rfl<|Zd Y rfl<|Za Y<|Za Y<|Z0<|Zx<|Zg<|Zm Y<|Zm Y<|Bq (M4 Y Y (by rw [GQ,GQ];omega))<|Za Y<|Z0<|Zn [3,8,9,10] ?_;refine A9<|Zx<|Zg<|Ya (n:=1) Y Y<|Zm Y<|Z0<|Zn [3,10,8,9] ?_;refine Ad (e':=[(3,_),(10,_)]) (by exact ⟨i+1,rfl,by omega,by rw [htk,XQ,<-Qf],rfl⟩)
 refine BG<|Zt<|Zt<|AX<|Zx<|Zq<|Zg<|Zm Y<|Za Y<|Z0<|Zx<|AC<|AL rfl results273 Y (by exact ⟨by rw [AB6 Ao7],rfl⟩)
structure IR where
 p:Int
 ch:List UInt8
 st:List UInt8
variable{sz:Nat}{e:TypeId}{v:Value}{xs:List Value}{s:List A8}
theorem L8{k:Nat}(h:BZ sz e v k xs s)(i:Nat)(hi:i<k):∃g cap cur z,v=I6 g k cap/\s=[(g,.cells cur e z)]/\i*sz+sz<=cur.size/\(cur.extract (i*sz) (i*sz+sz)).toList=(xs.drop (i*sz)).take sz:=by
 obtain ⟨hl,⟨_,h0,_⟩|⟨g,cap,cur,z,rfl,rfl,hk,hc,hsz,htk,hf⟩⟩:=h
 · omega
 · have h1:i*sz+sz<=k*sz:=by
    have:=AF9 sz (Nat.succ_le_of_lt hi);rw [Nat.succ_mul]at this;exact this
   have h2:k*sz<=cap*sz:=AF9 sz hk;refine ⟨g,cap,cur,z,V,V,by omega,?_⟩;rw [<-htk,Array.toList_extract,AS3,AP2,AJ5];congr 1;omega
def Ac(rs:List AQ):List Value:=rs.flatMap (fun r=>[I4 r.t,I4 r.k,I4 r.v.a,I4 r.v.b,I4 r.v.c])
theorem KP{α:Type}(f:α->List Value)(sz:Nat)(hf:∀a,(f a).length=sz):∀(l:List α) (i:Nat) (a:α),l[i]?=some a->((l.flatMap f).drop (i*sz)).take sz=f a
 |x::l,0,a,h=>by
  injection h with h;subst h
  rw [Nat.zero_mul,AI5,AB2,AE3 (by rw [hf];exact zh _),AB6 (by rw [hf];exact zh _)]
 |x::l,i+1,a,h=>by
  have e1:(f x++l.flatMap f).drop sz=l.flatMap f:=by
   have h9:=List.drop_left (l₁:=f x) (l₂:=l.flatMap f);rwa [hf]at h9
  rw [AB2,Nat.succ_mul,Nat.add_comm,<-AL0,e1];exact KP f sz hf l i a h
def J2(cs:List Chg):List Value:=cs.flatMap (fun c=>[I4 c.t,I4 c.k,.bool c.had,I4 c.o.a,I4 c.o.b,I4 c.o.c,.bool c.has,I4 c.n.a,I4 c.n.b,I4 c.n.c])
theorem kI{rs:List Chg}(h:BZ 10 e v rs.length (J2 rs) s)(hn:rs.length<=maxLen):Ct s v rs:=by
 obtain ⟨b,cap,rfl⟩:=h.form;refine ⟨b,cap,V,hn,fun i r hr=>?_⟩;obtain ⟨g,cap',cur,z,hv,rfl,hsz,hex⟩:=L8 h i (zF.1 hr).1;injection hv with hv1 hv2 hv3
 refine ⟨g,0,cur,e,z,hv1,zI.2 V,by omega,?_⟩;rw [zo];apply AB8.1;rw [hex];exact KP _ 10 (fun _=>rfl) rs i r hr
theorem LJ:∀(rs:List AQ) (t k:Int),BM rs->∃A B,rs=A++B/\A.length=Gt rs t k/\(∀r∈A,r.lt2 t k)/\(∀r∈B,¬r.lt2 t k)
 |[],t,k,_=>⟨[],[],rfl,rfl,by simp,by simp⟩
 |r::rs,t,k,hs=>by
  have hs':=AE5.1 hs;by_cases h:r.lt2 t k
  · obtain ⟨A,B,h1,h2,h3,h4⟩:=LJ rs t k hs'.2
    refine ⟨r::A,B,by rw [h1];rfl,?_,?_,h4⟩
    · unfold Gt at*
      rw [AE8,Am7 (by simpa using h),ze,ze,h2]
    · intro x hx
      rcases za.1 hx with rfl|hx
      · exact h
      · exact h3 x hx
  · refine ⟨[],r::rs,rfl,?_,by simp,?_⟩
    · unfold Gt
      rw [AE8,Am6 (by simpa using h)]
    · intro x hx hc
      rcases za.1 hx with rfl|hx
      · exact h hc
      · exact h (jD (hs'.1 x hx) hc)
variable{k t:Int}
theorem Um{r:AQ}(h:r.is t k):¬r.lt2 t k:=by unfold AQ.is AQ.lt2 at*;omega
variable{rs:List AQ}
theorem Ju{r:AQ}(hs:BM rs)(hr:r∈rs)(h:r.is t k):KO rs t k=(r,true):=by
 obtain ⟨A,B,h1,h2,h3,h4⟩:=LJ rs t k hs;have hB:r∈B:=by
  rw [h1]at hr;rcases zJ.1 hr with h9|h9
  · exact absurd (h3 r h9) (Um h)
  · exact h9
 cases B with
 |nil=>cases hB
 |cons b B=>
  have hb:b=r:=by
   rcases za.1 hB with h9|h9
   · exact h9.symm
   · exfalso
     have hs2:BM (b::B):=by rw [h1]at hs;exact (AD1.1 hs).2.1
     have h8:=(AE5.1 hs2).1 r h9;have h7:=h4 b Ap0
     unfold AQ.is at h;rw [h.1,h.2]at h8;exact h7 h8
  subst hb;have hg:rs[Gt rs t k]?=some b:=by rw [<-h2,h1,AC1 (zh _),AL5];rfl
  unfold KO;rw [hg];simp only;rw [Am7 h]
theorem Pe(h:∀r∈rs,¬r.is t k):KO rs t k=(AQ.zero,false):=by
 unfold KO;split
 · rename_i r hr
   rw [Am6 (h r (zP hr))]
 · rfl
theorem Jv(h:(KO rs t k).2=true):∃r∈rs,r.is t k/\rs[Gt rs t k]?=some r/\KO rs t k=(r,true):=by
 unfold KO at*;split at h
 · rename_i r hr
   split at h
   · rename_i hi
     exact ⟨r,zP hr,hi,hr,by rw [Am7 hi]⟩
   · cases h
 · cases h
def IG(rs:List AQ)(c:Chg):Prop:=(KO rs c.t c.k).2=c.had/\((KO rs c.t c.k).2=true->(KO rs c.t c.k).1.v=c.o)
def QQ(c:Chg):List AQ:=if c.has then [⟨c.t,c.k,c.n⟩]else []
def Es(rs:List AQ)(c:Chg):List AQ:=rs.take (Gt rs c.t c.k)++QQ c++(rs.drop (Gt rs c.t c.k)).drop (if c.had then 1 else 0)
variable{c:Chg}
theorem OJ{x:AQ}:x∈QQ c↔c.has=true/\x=⟨c.t,c.k,c.n⟩:=by
 unfold QQ;cases c.has<;>simp
theorem PO(hs:BM rs)(hf:IG rs c):∃A B,Es rs c=A++QQ c++B/\(∀x,x∈rs↔x∈A\/x∈B\/(x∈rs/\x.is c.t c.k))/\BM A/\BM B/\(∀r∈A,r.lt2 c.t c.k)/\(∀r∈B,c.t<r.t\/c.t=r.t/\c.k<r.k)/\rs.length=A.length+B.length+(if c.had then 1 else 0):=by
 obtain ⟨A,B,h1,h2,h3,h4⟩:=LJ rs c.t c.k hs;have hsA:BM A:=by rw [h1]at hs;exact (AD1.1 hs).1
 have hsB:BM B:=by rw [h1]at hs;exact (AD1.1 hs).2.1
 have hta:rs.take (Gt rs c.t c.k)=A:=by rw [<-h2,h1,AC3 rfl]
 have hdr:rs.drop (Gt rs c.t c.k)=B:=by rw [<-h2,h1,AJ7 rfl]
 unfold Es;rw [hta,hdr];have gt_of:∀x∈B,¬x.is c.t c.k->c.t<x.t\/c.t=x.t/\c.k<x.k:=fun x hx hn=>by
  have h9:=h4 x hx;unfold AQ.lt2 at h9;unfold AQ.is at hn;omega
 cases hh:c.had with
 |false=>
  have hno:∀r∈rs,¬r.is c.t c.k:=fun r hr hi=>by
   have h9:=hf.1;rw [Ju hs hr hi,hh]at h9;cases h9
  refine ⟨A,B,by simp,fun x=>?_,hsA,hsB,h3,fun r hr=>gt_of r hr (hno r (by rw [h1];exact zZ _ hr)),by rw [h1];simp⟩;rw [h1,zJ];constructor
  · rintro (h|h)
    · exact .inl h
    · exact .inr (.inl h)
  · rintro (h|h|⟨h,_⟩)
    · exact .inl h
    · exact .inr h
    · exact h
 |true=>
  obtain ⟨r,hr,hi,hp,hg⟩:=Jv (by rw [hf.1,hh]:(KO rs c.t c.k).2=true);have hb:B[0]?=some r:=by rw [<-h2,h1,AC1 (zh _),AL5]at hp;exact hp
  cases B with
  |nil=>cases hb
  |cons b B=>
   injection hb with hb
   subst hb;have hsB2:=AE5.1 hsB
   refine ⟨A,B,by simp,fun x=>?_,hsA,hsB2.2,h3,fun x hx=>?_,by rw [h1];simp;omega⟩
   · constructor
     · intro hx
       have hx2:=hx;rw [h1]at hx;rcases zJ.1 hx with h|h
       · exact .inl h
       · rcases za.1 h with rfl|h
         · exact .inr (.inr ⟨hx2,hi⟩)
         · exact .inr (.inl h)
     · rintro (h|h|⟨h,_⟩)
       · rw [h1];exact zR _ h
       · rw [h1];exact zZ _ (zW _ h)
       · exact h
   · have h9:=hsB2.1 x hx
     unfold AQ.lt2 at h9;unfold AQ.is at hi;omega
theorem Fa(hs:BM rs)(hf:IG rs c)(x:AQ):x∈Es rs c↔(x∈rs/\¬x.is c.t c.k)\/(c.has=true/\x=⟨c.t,c.k,c.n⟩):=by
 obtain ⟨A,B,h1,h2,_,_,h3,h4,_⟩:=PO hs hf;rw [h1,zJ,zJ,OJ];have a9:∀x∈A,¬x.is c.t c.k:=fun x hx hi=>Um hi (h3 x hx)
 have b9:∀x∈B,¬x.is c.t c.k:=fun x hx hi=>by have h9:=h4 x hx;unfold AQ.is at hi;omega
 constructor
 · rintro ((h|h)|h)
   · exact .inl ⟨(h2 x).2 (.inl h),a9 x h⟩
   · exact .inr h
   · exact .inl ⟨(h2 x).2 (.inr (.inl h)),b9 x h⟩
 · rintro (⟨h,hn⟩|h)
   · rcases (h2 x).1 h with h9|h9|⟨_,h9⟩
     · exact .inl (.inl h9)
     · exact .inr h9
     · exact absurd h9 hn
   · exact .inl (.inr h)
theorem Il(hs:BM rs)(hf:IG rs c):BM (Es rs c):=by
 obtain ⟨A,B,h1,_,hA,hB,h3,h4,_⟩:=PO hs hf;rw [h1];have lt_of:∀a b:AQ,a.lt2 c.t c.k->(c.t<b.t\/c.t=b.t/\c.k<b.k)->a.lt2 b.t b.k:=fun a b ha hb=>by unfold AQ.lt2 at*;omega
 refine AD1.2 ⟨AD1.2 ⟨hA,?_,?_⟩,hB,?_⟩
 · unfold QQ;split<;>simp
 · intro a ha b hb
   obtain ⟨_,rfl⟩:=OJ.1 hb;exact h3 a ha
 · intro a ha b hb
   rcases zJ.1 ha with ha|ha
   · exact lt_of a b (h3 a ha) (h4 b hb)
   · obtain ⟨_,rfl⟩:=OJ.1 ha
     have:=h4 b hb;unfold AQ.lt2;simp only;omega
theorem tL(hs:BM rs)(hf:IG rs c):((Es rs c).length:Int)=rs.length+(if c.has then 1 else 0) -(if c.had then 1 else 0):=by
 obtain ⟨A,B,h1,_,_,_,_,_,h5⟩:=PO hs hf;rw [h1,h5];unfold QQ;cases c.has<;>cases c.had<;>simp<;>omega
theorem uM(hs:BM rs)(hf:IG rs c)(hne:¬(c.t=t/\c.k=k)):KO (Es rs c) t k=KO rs t k:=by
 cases hg:(KO rs t k).2 with
 |true=>
  obtain ⟨r,hr,hi,_,he⟩:=Jv hg;rw [he];exact Ju (Il hs hf) ((Fa hs hf r).2 (.inl ⟨hr,fun h=>by unfold AQ.is at h hi;omega⟩)) hi
 |false=>
  have hno:∀r∈rs,¬r.is t k:=fun r hr hi=>by rw [Ju hs hr hi]at hg;cases hg
  rw [Pe hno];refine Pe fun r hr hi=>?_;rcases (Fa hs hf r).1 hr with⟨h,_⟩|⟨_,rfl⟩
  · exact hno r h hi
  · exact hne hi
def EC(rs:List AQ)(cs:List Chg):List AQ:=cs.foldl Es rs
theorem GR(rs:List AQ)(cs:List Chg)(i:Nat)(c:Chg)(h:cs[i]?=some c):EC rs (cs.take (i+1))=Es (EC rs (cs.take i)) c:=by
 unfold EC;rw [AH3,h,AJ6];rfl
def uo(cs:List Chg):Prop:=∀(i j:Nat) (b c:Chg),i<j->cs[i]?=some b->cs[j]?=some c->b.lt c
theorem kJ{a b:Chg}(h:a.lt b)(h2:b.lt c):a.lt c:=by unfold Chg.lt at*;omega
variable{cs:List Chg}
theorem WU(h:∀(i:Nat) (b c:Chg),cs[i]?=some b->cs[i+1]?=some c->b.lt c):uo cs:=by
 intro i j b c hij hb hc;obtain ⟨d,rfl⟩:∃d,j=i+1+d:=⟨j -(i+1),by omega⟩;clear hij;induction d generalizing c with
 |zero=>exact h i b c hb hc
 |succ d ih=>
  obtain ⟨x,hx⟩:∃x,cs[i+1+d]?=some x:=by
   have:=(zF.1 hc).1;exact ⟨_,zD Ao7⟩
  exact kJ (ih x hx) (h (i+1+d) x c hx hc)
theorem Lb{rs:List AQ}{cs:List Chg}(hs:BM rs)(ha:uo cs)(hf:∀c∈cs,IG rs c):∀i,i<=cs.length->BM (EC rs (cs.take i))/\∀(j:Nat) (c:Chg),i<=j->cs[j]?=some c->IG (EC rs (cs.take i)) c
 |0,_=>⟨hs,fun j c _ hc=>hf c (zP hc)⟩
 |i+1,hi=>by
  obtain ⟨h1,h2⟩:=Lb hs ha hf i Ao7;obtain ⟨x,hx⟩:∃x,cs[i]?=some x:=⟨_,zD Ao7⟩;rw [GR rs cs i x hx];have hfx:=h2 i x (zh _) hx
  refine ⟨Il h1 hfx,fun j c hj hc=>?_⟩;have hlt:=ha i j x c Ao7 hx hc
  have h9:=h2 j c Ao7 hc;unfold IG at*;rw [uM h1 hfx (by unfold Chg.lt at hlt;omega)];exact h9
def Ma(c:Chg):Int:=(if c.has then 1 else 0) -(if c.had then 1 else 0)
def Gg(rs:List AQ)(cs:List Chg):Int:=cs.foldl (fun n c=>n+Ma c) (rs.length:Int)
theorem Gm(rs:List AQ)(cs:List Chg)(i:Nat)(c:Chg)(h:cs[i]?=some c):Gg rs (cs.take (i+1))=Gg rs (cs.take i)+Ma c:=by
 unfold Gg;rw [AH3,h,AJ6];rfl
theorem lQ(c:Chg):-1<=Ma c/\Ma c<=1:=by unfold Ma;split<;>split<;>omega
theorem RB(rs:List AQ)(cs:List Chg):∀i,(rs.length:Int) -i<=Gg rs (cs.take i)/\Gg rs (cs.take i)<=rs.length+i
 |0=>by unfold Gg;simp
 |i+1=>by
  have ih:=RB rs cs i;cases h:cs[i]?with
  |none=>rw [AH3,h];simp only [Option.toList,zV];omega
  |some c=>have h9:=lQ c;rw [Gm rs cs i c h];omega
theorem SK{rs:List AQ}{cs:List Chg}(hs:BM rs)(ha:uo cs)(hf:∀c∈cs,IG rs c):∀i,i<=cs.length->((EC rs (cs.take i)).length:Int)=Gg rs (cs.take i)
 |0,_=>rfl
 |i+1,hi=>by
  obtain ⟨x,hx⟩:∃x,cs[i]?=some x:=⟨_,zD Ao7⟩;have ih:=SK hs ha hf i Ao7
  obtain ⟨h1,h2⟩:=Lb hs ha hf i Ao7;rw [GR rs cs i x hx,Gm rs cs i x hx,tL h1 (h2 i x (zh _) hx),ih];unfold Ma;omega
structure QN(rs:List AQ)(p rp:Int)(cs:List Chg):Prop where
 ok:Eo rp cs
 pos:rp=p+1
 fit:∀c∈cs,IG rs c
 size:Gg rs cs<=2000
theorem C9(a b:List AQ):Ac (a++b)=Ac a++Ac b:=by unfold Ac;rw [AE2]
theorem BB:∀(rs:List AQ),(Ac rs).length=rs.length*5
 |[]=>rfl
 |r::rs=>by
  have:=BB rs;unfold Ac at*;rw [AB2,zG,this,ze];simp;omega
theorem Fj(rs:List AQ)(k:Nat):(Ac rs).take (k*5)=Ac (rs.take k):=by
 rcases AB1 rs.length k with h|h
 · rw [AB6 (by rw [BB];omega),AB6 Ao7]
 · have e:Ac rs=Ac (rs.take k)++Ac (rs.drop k):=by rw [<-C9,AB4]
   rw [e,AC3 (by rw [BB,zN];omega)]
theorem Mc(rs:List AQ)(k:Nat):(Ac rs).drop (k*5)=Ac (rs.drop k):=by
 rcases AB1 rs.length k with h|h
 · rw [AF1 (by rw [BB];omega),AF1 Ao7];rfl
 · have e:Ac rs=Ac (rs.take k)++Ac (rs.drop k):=by rw [<-C9,AB4]
   rw [e,AJ7 (by rw [BB,zN];omega)]
theorem EH(rs:List AQ):∀u∈Ac rs,u.oneCell'=true:=by
 intro u hu;unfold Ac at hu;obtain ⟨r,_,h⟩:=AF8.1 hu;simp only [za,AH2,An6]at h;rcases h with rfl|rfl|rfl|rfl|rfl<;>rfl
theorem BO{n n':Nat}{xs':List Value}(h:BZ sz e v n xs s)(hn:n=n')(hx:xs=xs'):BZ sz e v n' xs' s:=by subst hn hx;exact h
theorem Ew{b:Option Addr}{n c:Nat}(h:BZ sz e (.slice b n c) n xs s):n<=c:=by
 obtain ⟨_,⟨hv,h0,_⟩|⟨_,_,_,_,hv,_,h2,_⟩⟩:=h
 · omega
 · injection hv with _ _ hv3;omega
theorem DD(sz g k c:Nat)(e:TypeId)(z:Nat×Nat)(xs:List Value)(h:xs.length=k*sz):qY sz (I6 g k c) k xs [(g,.cells xs.toArray e z)]:=
 ⟨h,.inr ⟨g,0,c,xs.toArray,e,z,rfl,rfl,by unfold CE;rw [AI5];simp⟩⟩
variable{i:Nat}{x:Chg}
theorem uw(hx:cs[i]?=some x)(h1:x.had=true)(h2:x.has=true):Gg rs (cs.take (i+1))=Gg rs (cs.take i) -1+1:=by rw [Gm rs cs i x hx];unfold Ma;rw [Am7 h2,Am7 h1];omega
theorem uy(hx:cs[i]?=some x)(h1:x.had=true)(h2:x.has=false):Gg rs (cs.take (i+1))=Gg rs (cs.take i) -1:=by rw [Gm rs cs i x hx];unfold Ma;rw [Am6 (by rw [h2];decide),Am7 h1];omega
theorem uz(hx:cs[i]?=some x)(h1:x.had=false)(h2:x.has=true):Gg rs (cs.take (i+1))=Gg rs (cs.take i)+1:=by rw [Gm rs cs i x hx];unfold Ma;rw [Am7 h2,Am6 (by rw [h1];decide)];omega
theorem vB(hx:cs[i]?=some x)(h1:x.had=false)(h2:x.has=false):Gg rs (cs.take (i+1))=Gg rs (cs.take i):=by rw [Gm rs cs i x hx];unfold Ma;rw [Am6 (by rw [h2];decide),Am6 (by rw [h1];decide)];omega
structure BN where
 p:Int
 q:Option Addr
 cap:Nat
 cs:List Chg
def DZ(l:List BN):List Value:=l.flatMap (fun r=>[I4 r.p,.slice r.q r.cs.length r.cap])
def EA(M:List A8)(v:Value)(l:List BN):Prop:=∃p cap,v= .slice p l.length cap/\(l.length<=maxLen/\l.length<=cap)/\∀(i:Nat) (r:BN),l[i]?=some r->Ct M (.slice r.q r.cs.length r.cap) r.cs/\∃g off cur T zz,p=some ⟨g,off,none⟩/\(g,Obj.cells cur T zz)∈M/\off+i*2+2<=cur.size/\cur.extract (off+i*2) (off+i*2+2)=#[I4 r.p,.slice r.q r.cs.length r.cap]
def Bg(l:List BN):List AQ:=l.foldl (fun rs r=>EC rs r.cs) []
theorem GH(l:List BN)(r:BN):Bg (l++[r])=EC (Bg l) r.cs:=by unfold Bg;rw [AJ6];rfl
def FL(l:List BN):Prop:=∀(i:Nat) (r:BN),l[i]?=some r->QN (Bg (l.take i)) (i:Int) r.p r.cs/\r.cs.length<=3
theorem dY{p rp:Int}(hs:BM rs)(h:QN rs p rp cs):BM (EC rs cs)/\(EC rs cs).length<=2000:=by
 have ha:=WU h.ok.ord;obtain ⟨h1,_⟩:=Lb hs ha h.fit cs.length (zh _);have h2:=SK hs ha h.fit cs.length (zh _)
 rw [AA4]at h1 h2;exact ⟨h1,by have:=h.size;omega⟩
theorem FL.rows{l:List BN}(h:FL l):∀i,i<=l.length->BM (Bg (l.take i))/\(Bg (l.take i)).length<=2000
 |0,_=>⟨List.Pairwise.nil,zT _⟩
 |i+1,hi=>by
  obtain ⟨r,hr⟩:∃r,l[i]?=some r:=⟨_,zD Ao7⟩;have ih:=FL.rows h i Ao7
  rw [AH3,hr];show BM (Bg (l.take i++[r]))/\_
  rw [show(some r).toList=[r] from rfl,GH];exact dY ih.1 (h i r hr).1
theorem FL.all{l:List BN}(h:FL l):BM (Bg l)/\(Bg l).length<=2000:=by
 have:=h.rows l.length (zh _);rwa [AA4]at this
theorem FL.snoc{l:List BN}(h:FL l){r:BN}(hr:QN (Bg l) (l.length:Int) r.p r.cs)(h3:r.cs.length<=3):FL (l++[r]):=by
 intro i x hx;rw [List.getElem?_append]at hx;split at hx
 · rename_i hi
   rw [AE3 Ao7];exact h i x hx
 · rename_i hi
   have hlt:=(zF.1 hx).1;simp only [zU]at hlt;have e:i=l.length:=by omega
   subst e;rw [AL5]at hx;injection hx with hx
   subst hx;rw [AC3 rfl];exact ⟨hr,h3⟩
theorem Oc:∀(cs:List Chg),(J2 cs).length=cs.length*10
 |[]=>rfl
 |c::cs=>by
  have:=Oc cs;unfold J2 at*;rw [AB2,zG,this,ze];simp;omega
theorem WK(cs:List Chg):∀u∈J2 cs,u.oneCell'=true:=by
 intro u hu;unfold J2 at hu;obtain ⟨r,_,h⟩:=AF8.1 hu;simp only [za,AH2,An6]at h;rcases h with rfl|rfl|rfl|rfl|rfl|rfl|rfl|rfl|rfl|rfl<;>rfl
theorem JS{M:List A8}(h:Ct M v cs)(s:List A8):Ct (M++s) v cs:=by
 obtain ⟨p,cap,hv,hl,hg⟩:=h;refine ⟨p,cap,hv,hl,fun i c hc=>?_⟩;obtain ⟨g,off,cur,T,zz,h1,h2,h3⟩:=hg i c hc;exact ⟨g,off,cur,T,zz,h1,zR _ h2,h3⟩
theorem GZ{M:List A8}(h:Ct M v cs)(s:List A8):Ct (s++M) v cs:=by
 obtain ⟨p,cap,hv,hl,hg⟩:=h;refine ⟨p,cap,hv,hl,fun i c hc=>?_⟩;obtain ⟨g,off,cur,T,zz,h1,h2,h3⟩:=hg i c hc;exact ⟨g,off,cur,T,zz,h1,zZ _ h2,h3⟩
theorem Ji{l:List BN}{MM:List A8}(h:BZ 2 50 v l.length (DZ l) s)(hn:l.length<=maxLen)(hM:∀r∈l,Ct MM (.slice r.q r.cs.length r.cap) r.cs):EA (s++MM) v l:=by
 obtain ⟨b,cap,rfl⟩:=h.form;refine ⟨b,cap,V,⟨hn,Ew h⟩,fun i r hr=>⟨GZ (hM r (zP hr)) s,?_⟩⟩;obtain ⟨g,cap',cur,z,hv,rfl,hsz,hex⟩:=L8 h i (zF.1 hr).1;injection hv with hv1 hv2 hv3
 refine ⟨g,0,cur,50,z,hv1,zR _ (zI.2 V),by omega,?_⟩;rw [zo];apply AB8.1;rw [hex];exact KP _ 2 (fun _=>rfl) l i r hr
theorem IW(a b:List BN):DZ (a++b)=DZ a++DZ b:=by unfold DZ;rw [AE2]
def K2(k:Int×Int):Value:= .agg #[I4 k.1,I4 k.2]
def KD(k:Int×Int):Prop:=(Lit.int .i64 k.1).wf=true/\(Lit.int .i64 k.2).wf=true
def RV(r:AQ):Value:= .agg #[I4 r.t,I4 r.k,I4 r.v.a,I4 r.v.b,I4 r.v.c]
theorem qg:∀a b,K2 a=K2 b->a=b:=by
 rintro ⟨a,b⟩ ⟨c,d⟩ h;unfold K2 at h;simp only [Value.agg.injEq,AT6,AR1,Value.int.injEq,An8,An7]at h;rw [h.1,h.2]
theorem OO(P:Program)(d:Nat)(a:Int){t:TypeId}(ht:P.underlying t=some (.int .i64))(h:(Lit.int .i64 a).wf=true):P.keyLits (d+1) t [.int .i64 a]=some [.int .i64 a]:=by
 unfold Program.keyLits;rw [ht];simp [h]
theorem oZ:FU Tryz.prog 260 K2 KD:=FU.ofLaw (deep_law (m:=3) (by decide) (by kernel_rfl) (by kernel_rfl) (by kernel_rfl)) (by
 rintro ⟨a,b⟩ ⟨ha,hb⟩;have h1:Tryz.prog.types.size+1=(Tryz.prog.types.size -1)+1+1:=by
  have:0<Tryz.prog.types.size:=An1 Ao8;omega
 have hc:Tryz.prog.cellsOf 3=1:=by kernel_rfl
 have hc2:Tryz.prog.cellsOf 260=2:=by kernel_rfl
 have hk:Tryz.prog.keyType 260=true:=by kernel_rfl
 have hf:(K2 (a,b)).formed Tryz.prog 260=true:=by
  unfold Value.formed K2;rw [Ah6];simp [hc2]
 unfold keyOf;rw [Ah6];simp only [hk,hf,Bool.and_self,An4];obtain ⟨d,hd⟩:∃d,Tryz.prog.types.size+1=d+1+1:=⟨_,h1⟩;rw [hd];unfold Program.keyLits;rw [Ah6];have la:=OO Tryz.prog d a AV3 ha
 have lb:=OO Tryz.prog d b AV3 hb;simp [K2,Value.cells,hc,hc2,la,lb]) qg
structure Ga(l:List ((Int×Int)×Value))(rs:List AQ):Prop where
 mem:∀p,p∈l↔∃r∈rs,p=((r.t,r.k),RV r)
 kd:∀r∈rs,KD (r.t,r.k)
theorem ni:Ga [] []:=⟨fun p=>by simp,fun r h=>by cases h⟩
variable{l:List ((Int×Int)×Value)}
theorem Ga.keys(h:Ga l rs):∀p∈l,KD p.1:=fun p hp=>by
 obtain ⟨r,hr,rfl⟩:=(h.mem p).1 hp;exact h.kd r hr
theorem XH{a b:AQ}(h:RV a=RV b):a=b:=by
 obtain ⟨t,k,⟨x,y,z⟩⟩:=a;obtain ⟨t',k',⟨x',y',z'⟩⟩:=b;unfold RV at h;simp only [Value.agg.injEq,AT6,AR1,Value.int.injEq,An8,An7]at h;obtain ⟨rfl,rfl,rfl,rfl,rfl⟩:=h;rfl
theorem Ga.len{es:Array MapEntry}{ck:Nat}(hm:Ce K2 es ck l)(h:Ga l rs)(hs:BM rs):l.length=rs.length:=by
 have h1:l.Nodup:=by
  have:=hm.keys;rw [AE4,AH8]at this;rw [AE4];exact this.imp (fun hne e=>hne (by rw [e]))
 have h2:(rs.map (fun r=>((r.t,r.k),RV r))).Nodup:=by
  rw [AE4,AH8];refine hs.imp (fun{a b} hab e=>?_);have e2:=XH (Prod.mk.inj e).2
  subst e2;unfold AQ.lt2 at hab;omega
 have hp:l.Perm (rs.map (fun r=>((r.t,r.k),RV r))):=by
  rw [AC0 h1 h2];intro p;rw [h.mem p,zQ];constructor
  · rintro ⟨r,hr,rfl⟩;exact ⟨r,hr,rfl⟩
  · rintro ⟨r,hr,rfl⟩;exact ⟨r,hr,rfl⟩
 rw [hp.length_eq,zH]
theorem Ga.get{es:Array MapEntry}{ck:Nat}(hm:Ce K2 es ck l)(h:Ga l rs)(hs:BM rs)(t k:Int):
 (Dm (t,k) l).getD (RV AQ.zero)=RV (KO rs t k).1/\(Dm (t,k) l).isSome=(KO rs t k).2:=by
 cases hg:(KO rs t k).2 with
 |true=>
  obtain ⟨r,hr,hi,_,he⟩:=Jv hg;have hin:((t,k),RV r)∈l:=(h.mem _).2 ⟨r,hr,by rw [show t=r.t from hi.1.symm,show k=r.k from hi.2.symm]⟩
  rw [Ck hm.keys hin,he];exact ⟨V,V⟩
 |false=>
  have hno:∀r∈rs,¬r.is t k:=fun r hr hi=>by rw [Ju hs hr hi]at hg;cases hg
  have hn:Dm (t,k) l=none:=D9 (fun p hp e=>by
   obtain ⟨r,hr,rfl⟩:=(h.mem p).1 hp;injection e with e1 e2
   exact hno r hr ⟨e1,e2⟩)
  rw [hn,Pe hno];exact ⟨V,V⟩
theorem Ga.put{l':List ((Int×Int)×Value)}(h:Ga l rs)(hs:BM rs)(hf:IG rs c)(hh:c.has=true)(hk:KD (c.t,c.k))(hp:∀p,p∈l'↔p=((c.t,c.k),RV ⟨c.t,c.k,c.n⟩)\/(p∈l/\p.1≠(c.t,c.k))):Ga l' (Es rs c):=by
 refine ⟨fun p=>?_,fun r hr=>?_⟩
 · rw [hp p]
   constructor
   · rintro (rfl|⟨h1,h2⟩)
     · exact ⟨_,(Fa hs hf _).2 (.inr ⟨hh,rfl⟩),rfl⟩
     · obtain ⟨r,hr,rfl⟩:=(h.mem p).1 h1
       exact ⟨r,(Fa hs hf _).2 (.inl ⟨hr,fun hi=>h2 (by rw [show r.t=c.t from hi.1,show r.k=c.k from hi.2])⟩),rfl⟩
   · rintro ⟨r,hr,rfl⟩
     rcases (Fa hs hf _).1 hr with⟨h1,h2⟩|⟨_,rfl⟩
     · exact .inr ⟨(h.mem _).2 ⟨r,h1,rfl⟩,fun e=>h2 (by injection e with e1 e2;exact ⟨e1,e2⟩)⟩
     · exact .inl rfl
 · rcases (Fa hs hf _).1 hr with⟨h1,_⟩|⟨_,rfl⟩
   · exact h.kd r h1
   · exact hk
theorem Ga.drop{l':List ((Int×Int)×Value)}(h:Ga l rs)(hs:BM rs)(hf:IG rs c)(hh:c.has=false)(hp:∀p,p∈l'↔p∈l/\p.1≠(c.t,c.k)):Ga l' (Es rs c):=by
 refine ⟨fun p=>?_,fun r hr=>?_⟩
 · rw [hp p]
   constructor
   · rintro ⟨h1,h2⟩
     obtain ⟨r,hr,rfl⟩:=(h.mem p).1 h1;exact ⟨r,(Fa hs hf _).2 (.inl ⟨hr,fun hi=>h2 (by rw [show r.t=c.t from hi.1,show r.k=c.k from hi.2])⟩),rfl⟩
   · rintro ⟨r,hr,rfl⟩
     rcases (Fa hs hf _).1 hr with⟨h1,h2⟩|⟨h9,_⟩
     · exact ⟨(h.mem _).2 ⟨r,h1,rfl⟩,fun e=>h2 (by injection e with e1 e2;exact ⟨e1,e2⟩)⟩
     · rw [hh]at h9;cases h9
 · rcases (Fa hs hf _).1 hr with⟨h1,_⟩|⟨h9,_⟩
   · exact h.kd r h1
   · rw [hh]at h9;cases h9
theorem U3{n:Int}(h:-9223372036854775808<=n/\n<=9223372036854775807):(Lit.int .i64 n).wf=true:=by
 simp [Lit.wf,IntKind.min,IntKind.max,IntKind.signed,IntKind.bits];omega
theorem qG(h:c.ok):KD (c.t,c.k):=by
 obtain ⟨h1,h2,_,_⟩:=h;have hk:(0<=c.t/\c.t<=3)/\(1<=c.k/\c.k<=1000000):=by
  cases hh:c.had with
  |true=>
   have:c.before.ok:=AF6 (fun hn=>h2 (.inl ⟨hh,hn⟩));rw [TG hh]at this;exact this.2
  |false=>
   cases hs:c.has with
   |true=>
    have:c.after.ok:=AF6 (fun hn=>h2 (.inr ⟨hs,hn⟩));rw [Qm hs]at this;exact this.2
   |false=>exact absurd (.inl ⟨by rw [hh];decide,by rw [hs];decide⟩) h1
 exact ⟨U3 (by show _<=c.t/\c.t<=_;omega),U3 (by show _<=c.k/\c.k<=_;omega)⟩
theorem O0(c:Chg):BJ Tryz.prog 142 #[.agg #[I4 c.t,I4 c.k,.bool c.had,I4 c.o.a,I4 c.o.b,I4 c.o.c,.bool c.has,I4 c.n.a,I4 c.n.b,I4 c.n.c]] [] (.tuple #[.agg #[I4 (Dt c c.has c.n).t,I4 (Dt c c.has c.n).k,I4 (Dt c c.has c.n).v.a,I4 (Dt c c.has c.n).v.b,I4 (Dt c c.has c.n).v.c],.bool c.has]):=by
 refine Se func142 ntmps142 [0] ?_;intro u R;refine Zq<|Zg<|Ze (Bx #[_,_,_,_,_,_,_,_,_,_]) ?_;rintro _ _ ⟨b1,rfl,rfl⟩;refine Ze (Al AW7 #[_,_,_,_,_]) ?_;rintro _ _ ⟨b2,rfl,rfl⟩;refine Za Y<|Z0<|Zx<|Zq<|Zg<|Zo Wh (AA (cs:=#[_,_,_,_,_,_,_,_,_,_]) Aa3 AW4 Y (by(simp;done)) Ap1) ?_;refine Zh 6 AV4 V rfl AX8 Y<|Zl Ab8 Y ?_;refine Zh 7 AV4 V rfl AZ5 Y<|Zo Wh (AA (cs:=#[_,_,_]) Ag4 AZ5 Y (by(simp;done)) Ap1) ?_;refine Xr [_,_,_] Y call202 Y V (VU c c.has c.n) ?_;refine Zd Y V<|Zd Y V<|Xe (Xw AU5 _) ?_;refine Za Y<|Z0<|Zn [2,3] ?_;refine Zx<|AC<|Bu V results142 Y Wh (Ap AX3 AU5 Wn (V)) Y (by exact ⟨V,V⟩)
theorem vg:BR Tryz.prog 100 #[] [] (fun r H'=>∃sp mb,r=I5 sp/\H'=[[(sp,.cells #[.map (some mb),I4 0] 258 (0,0))],[(mb,.map #[] 0)]]):=by
 refine Se func100 ntmps100 [] ?_;intro u R;refine Zq<|Zg<|Za Y<|Z0<|Zx<|Zq<|Zg<|Ze (D6) ?_;rintro _ _ ⟨mb,rfl,rfl⟩;refine Zv (BL (vs:=[(0,_)]) (cs:=#[_,_]) Y (AY (pl:=#[(0,1),(1,1)]) zeroValue256 Ae4 (fun _=>by kernel_rfl) V))<|Zv (BL (vs:=[(0,_)]) (cs:=#[_,_]) Y (AY (pl:=#[(0,2)]) zeroValue258 Ae5 (fun _=>by kernel_rfl) V))<|Ze (Bx #[_,_]) ?_;rintro _ _ ⟨sp,rfl,rfl⟩;refine Za Y<|Z0<|Zx<|AC<|AL V results100 Y (by exact ⟨sp,mb,V,V⟩)
theorem rz(sp mb:Nat)(p rp:Int)(es:Array MapEntry)(ck:Nat)(lm:List ((Int×Int)×Value))(rs:List AQ)(M:List A8)(q:Option Addr)(cap:Nat)(cs:List Chg)(hm:Ce K2 es ck lm)(hR:Ga lm rs)(hO:Ct M (.slice q cs.length cap) cs)(hs:BM rs)(hn:rs.length<=2000)(hA:QN rs p rp cs):
 BJ Tryz.prog 168 #[I5 sp,.agg #[I4 rp,.slice q cs.length cap]] [[(sp,.cells #[.map (some mb),I4 p] 258 (0,0))],[(mb,.map es ck)],M] (.bool true):=by
 have hml:=mL;obtain ⟨p9,cap9,e9,hol,hg⟩:=id hO;injection e9 with e91 e92 e93
 subst e91 e93;have hok:=hA.ok
 have hpo:=hA.pos;have hcl:=hok.len
 have hrp:=hok.pos;have hasc:=WU hok.ord
 have hln:=hR.len hm hs;refine Se func168 ntmps168 [0,1] ?_;intro u R;refine Zq<|Zg<|Ze (Bx #[_,_]) ?_;rintro _ _ ⟨b1,rfl,rfl⟩;refine Za Y<|Z0<|Zx<|Zq<|Zq<|Az (n:=14) (0::1::3::7::15::31::15::79::207::463::975::1999::4095::8191::[]) 2 Ao8 Ao8 V<|Ao4 0 V Wh (AA (cs:=#[_,_]) Ad7 AX5 Y (by(simp;done)) Ap1) ?_;refine Yw 1 3 V (Zu [_] Y call51 Y V (P9 rp q cap cs M hO)) ?_;rintro _ _ ⟨rfl,rfl⟩;rw [Am8 hok];refine An9 2 V (Br Y)<|An9 3 V (AP Y)<|Cf (t:=13) Y (fun h1=>?_) (fun h1=>?_)
 ·
  rw [h1];cases h1
 rw [h1];refine Ao2 4 V (AB (off:=0) AY1 V rfl AU1 Y)<|Ao3 5 V Wh (BX AU2 Y Ap1) ?_;refine Ao2 6 V (AP Y)<|Ao2 7 V (Am Y V)<|Ao2 8 V (AB (off:=0) Ae5 V rfl Ai8 Y)<|Ao2 9 V (Ar (off:=1) Ae4 V rfl AU1 Y)<|Ao3 10 V Wh (BX AU2 Y Ap1) ?_
 (refine Ao2 11 rfl (Ke Y Y (IntWalk.i64_in _ ?_)) ?_;(focus (omega)))
 refine Ao2 12 V (JN Y Y)<|An9 13 V (AU Y Y)<|Ag<|Zn [0,3,23] ?_;refine Zx<|Aw Y (fun h2=>?_) (fun h2=>?_)
 ·
  exfalso;contradiction
 refine AJ<|Zx<|Zq<|Zg<|Zm Y<|Zp Y V<|Zh 0 Ae5 V rfl Ai8 Y<|Zv (Ar (off:=0) Ae4 V rfl sizeOf254 Y)<|Zl isAgg254 Y ?_;refine Zo Wh (PX Ah7 hm Y) ?_;refine Za Y<|Z0<|Zx<|Zq<|Zq<|Zg<|Zh 1 AY1 V rfl Ai4 Y<|Zl isAgg48 Y ?_;refine Zv (Aa AZ0 Y)<|Zm Y<|Z0<|Zx<|AO<|Zb [5,33,0,31,32] ?_;refine BI (e0:=[(5,_),(33,_)]) (fun m e H=>∃(i:Nat),m=cs.length -i/\(i<=cs.length)/\e=[(5,I4 (Gg rs (cs.take i))),(33,I4 (i:Int))]/\H=[]) (by exact ⟨0,rfl,zT _,by rw [hln];rfl,rfl⟩) Wp ?_;rintro _ _ _ ⟨i,rfl,hi,rfl,rfl⟩;have hsl:=RB rs cs i
 refine Zq<|Zg<|Zv (Au Y Y)<|Z0<|Zx<|Zq<|Aw Y (fun hlt=>?_) (fun hlt=>?_)
 ·
  obtain ⟨x,hx⟩:∃x,cs[i]?=some x:=⟨_,zD hlt⟩;obtain ⟨g,off,cur,T,zz,rfl,hm9,hsz,hex⟩:=hg i x hx;have hxo:=hok.all i x hx
  have hkd:=qG hxo;obtain ⟨hf1,hf2⟩:=hA.fit x (zP hx);have hget:=hR.get hm hs x.t x.k
  obtain ⟨gr,hgr⟩:∃gr,gr=KO rs x.t x.k:=⟨_,rfl⟩;rw [<-hgr]at hget hf1 hf2;clear hgr;refine AJ<|Zx<|Zq<|AO<|Zq<|Zg<|Bq (Ai AZ0 AW4 Y Y Ao7)<|CW (cs:=[(g,.cells cur T zz)]) (by simp [hm9]) (AA (cs:=#[I4 x.t,I4 x.k,.bool x.had,I4 x.o.a,I4 x.o.b,I4 x.o.c,.bool x.has,I4 x.n.a,I4 x.n.b,I4 x.n.c]) Aa3 AW4 Y Ao7 hex) V rfl ?_;refine Ze (Al Ab1 #[_,_,_,_,_,_,_,_,_,_]) ?_;rintro _ _ ⟨cb,rfl,rfl⟩;refine Xe (Xw AW4 #[I4 x.t,I4 x.k,.bool x.had,I4 x.o.a,I4 x.o.b,I4 x.o.c,.bool x.has,I4 x.n.a,I4 x.n.b,I4 x.n.c]) ?_;refine Z0<|Zx<|Zq<|Az (n:=17) (0::1::3::7::15::0::32::0::128::480::1023::2047::4095::4095::0::24575::65535::[]) 49152 Ao8 Ao8 V<|An9 0 V (AP Y)<|An9 1 V (Am Y V)<|An9 2 V (AB (off:=0) Ae5 V rfl Ai8 Y)<|An9 3 V (Ar (off:=0) Ae4 V rfl sizeOf254 Y)<|Ao0 4 V isAgg254 Y ?_;refine An9 5 V (AB (off:=0) AV4 V rfl AU1 Y)<|Ao0 6 V AU2 Y ?_;refine An9 7 V (AB (off:=1) AV4 V rfl AU1 Y)<|Ao0 8 V AU2 Y ?_;refine An9 9 V (BL (vs:=[(0,_),(1,_)]) (cs:=#[_,_]) Y (AY (pl:=#[(0,1),(1,1)]) zeroValue260 Ah6 (fun _=>by kernel_rfl) V))<|Ao4 10 V Wh (De oZ Ah7 AW7 hm hR.keys (hkd) (hget) Y Y) ?_;refine An9 11 V (AP Y)<|An9 12 V (Bt Y V)<|An9 13 V (Bt Y V)<|Zz (l:=[14])<|Ao5 [true,true,true,true] [(10,(_,_)),(8,(_,_)),(6,(_,_)),(4,(_,_))] V rfl (Al AW7 #[_,_,_,_,_]) ?hk_3 (fun _ _ h=>h.elim) ?hl_3
  case hk_3=>
   rintro _ _ ⟨ob,rfl,rfl⟩;refine ⟨Zk (Zk (Zk (Zk (AV)))),?_⟩;refine Yw 15 65535 V (Xw AU5 #[I4 gr.1.t,I4 gr.1.k,I4 gr.1.v.a,I4 gr.1.v.b,I4 gr.1.v.c]) ?_;rintro _ _ ⟨rfl,rfl⟩;refine An9 16 V (Aq Y)<|Ag<|Zn [0,5,7,8,9,31,32,33] ?_;refine Zx<|Zq<|Zq<|Zg<|Zm Y<|Zh 2 AV4 V rfl AX8 Y<|Zl Ab8 Y ?_;refine Zv (Ip AZ3 Y Y)<|Zm Y<|Ak (t:=55) Y V (fun hd1=>?_) (fun hd1=>?_)
   ·
    exfalso;contradiction
   refine Zf Y Y<|Zf Y Y ?_;refine Aj (t:=57) Y V (fun hd2=>?_) (fun hd2=>?_)
   ·
    refine Yf 2 AX4 V rfl AZ5 Y<|FJ Y Wh (AA (cs:=#[_,_,_]) Ag4 AZ5 Y (by(simp;done)) Ap1) V rfl ?_;refine Yf 3 AV4 V rfl AZ5 Y<|FJ Y Wh (AA (cs:=#[_,_,_]) Ag4 AZ5 Y (by(simp;done)) Ap1) V rfl ?_;refine Yg (NE Ao8 Ab6 AV3 AU2 AU1 Y Y) ?_;refine Yg (AZ Y Y)<|Zv (AU Y Y)<|Z0<|Zn [0,5,7,31,32,33,64] ?_;refine Zx<|Aw Y (fun hd3=>?_) (fun hd3=>?_)
    ·
     exfalso;exact hd3 (hf2 hd2)
    refine AJ<|Zx<|Zq<|Zq<|Zg<|Zh 2 AV4 V rfl AX8 Y<|Zl Ab8 Y ?_;refine Z0<|Zx<|AR Y (fun hh1=>?_) (fun hh1=>?_)
    ·
     refine Zg<|Zm Y ?_
     (refine Bq (Hz Y Y (IntWalk.i64_in _ ?_)) ?_;(focus (omega)))
     refine Za Y<|Z0<|Zx<|Zq<|Zg<|Zh 6 AV4 V rfl AX8 Y<|Zl Ab8 Y ?_;refine Z0<|Zx<|AR Y (fun hh2=>?_) (fun hh2=>?_)
     ·
      refine Zg<|Zm Y<|Yi Y Y<|Za Y<|Z0<|A9<|Zx<|Zg<|Ya (n:=1) Y Y<|Zm Y<|Z0<|Zn [5,33,0,31,32] ?_;refine Ad (e':=[(5,_),(33,_)]) (by exact ⟨i+1,rfl,by omega,by rw [uw hx hh1 hh2],rfl⟩)
     refine AJ<|A9<|Zx<|Zg<|Ya (n:=1) Y Y<|Zm Y<|Z0<|Zn [5,33,0,31,32] ?_;refine Ad (e':=[(5,_),(33,_)]) (by exact ⟨i+1,rfl,by omega,by rw [uy hx hh1 hh2],rfl⟩)
    refine AJ<|Zx<|Zq<|Zg<|Zh 6 AV4 V rfl AX8 Y<|Zl Ab8 Y ?_;refine Z0<|Zx<|AR Y (fun hh2=>?_) (fun hh2=>?_)
    ·
     refine Zg<|Zm Y<|Yi Y Y<|Za Y<|Z0<|A9<|Zx<|Zg<|Ya (n:=1) Y Y<|Zm Y<|Z0<|Zn [5,33,0,31,32] ?_;refine Ad (e':=[(5,_),(33,_)]) (by exact ⟨i+1,rfl,by omega,by rw [uz hx hh1 hh2],rfl⟩)
    refine AJ<|A9<|Zx<|Zg<|Ya (n:=1) Y Y<|Zm Y<|Z0<|Zn [5,33,0,31,32] ?_;refine Ad (e':=[(5,_),(33,_)]) (by exact ⟨i+1,rfl,by omega,by rw [vB hx hh1 hh2],rfl⟩)
   refine A7 Y V<|A7 Y V<|A7 Y V<|A7 Y V<|A7 Y V<|Yg (AU Y Y)<|Zv (AU Y Y)<|Z0<|Zn [0,5,7,31,32,33,64] ?_;refine Zx<|Dv Y<|AJ<|Zx<|Zq<|Zq<|Zg<|Zh 2 AV4 V rfl AX8 Y<|Zl Ab8 Y ?_;refine Z0<|Zx<|AR Y (fun hh1=>?_) (fun hh1=>?_)
   ·
    refine Zg<|Zm Y ?_
    (refine Bq (Hz Y Y (IntWalk.i64_in _ ?_)) ?_;(focus (omega)))
    refine Za Y<|Z0<|Zx<|Zq<|Zg<|Zh 6 AV4 V rfl AX8 Y<|Zl Ab8 Y ?_;refine Z0<|Zx<|AR Y (fun hh2=>?_) (fun hh2=>?_)
    ·
     refine Zg<|Zm Y<|Yi Y Y<|Za Y<|Z0<|A9<|Zx<|Zg<|Ya (n:=1) Y Y<|Zm Y<|Z0<|Zn [5,33,0,31,32] ?_;refine Ad (e':=[(5,_),(33,_)]) (by exact ⟨i+1,rfl,by omega,by rw [uw hx hh1 hh2],rfl⟩)
    refine AJ<|A9<|Zx<|Zg<|Ya (n:=1) Y Y<|Zm Y<|Z0<|Zn [5,33,0,31,32] ?_;refine Ad (e':=[(5,_),(33,_)]) (by exact ⟨i+1,rfl,by omega,by rw [uy hx hh1 hh2],rfl⟩)
   refine AJ<|Zx<|Zq<|Zg<|Zh 6 AV4 V rfl AX8 Y<|Zl Ab8 Y ?_;refine Z0<|Zx<|AR Y (fun hh2=>?_) (fun hh2=>?_)
   ·
    refine Zg<|Zm Y<|Yi Y Y<|Za Y<|Z0<|A9<|Zx<|Zg<|Ya (n:=1) Y Y<|Zm Y<|Z0<|Zn [5,33,0,31,32] ?_;refine Ad (e':=[(5,_),(33,_)]) (by exact ⟨i+1,rfl,by omega,by rw [uz hx hh1 hh2],rfl⟩)
   refine AJ<|A9<|Zx<|Zg<|Ya (n:=1) Y Y<|Zm Y<|Z0<|Zn [5,33,0,31,32] ?_;refine Ad (e':=[(5,_),(33,_)]) (by exact ⟨i+1,rfl,by omega,by rw [vB hx hh1 hh2],rfl⟩)
  exact Ae
 have ei:i=cs.length:=by omega
 subst ei;rw [AA4]at hsl⊢;refine BG<|Zt<|Zt<|AX<|Zx<|Zq<|Zg<|Zm Y<|Zv (OD Y Y)<|Za Y<|Z0<|Zx<|AC<|AL rfl results168 Y (by exact ⟨by rw [Am8 hA.size],rfl⟩)
theorem lN(sp mb:Nat)(p rp:Int)(es:Array MapEntry)(ck:Nat)(lm:List ((Int×Int)×Value))(rs:List AQ)(M:List A8)(q:Option Addr)(cap:Nat)(cs:List Chg)(hm:Ce K2 es ck lm)(hR:Ga lm rs)(hO:Ct M (.slice q cs.length cap) cs)(hs:BM rs)(hn:rs.length<=2000)(hA:QN rs p rp cs):
 BR Tryz.prog 101 #[I5 sp,.agg #[I4 rp,.slice q cs.length cap]] [[(sp,.cells #[.map (some mb),I4 p] 258 (0,0))],[(mb,.map es ck)],M] (fun r H'=>r=I4 0/\∃es' ck' lm',Ce K2 es' ck' lm'/\Ga lm' (EC rs cs)/\H'=[[(sp,.cells #[.map (some mb),I4 rp] 258 (0,0))],[(mb,.map es' ck')],M]):=by
 have hml:=mL;obtain ⟨p9,cap9,e9,hol,hg⟩:=id hO;injection e9 with e91 e92 e93
 subst e91 e93;have hok:=hA.ok
 have hpo:=hA.pos;have hcl:=hok.len
 have hrp:=hok.pos;have hasc:=WU hok.ord
 refine Se func101 ntmps101 [0,1] ?_;intro u R;refine Zq<|Zg<|Ze (Bx #[_,_]) ?_;rintro _ _ ⟨b1,rfl,rfl⟩;refine Za Y<|Z0<|Zx<|Zq<|AO<|Zq<|Zg<|Zm Y<|Zv (BU Aj9 Y Y)<|Za Y<|Z0<|Zx<|AR Y (fun h1=>?_) (fun h1=>?_)
 ·
  cases h1
 refine Zq<|Zg<|Zm Y<|Zo Wh (AA (cs:=#[_,_]) Ad7 AX5 Y (by(simp;done)) Ap1) ?_;refine Xr [_,_] Y call168 Y V (rz sp mb p rp es ck lm rs M q cap cs hm hR hO hs hn hA) ?_;refine Zv (Br Y)<|Za Y<|Z0<|Zx<|AR Y (fun h2=>?_) (fun h2=>?_)
 ·
  cases h2
 refine AJ<|A9<|Zx<|Zq<|Zq<|Zg<|Zh 1 AY1 V rfl Ai4 Y<|Zl isAgg48 Y ?_;refine Zv (Aa AZ0 Y)<|Zm Y<|Z0<|Zn [0,3,19,20,21] ?_;refine Zx<|AO<|Zb [21,0,3,19,20] ?_;refine BI (e0:=[(21,_)]) (fun m e H=>∃(i:Nat) (es:Array MapEntry) (ck:Nat) (lm:List ((Int×Int)×Value)),m=cs.length -i/\(i<=cs.length/\Ce K2 es ck lm/\Ga lm (EC rs (cs.take i)))/\e=[(21,I4 (i:Int))]/\H=[[(mb,.map es ck)]]) (by exact ⟨0,es,ck,lm,rfl,⟨zT _,hm,by rw [AC9];exact hR⟩,rfl,rfl⟩) Wp ?_;rintro _ _ _ ⟨i,es1,ck1,lm1,rfl,⟨hi,hm1,hR1⟩,rfl,rfl⟩;refine Zq<|Zg<|Zv (Au Y Y)<|Z0<|Zx<|Zq<|Aw Y (fun hlt=>?_) (fun hlt=>?_)
 ·
  obtain ⟨x,hx⟩:∃x,cs[i]?=some x:=⟨_,zD hlt⟩;obtain ⟨g,off,cur,T,zz,rfl,hm9,hsz,hex⟩:=hg i x hx;have hxo:=hok.all i x hx
  have hkd:=qG hxo;obtain ⟨hso,hfi⟩:=Lb hs hasc hA.fit i hi;have hfx:=hfi i x (zh _) hx
  refine AJ<|Zx<|Zq<|AO<|Zq<|Zg<|Bq (Ai AZ0 AW4 Y Y Ao7)<|CW (cs:=[(g,.cells cur T zz)]) (by simp [hm9]) (AA (cs:=#[I4 x.t,I4 x.k,.bool x.had,I4 x.o.a,I4 x.o.b,I4 x.o.c,.bool x.has,I4 x.n.a,I4 x.n.b,I4 x.n.c]) Aa3 AW4 Y Ao7 hex) V rfl ?_;refine Ze (Al Ab1 #[_,_,_,_,_,_,_,_,_,_]) ?_;rintro _ _ ⟨cb,rfl,rfl⟩;refine Xe (Xw AW4 #[I4 x.t,I4 x.k,.bool x.had,I4 x.o.a,I4 x.o.b,I4 x.o.c,.bool x.has,I4 x.n.a,I4 x.n.b,I4 x.n.c]) ?_;refine Z0<|Zx<|Zq<|Zg<|Zh 0 AV4 V rfl AU1 Y<|Zl AU2 Y ?_;refine Zh 1 AV4 V rfl AU1 Y<|Zl AU2 Y ?_;refine Zv (BL (vs:=[(0,_),(1,_)]) (cs:=#[_,_]) Y (AY (pl:=#[(0,1),(1,1)]) zeroValue260 Ah6 (fun _=>by kernel_rfl) V))<|Ze (Al zeroValue260 #[_,_]) ?_;rintro _ _ ⟨kb,rfl,rfl⟩;refine Xe (BK sizeOf260 Y Y (by(simp [Value.oneCell',Value.cells];done)) Wu (by exact (rfl:_=(#[I4 x.t,I4 x.k]:Array Value))) Ap3 Ao9 (by exact BF _)) ?_;refine Z0<|Zx<|Zq<|Zg<|Zo Wh (AA (cs:=#[_,_,_,_,_,_,_,_,_,_]) Aa3 AW4 Y (by(simp;done)) Ap1) ?_;refine Xr [_] Y call142 Y V (O0 x) ?_;refine Zm Y<|Zd Y V<|Zd Y V<|Ze (Al AW7 #[_,_,_,_,_]) ?_;rintro _ _ ⟨xb,rfl,rfl⟩;refine Xe (Xw AU5 #[I4 (Dt x x.has x.n).t,I4 (Dt x x.has x.n).k,I4 (Dt x x.has x.n).v.a,I4 (Dt x x.has x.n).v.b,I4 (Dt x x.has x.n).v.c]) ?_;refine Za Y<|Z0<|Zn [0,3,7,8,9,19,20,21] ?_;refine Zx<|Zq<|Zg<|Zm Y<|Z0<|Zx<|AR Y (fun hh=>?_) (fun hh=>?_)
  ·
   rw [oh hh];refine Az (n:=8) (0::1::3::7::15::0::0::127::[]) 128 Ao8 Ao8 V<|An9 0 V (AP Y)<|An9 1 V (Am Y V)<|An9 2 V (AB (off:=0) Ae5 V rfl Ai8 Y)<|An9 3 V (Ar (off:=0) Ae4 V rfl sizeOf254 Y)<|Ao0 4 V isAgg254 Y ?_;refine Ao4 5 V Wh (AA (cs:=#[_,_]) isAgg260 sizeOf260 Y (by(simp;done)) Ap1) ?_;refine Ao4 6 V Wh (AA (cs:=#[_,_,_,_,_]) AX3 AU5 Y (by(simp;done)) Ap1) ?_;refine Yw 7 255 V (Et oZ Ah7 hm1 hR1.keys (hkd) Y Y Y Wo) ?_;rintro _ _ ⟨rfl,es2,ck2,lm2,hm2,hp2,rfl⟩;have hR2:Ga lm2 (EC rs (cs.take (i+1))):=by rw [GR rs cs i x hx];exact hR1.put hso hfx hh hkd hp2
   refine Ag<|A9<|Zx<|Zg<|Ya (n:=1) Y Y<|Zm Y<|Z0<|Zn [21,0,3,19,20] ?_;refine Ad (e':=[(21,_)]) (by exact ⟨i+1,es2,ck2,lm2,V,⟨by omega,hm2,hR2⟩,V,V⟩)
  refine Az (n:=7) (0::1::3::7::15::0::63::[]) 64 Ao8 Ao8 V<|An9 0 V (AP Y)<|An9 1 V (Am Y V)<|An9 2 V (AB (off:=0) Ae5 V rfl Ai8 Y)<|An9 3 V (Ar (off:=0) Ae4 V rfl sizeOf254 Y)<|Ao0 4 V isAgg254 Y ?_;refine Ao4 5 V Wh (AA (cs:=#[_,_]) isAgg260 sizeOf260 Y (by(simp;done)) Ap1) ?_;refine Yw 6 127 V (Kq oZ Ah7 hm1 hR1.keys (hkd) Y Y Wo) ?_;rintro _ _ ⟨rfl,es2,ck2,lm2,hm2,hp2,rfl⟩;have hR2:Ga lm2 (EC rs (cs.take (i+1))):=by rw [GR rs cs i x hx];exact hR1.drop hso hfx hh hp2
  refine Ag<|A9<|Zx<|Zg<|Ya (n:=1) Y Y<|Zm Y<|Z0<|Zn [21,0,3,19,20] ?_;refine Ad (e':=[(21,_)]) (by exact ⟨i+1,es2,ck2,lm2,V,⟨by omega,hm2,hR2⟩,V,V⟩)
 have ei:i=cs.length:=by omega
 subst ei;rw [AA4]at hR1;refine BG<|Zt<|Zt<|AX<|Zx<|Zq<|Zg<|Zm Y<|Zh 0 AY1 V rfl AU1 Y<|Zl AU2 Y ?_;refine Zp Y V<|Zh 0 Ae5 V rfl Ai8 Y<|Zv (Ar (off:=1) Ae4 V rfl AU1 Y)<|Xe (Zs AU1 Y Y V (hc:=by exact (V:_=(#[.map (some mb),I4 rp]:Array Value))) (hi:=by(simp;done))) ?_;refine Z0<|Zx<|Zq<|Zg<|Za Y<|Z0<|Zx<|AC<|AL V results101 Y (by exact ⟨V,es1,ck1,lm1,hm1,hR1,V⟩)
theorem xK(q:Option Addr)(cap:Nat)(l:List BN)(M:List A8)(hRI:EA M (.slice q l.length cap) l)(hlog:FL l)(hl:l.length<=1000000)(k:Nat)(hk:k<=l.length):
 BR Tryz.prog 49 #[.slice q l.length cap,I4 (k:Int)] [M] (fun r H'=>∃sp mb es ck lm,r= .tuple #[I5 sp,I4 0]/\Ce K2 es ck lm/\Ga lm (Bg (l.take k))/\H'=[[(sp,.cells #[.map (some mb),I4 (k:Int)] 258 (0,0))],[(mb,.map es ck)],M]):=by
 have hml:=mL;obtain ⟨p9,cap9,e9,⟨hol,hlc⟩,hg⟩:=id hRI;injection e9 with e91 e92 e93
 subst e91 e93;refine Se func49 ntmps49 [0,1] ?_;intro u R;refine Zq<|Zg<|Za Y<|Za Y<|Z0<|Zx<|Zq<|Zq<|Zg<|Zm Y<|Zv (Au (n:=0) Y Y)<|Zm Y<|Ak (t:=11) Y V (fun h1=>?_) (fun h1=>?_)
 ·
  exfalso;(cases h1;done)
 refine Zf Y Y<|Zf Y Y<|Yg (Aa AV9 Y)<|Yg (Df Y Y)<|Zv (AU Y Y)<|Z0<|Zx<|Aw Y (fun h2=>?_) (fun h2=>?_)
 ·
  exfalso;omega
 refine AJ<|Zx<|Zq<|Zg<|Zc [] Y call100 Y V (vg) ?_;rintro _ _ ⟨_,⟨sp,mb,rfl,rfl⟩,rfl⟩;refine Za Y<|Z0<|Zx<|Zq<|Zq<|Zg<|Zm Y<|Zm Y<|Bq (CK AV9 AX5 Y Y Ao7)<|Zv (Aa AV9 Y)<|Zm Y<|Z0<|Zn [6,20,21,22] ?_;refine Zx<|AO<|Zb [22,6,20,21] ?_;refine BI (e0:=[(22,_)]) (fun m e H=>∃(i:Nat) (es:Array MapEntry) (ck:Nat) (lm:List ((Int×Int)×Value)),m=k -i/\(i<=k/\Ce K2 es ck lm/\Ga lm (Bg (l.take i)))/\e=[(22,I4 (i:Int))]/\H=[[(sp,.cells #[.map (some mb),I4 (i:Int)] 258 (0,0))],[(mb,.map es ck)]]) (by exact ⟨0,#[],0,[],rfl,⟨zT _,E5 _,by rw [AC9];exact ni⟩,rfl,rfl⟩) Wp ?_;rintro _ _ _ ⟨i,es,ck,lm,rfl,⟨hi,hm,hR⟩,rfl,rfl⟩;refine Zq<|Zg<|Zv (Au Y Y)<|Z0<|Zx<|Zq<|Aw Y (fun hlt=>?_) (fun hlt=>?_)
 ·
  obtain ⟨r,hr⟩:∃r,l[i]?=some r:=⟨_,zD Ao7⟩;obtain ⟨hOr,g,off,cur,T,zz,rfl,hm9,hsz,hex⟩:=hg i r hr;obtain ⟨hA,h3⟩:=hlog i r hr;have hrp:=hA.pos
  obtain ⟨hso,hle⟩:=hlog.rows i Ao7;refine AJ<|Zx<|Zq<|AO<|Zq<|Zg<|Bq (Ai AV9 AX5 Y Y Ao7)<|CW (cs:=[(g,.cells cur T zz)]) (by simp [hm9]) (AA (cs:=#[I4 r.p,.slice r.q r.cs.length r.cap]) Ad7 AX5 Y Ao7 hex) V rfl ?_;refine Ze (Al Ac0 #[_,_]) ?_;rintro _ _ ⟨rb,rfl,rfl⟩;refine Xe (Xw AX5 #[I4 r.p,.slice r.q r.cs.length r.cap]) ?_;refine Z0<|Zx<|Zq<|Zg<|Zm Y<|Zo Wh (AA (cs:=#[_,_]) Ad7 AX5 Y (by(simp;done)) Ap1) ?_;refine Zc [_,_] Y call101 Y V (lN sp mb (i:Int) r.p es ck lm (Bg (l.take i)) M r.q r.cap r.cs hm hR hOr hso hle hA) ?_;rintro _ _ ⟨_,⟨rfl,es2,ck2,lm2,hm2,hR2,rfl⟩,rfl⟩;have hR3:Ga lm2 (Bg (l.take (i+1))):=by rw [AH3,hr];show Ga lm2 (Bg (l.take i++[r]));rw [GH];exact hR2
  rw [show r.p=((i+1:Nat):Int) by rw [hrp];rfl];refine Zv (Eh (n:=0) Y Y)<|Z0<|Zx<|Aw Y (fun h4=>?_) (fun h4=>?_)
  ·
   exfalso;exact h4 rfl
  refine AJ<|A9<|Zx<|Zg<|Ya (n:=1) Y Y<|Zm Y<|Z0<|Zn [22,6,20,21] ?_;refine Ad (e':=[(22,_)]) (by exact ⟨i+1,es2,ck2,lm2,V,⟨by omega,hm2,hR3⟩,V,V⟩)
 have ei:i=k:=by omega
 subst ei;refine BG<|Zt<|Zt<|AX<|Zx<|Zq<|Zg<|Zm Y<|Za Y<|Za Y<|Z0<|Zx<|AC<|Ci V results49 Y Y (by exact ⟨sp,mb,es,ck,lm,V,hm,hR,V⟩)
def DR(r:AQ)(c:Nat):Int:=if c=0 then r.k else if c=1 then r.v.a else if c=2 then r.v.b else r.v.c
def aV(c:Nat)(out:List AQ)(v:Int):Nat:=(out.reverse.dropWhile (fun r=>decide (v<DR r c))).length
def YC(c:Nat)(out:List AQ)(x:AQ):List AQ:=out.take (aV c out (DR x c))++[x]++out.drop (aV c out (DR x c))
def inR(t:Int)(c:Nat)(lo hi:Int)(r:AQ):Bool:=decide (r.t=t/\lo<=DR r c/\DR r c<=hi)
def DY(rs:List AQ)(t:Int)(c:Nat)(lo hi:Int):List AQ:=(rs.filter (inR t c lo hi)).foldl (YC c) []
end Go.Proofs.YteaiajghbkenoaaGreatDoor
namespace Go.Proofs.YteaiajghbkenoaaGreatDoor
open Go.Proofs.Tryz
open Go Go.RowKit Gw
set_option maxRecDepth 100000
attribute [local irreducible] Gw.At Gw.Nx Gw.Ops
open Go.Sort
def Be(r:AQ)(c:Int):Int:=if c=0 then r.k else if c=1 then r.v.a else if c=2 then r.v.b else if c=3 then r.v.c else 0
set_option maxHeartbeats 1000000 in
theorem JE(r:AQ)(c:Int)(hc:0<=c/\c<=3)(W:World):Calls Tryz.prog 140 #[.agg #[I4 r.t,I4 r.k,I4 r.v.a,I4 r.v.b,I4 r.v.c],I4 c] W fun e w'=>e= .returned (I4 (Be r c))/\∃(q:Nat) (o:Obj),w'=grow (W.drewN q) #[o]:=by
 obtain ⟨t,k,⟨va,vb,vc⟩⟩:=r;rcases (by omega:c=0\/c=1\/c=2\/c=3)with rfl|rfl|rfl|rfl
 all_goals
  go_enter func140,ntmps140
  go_wp2
  go_ret
  exact ⟨rfl,0,_,by rw [alloc_eq_grow];rfl⟩
def orL(x y:Int):Int:=if x=0 then y else x
theorem nO(b:Nat)(x y:Int)(W:World)(h0:W.cell? ⟨b,0,none⟩=some (I4 x))(h1:W.cell? ⟨b,1,none⟩=some (I4 y)):Calls Tryz.prog 237 #[I6 b 2 2] W fun e w'=>e= .returned (I4 (orL x y))/\w'=W:=by
 generalize hz:orL x y=z;have HZ:=Lib.hid hz
 clear hz
 go_enter func237,ntmps237
 go_wp2
 go_loop [5,8] (fun _ i=>∃(j:Nat),i=I4 j/\(j=0\/(j=1/\x=0)\/(j=2/\x=0/\y=0))) (fun _ i=>2 -(intOf i).toNat)
 case atStart=>exact ⟨0,rfl,.inl rfl⟩
 case round=>
  obtain ⟨j,rfl,hj⟩:=hrel;rcases hj with rfl|⟨rfl,hx⟩|⟨rfl,hx,hy⟩
  · by_cases hx:x=0
    · subst hx
      go_wp2
      go_round
      case rel=>exact ⟨1,by go_num,by simp⟩
      case measure=>simp [intOf]
    · go_wp2
      go_ret
      exact ⟨by rw [<-HZ.out];unfold orL;rw [Am6 hx];rfl,rfl⟩
  · subst hx
    by_cases hy:y=0
    · subst hy
      go_wp2
      go_round
      case rel=>exact ⟨2,by go_num,by simp⟩
      case measure=>simp [intOf]
    · go_wp2
      go_ret
      exact ⟨by rw [<-HZ.out];unfold orL;rw [Am7 rfl];rfl,rfl⟩
  · subst hx hy
    go_wp2
    go_ret
    exact ⟨by rw [<-HZ.out];rfl,rfl⟩
theorem RI{u w:World}{H:Hp}(h:Sat u H w)(q:Nat)(os:Array Obj):Sat u H (grow (w.drewN q) os):=by
 refine ⟨h.os,h.tape,h.output,h.nodup,fun p hp=>?_⟩;have hlt:=h.lt hp
 show(w.heap++os)[p.1]?=_;rw [AI1 hlt];exact h.get p hp
theorem Kr(r:AQ)(c:Nat)(hc:c<=3):Be r (c:Int)=DR r c:=by
 rcases (by omega:c=0\/c=1\/c=2\/c=3)with rfl|rfl|rfl|rfl<;>rfl
theorem Nz(r:AQ)(c:Nat)(hc:c<=3):BJ Tryz.prog 140 #[.agg #[I4 r.t,I4 r.k,I4 r.v.a,I4 r.v.b,I4 r.v.c],I4 (c:Int)] [] (I4 (DR r c)):=fun u R w hs=>
 (JE r (c:Int) Ao7 w).mono (by
   rintro e w' ⟨rfl,q,o,rfl⟩;exact .inl ⟨_,[],rfl,⟨by rw [Kr r c hc],rfl⟩,RI hs q _⟩)
theorem mM(r:AQ)(t:Int)(c:Nat)(lo hi:Int)(hc:c<=3)(b1 b2 b3 b4:Nat):BJ Tryz.prog 180 #[.agg #[I4 r.t,I4 r.k,I4 r.v.a,I4 r.v.b,I4 r.v.c],I5 b1,I5 b2,I5 b3,I5 b4] [[(b1,.cells #[I4 (c:Int)] 3 (0,0))],[(b2,.cells #[I4 t] 3 (0,0))],[(b3,.cells #[I4 lo] 3 (0,0))],[(b4,.cells #[I4 hi] 3 (0,0))]] (.bool (inR t c lo hi r)):=by
 refine Se func180 ntmps180 [0,1,2,3,4] ?_;intro u R;refine Zq<|Zg<|Ze (Bx #[_,_,_,_,_]) ?_;rintro _ _ ⟨b1,rfl,rfl⟩;refine Za Y<|Z0<|Zx<|Zq<|Zg<|Zo Wh (Pa #[_,_,_,_,_] AX3 AU5 Y) ?_;refine Zl AU2 Y ?_;refine Xr [_,_] Y Ah3 Y V (Nz r c hc) ?_;refine Za Y<|Z0<|Zx<|Zq<|Zg<|Zh 0 AX4 V rfl AU1 Y<|Zl AU2 Y ?_;refine Zl AU2 Y ?_;refine Zv (CL Y Y)<|Zm Y<|Ak (t:=15) Y V (fun h1=>?_) (fun h1=>?_)
 ·
  refine Zf Y Y<|Yl AU2 Y ?_;refine Yg (Iq Y Y)<|Zv (AZ Y Y)<|Zm Y<|Ak (t:=20) Y V (fun h2=>?_) (fun h2=>?_)
  ·
   refine Zf Y Y<|Yl AU2 Y ?_;refine Yg (OD Y Y)<|Zv (AZ Y Y)<|Za Y<|Z0<|Zn [6] ?_;refine Zx<|AC<|AL V results180 Y (by exact ⟨by unfold inR;(simp_all;done),V⟩)
  refine A7 Y V<|A7 Y V<|A7 Y V<|Zv (AU Y Y)<|Za Y<|Z0<|Zn [6] ?_;refine Zx<|AC<|AL V results180 Y (by exact ⟨by unfold inR;(congr 1;simp;omega),V⟩)
 refine A7 Y V<|A7 Y V<|A7 Y V<|Zv (AU Y Y)<|Zm Y<|A7 Y V<|A7 Y V<|A7 Y V<|Zv (AU Y Y)<|Za Y<|Z0<|Zn [6] ?_;refine Zx<|AC<|AL V results180 Y (by exact ⟨by unfold inR;(simp_all;done),V⟩)
end Go.Proofs.YteaiajghbkenoaaGreatDoor
namespace Go.Proofs.YteaiajghbkenoaaGreatDoor
open Go.Proofs.Tryz
open Go Go.RowKit Gw
set_option maxRecDepth 100000
attribute [local irreducible] Gw.At Gw.Nx Gw.Ops
theorem El:∀(n:Nat) (js:List Nat),js.Nodup->(∀j∈js,j<n)->js.length<=n
 |0,js,_,h=>by
  cases js with
  |nil=>simp
  |cons a l=>exact absurd (h a Ap0) (AM8 _)
 |n+1,js,hn,h=>by
  by_cases hm:n∈js
  · have h1:=El n (js.erase n) (hn.erase n) (fun j hj=>by
     have h2:=(hn.mem_erase_iff).1 hj;have h3:=h j h2.2
     have h4:=h2.1;omega)
    rw [AO2 hm]at h1;omega
  · have h1:=El n js hn (fun j hj=>by
     have h3:=h j hj;have h4:j≠n:=fun e=>hm (e▸hj)
     omega)
    omega
def JM(r:AQ):(Int×Int)×Value:=((r.t,r.k),RV r)
theorem Lx{a b:AQ}(h:JM a=JM b):a=b:=XH (Prod.mk.inj h).2
theorem aX{a b:List AQ}(ha:(a.map JM).Nodup)(h:(a.map JM).Perm (b.map JM)):a.Perm b:=by
 have nd:∀{l:List AQ},(l.map JM).Nodup->l.Nodup:=fun{l} hl=>by
  rw [AE4,AH8]at hl;rw [AE4];exact hl.imp (fun hne e=>hne (by rw [e]))
 rw [AC0 (nd ha) (nd (h.nodup ha))];intro x;have h1:=h.mem_iff (a:=JM x)
 rw [zQ,zQ]at h1;constructor
 · intro hx
   obtain ⟨y,hy,e⟩:=h1.1 ⟨x,hx,rfl⟩;rwa [Lx e]at hy
 · intro hx
   obtain ⟨y,hy,e⟩:=h1.2 ⟨x,hx,rfl⟩;rwa [Lx e]at hy
variable{rs:List AQ}
theorem Ga.perm{es:Array MapEntry}{ck:Nat}{l:List ((Int×Int)×Value)}(hm:Ce K2 es ck l)(h:Ga l rs)(hs:BM rs):l.Perm (rs.map JM):=by
 have h1:l.Nodup:=by
  have:=hm.keys;rw [AE4,AH8]at this;rw [AE4];exact this.imp (fun hne e=>hne (by rw [e]))
 have h2:(rs.map JM).Nodup:=by
  rw [AE4,AH8];refine hs.imp (fun{a b} hab e=>?_);have e2:=Lx e
  subst e2;unfold AQ.lt2 at hab;omega
 rw [AC0 h1 h2];intro p;rw [h.mem p,zQ];constructor
 · rintro ⟨r,hr,rfl⟩;exact ⟨r,hr,rfl⟩
 · rintro ⟨r,hr,rfl⟩;exact ⟨r,hr,rfl⟩
structure WW(lm:List ((Int×Int)×Value))(f:AQ->Bool)(js:List Nat)(o:List AQ):Prop where
 rows:∃rl:List AQ,rl.map JM=D5 lm js/\o=rl.filter f
theorem lT(lm:List ((Int×Int)×Value))(f:AQ->Bool):WW lm f [] []:=⟨[],rfl,rfl⟩
theorem WW.push{lm:List ((Int×Int)×Value)}{rs:List AQ}{f:AQ->Bool}{js:List Nat}{o:List AQ}(h:WW lm f js o){j:Nat}{r:AQ}(hj:lm[j]?=some (JM r)):WW lm f (js++[j]) (o++(if f r then [r]else [])):=by
 obtain ⟨rl,h1,h2⟩:=h.rows;refine ⟨rl++[r],by rw [zK,h1,FY lm js hj];rfl,?_⟩;rw [AB3,<-h2];cases hf:f r<;>simp [hf]
theorem WW.done{es:Array MapEntry}{ck:Nat}{lm:List ((Int×Int)×Value)}(hm:Ce K2 es ck lm)(hR:Ga lm rs)(hs:BM rs){f:AQ->Bool}{js:List Nat}{o:List AQ}(h:WW lm f js o)(hp:(D5 lm js).Perm lm):o.Perm (rs.filter f):=by
 obtain ⟨rl,h1,rfl⟩:=h.rows;have h2:=hR.perm hm hs
 have h3:(rl.map JM).Perm (rs.map JM):=by rw [h1];exact hp.trans h2
 have h4:(rs.map JM).Nodup:=by
  rw [AE4,AH8];refine hs.imp (fun{a b} hab e=>?_);have e2:=Lx e
  subst e2;unfold AQ.lt2 at hab;omega
 exact (aX (h3.symm.nodup h4) h3).filter f
def leV(c:Nat)(a b:AQ):Prop:=DR a c<DR b c\/DR a c=DR b c/\a.k<=b.k
def qZ:Prop:=∀(cb c:Nat) (w:Value) (o:List AQ) (s:List A8),c<=3->o.length<=2000->BZ 5 83 w o.length (Ac o) s->
    BR Tryz.prog 235 #[w,.func (.func 236) #[] #[I5 cb]] [s,[(cb,.cells #[I4 (c:Int)] 3 (0,0))]]
     (fun r H'=>r= .tuple #[]/\∃(s':List A8) (o':List AQ),o'.Perm o/\o'.Pairwise (leV c)/\BZ 5 83 w o'.length (Ac o') s'/\H'=[s',[(cb,.cells #[I4 (c:Int)] 3 (0,0))]])
theorem WJ(hS:qZ)(sp mb:Nat)(p:Int)(es:Array MapEntry)(ck:Nat)(lm:List ((Int×Int)×Value))(rs:List AQ)(hm:Ce K2 es ck lm)(hR:Ga lm rs)(hs:BM rs)(hn:rs.length<=2000)(t:Int)(c:Nat)(lo hi:Int)(hc:c<=3)(b1 b2 b3 b4:Nat):
 BR Tryz.prog 179 #[I5 sp,I4 (c:Int),.func (.func 180) #[] #[I5 b1,I5 b2,I5 b3,I5 b4]] [[(sp,.cells #[.map (some mb),I4 p] 258 (0,0))],[(mb,.map es ck)],[(b1,.cells #[I4 (c:Int)] 3 (0,0))],[(b2,.cells #[I4 t] 3 (0,0))],[(b3,.cells #[I4 lo] 3 (0,0))],[(b4,.cells #[I4 hi] 3 (0,0))]] (fun r H'=>∃(so:List A8) (o:List AQ),BZ 5 83 r o.length (Ac o) so/\o.Perm (rs.filter (inR t c lo hi))/\o.Pairwise (leV c)/\H'=[so,[(sp,.cells #[.map (some mb),I4 p] 258 (0,0))],[(mb,.map es ck)],[(b1,.cells #[I4 (c:Int)] 3 (0,0))],[(b2,.cells #[I4 t] 3 (0,0))],[(b3,.cells #[I4 lo] 3 (0,0))],[(b4,.cells #[I4 hi] 3 (0,0))]]):=by
 have hml:=mL;have hln:=hR.len hm hs
 refine Se func179 ntmps179 [0,1,2] ?_;intro u R;refine Zq<|Zg<|Ze (Bx #[_]) ?_;rintro _ _ ⟨cb,rfl,rfl⟩;refine Za Y<|Z0<|Zx<|Zq<|Zq<|Zg<|Zm Y<|Zv (BU Aj9 Y Y)<|Z0<|Zx<|AR Y (fun h1=>?_) (fun h1=>?_)
 ·
  cases h1
 refine AJ<|Zx<|Zq<|Zg<|Za Y<|Z0<|Zx<|Zq<|Zq<|Zg<|Zm Y<|Zp Y V<|Zh 0 Ae5 V rfl Ai8 Y<|Zv (Ar (off:=0) Ae4 V rfl sizeOf254 Y)<|Zl isAgg254 Y ?_;refine Ze (Ms Ah7 Y Wh) ?_;rintro _ _ ⟨ib,rfl,rfl⟩;refine Z0<|Zx<|AO<|BV<|Zb [7,2,4,17] ?_;refine BI (e0:=[(7,_)]) (fun m e H=>∃(js:List Nat) (seen:Array Nat) (o:List AQ) (w:Value) (so:List A8),m=lm.length -js.length/\(IQ es js seen/\WW lm (inR t c lo hi) js o/\BZ 5 83 w o.length (Ac o) so/\o.length<=js.length)/\e=[(7,w)]/\H=[[(ib,.mapIter (some mb) ck seen ck)],so]) (by exact ⟨[],#[],[],.slice none 0 0,[],V,⟨Jt _,lT _ _,Bf 5 _,zh _⟩,V,V⟩) Wp ?_;rintro _ _ _ ⟨js,seen,o,w,so,rfl,⟨hit,hse,hro,hoj⟩,rfl,rfl⟩;obtain ⟨qo,capo,rfl⟩:=hro.form;have hjl:=El es.size js hit.nodup hit.lt
 rw [hm.size]at hjl;refine Zq<|Zg<|Ze (Oq hm hit Y Wo Wh) ?_;rintro _ _ hnx;rcases hnx with⟨hdone,rfl,rfl⟩|⟨jn,pn,seen2,hpn,hjn,hi2,rfl,rfl⟩
 ·
  refine Zd Y V<|Z0<|Zx<|Zq<|AR Y (fun hb=>?_) (fun hb=>?_)
  ·
   cases hb
  refine BG<|Zt<|Zt<|AX<|Zx<|Zq<|Zg<|Zm Y<|Zv (Bb (vs:=[]) (us:=[_]) Y Y)<|Zc [_,_] Y call235 Y V (hS cb c _ o so hc Ao7 hro) ?_;rintro _ _ ⟨_,⟨rfl,so2,o2,hpm,hpw,hro2,rfl⟩,rfl⟩;refine Z0<|Zx<|Zq<|Zg<|Zm Y<|Za Y<|Z0<|Zx<|AC<|AL V results179 Y (by exact ⟨so2,o2,hro2,hpm.trans (hse.done hm hR hs hdone),hpw,V⟩)
 obtain ⟨r,hr,rfl⟩:=(hR.mem pn).1 (zP hpn);refine Zd Y V<|Z0<|Zx<|Zq<|AR Y (fun hb=>?_) (fun hb=>?_)
 ·
  have hjl2:=El es.size (js++[jn]) hi2.nodup hi2.lt;rw [hm.size,zG,zU]at hjl2;have hla:(js++[jn]).length=js.length+1:=by rw [zG];rfl
  have hse2:=hse.push (r:=r) (rs:=rs) hpn;have hse2t:(inR t c lo hi) r=true->WW lm (inR t c lo hi) (js++[jn]) (o++[r]):=fun h=>by rw [h]at hse2;exact hse2
  have hse2f:(inR t c lo hi) r=false->WW lm (inR t c lo hi) (js++[jn]) o:=fun h=>by rw [h]at hse2;simpa using hse2
  refine AJ<|Zx<|AO<|Zq<|Zg<|CW (cs:=[(ib,.mapIter (some mb) ck seen2 ck),(mb,.map es ck)]) Ap0 (Ir hm hi2 hpn Y) V rfl ?_;refine Zd Y V<|Ze (Al AW7 #[_,_,_,_,_]) ?_;rintro _ _ ⟨xb,rfl,rfl⟩;refine Xe (Xw AU5 #[I4 r.t,I4 r.k,I4 r.v.a,I4 r.v.b,I4 r.v.c]) ?_;refine Z0<|Zx<|Zq<|Zg<|Zm Y<|Zo Wh (Pa #[_,_,_,_,_] AX3 AU5 Y) ?_;refine Xr [_] Y call180 Y V (mM r t c lo hi hc b1 b2 b3 b4) ?_;refine Z0<|Zx<|AR Y (fun hin=>?_) (fun hin=>?_)
  ·
   refine Zg<|Zm Y<|Zo Wh (Pa #[_,_,_,_,_] AX3 AU5 Y) ?_;refine Ze (Af (vs:=[_]) (cs:=[_,_,_,_,_]) AU4 AU5 AW7 Y V rfl V rfl V) ?_;rintro _ _ ⟨gb,rfl,rfl⟩;refine Ze (Bl (by_:=40) (sz:=5) AU4 (V:Tryz.prog.info? 83=some Tryz.t83) V rfl V rfl Y (hro) Y (DD 5 gb 1 1 83 (0,0) [I4 r.t,I4 r.k,I4 r.v.a,I4 r.v.b,I4 r.v.c] V) Wo Wo Ap5 Ao7 Ao7) ?_;rintro _ _ ⟨sa9,hra9,rfl⟩;have hnew:=BO hra9 (n':=(o++[r]).length) (xs':=Ac (o++[r])) (by rw [zG];rfl) (by rw [C9];rfl)
   obtain ⟨ga9,ca9,rfl⟩:=hra9.form;refine Za Y<|Z0<|Zn [2,4,7,17] ?_;refine A9<|Zn [7,2,4,17] ?_;refine Ad (e':=[(7,_)]) (by exact ⟨js++[jn],seen2,o++[r],_,_,rfl,⟨hi2,hse2t hin,hnew,by rw [zG,zG];simp;omega⟩,rfl,rfl⟩)
  refine AJ<|A9<|Zn [7,2,4,17] ?_;refine Ad (e':=[(7,_)]) (by exact ⟨js++[jn],seen2,o,_,so,rfl,⟨hi2,hse2f hin,hro,by rw [zG];omega⟩,rfl,rfl⟩)
 cases hb
end Go.Proofs.YteaiajghbkenoaaGreatDoor
namespace Go.Proofs
open Go.Shelf
def Tryz.sortRow_ren:Go.Shelf.Ren:=⟨fun|6=>235|15=>117|14=>280|28=>199|29=>200|20=>308|21=>309|22=>310|23=>311|24=>312|25=>313|26=>314|27=>315|46=>335|47=>250|48=>251|49=>336|50=>337|57=>346|n=>n,fun|22=>51|24=>83|25=>336|3=>3|39=>222|0=>0|53=>300|55=>302|4=>4|46=>292|45=>291|50=>297|5=>5|9=>9|66=>348|70=>108|76=>385|77=>386|n=>n,fun|n=>n⟩
theorem Tryz.sortRow:Go.Proofs.SlLaysF0.n6 Tryz.prog Tryz.sortRow_ren:={
 mixed:=by kernel_rfl
 f6:=⟨Tryz.f235.name,by decide,func235.trans (congrArg some Ao8)⟩
 f14:=⟨Tryz.f280.name,by decide,func280.trans (congrArg some Ao8)⟩
 f15:=func117.trans (congrArg some Ao8)
 f20:=⟨Tryz.f308.name,by decide,func308.trans (congrArg some Ao8)⟩
 f21:=⟨Tryz.f309.name,by decide,func309.trans (congrArg some Ao8)⟩
 f22:=⟨Tryz.f310.name,by decide,func310.trans (congrArg some Ao8)⟩
 f23:=⟨Tryz.f311.name,by decide,func311.trans (congrArg some Ao8)⟩
 f24:=⟨Tryz.f312.name,by decide,func312.trans (congrArg some Ao8)⟩
 f25:=⟨Tryz.f313.name,by decide,func313.trans (congrArg some Ao8)⟩
 f26:=⟨Tryz.f314.name,by decide,func314.trans (congrArg some Ao8)⟩
 f27:=⟨Tryz.f315.name,by decide,func315.trans (congrArg some Ao8)⟩
 f28:=func199.trans (congrArg some Ao8)
 f29:=func200.trans (congrArg some Ao8)
 f46:=⟨Tryz.f335.name,by decide,func335.trans (congrArg some Ao8)⟩
 f47:=func250.trans (congrArg some Ao8)
 f48:=func251.trans (congrArg some Ao8)
 f49:=⟨Tryz.f336.name,by decide,func336.trans (congrArg some Ao8)⟩
 f50:=⟨Tryz.f337.name,by decide,func337.trans (congrArg some Ao8)⟩
 f57:=⟨Tryz.f346.name,by decide,func346.trans (congrArg some Ao8)⟩
 t0:=Ag3
 a0:=isAgg0
 z0:=sizeOf0
 v0:=Ah9
 t3:=AV3
 a3:=AU2
 z3:=AU1
 v3:=AX6
 t4:=AZ3
 a4:=Ab8
 z4:=AX8
 v4:=Ae9
 t5:=Aa0
 a5:=Am2
 z5:=Ad5
 v5:=Ac8
 t9:=AW6
 a9:=Af1
 z9:=AY6
 v9:=AY5
 t22:=AU4
 a22:=Ab2
 z22:=AW8
 v22:=zeroValue51
 t25:=underlying336
 a25:=isAgg336
 z25:=sizeOf336
 v25:=zeroValue336
 t39:=Ac1
 a39:=isAgg222
 z39:=Ak4
 v39:=Ag6
 t45:=Aj3
 a45:=isAgg291
 z45:=sizeOf291
 v45:=Ak6
 t46:=Aj4
 a46:=isAgg292
 z46:=sizeOf292
 v46:=Ak7
 t50:=Aj2
 a50:=isAgg297
 z50:=sizeOf297
 v50:=Ak5
 t53:=Aa6
 a53:=Aa5
 z53:=AX2
 v53:=Ag7
 t55:=Ac2
 a55:=Ai3
 z55:=Ai7
 v55:=Ag8
 t66:=Aj5
 a66:=isAgg348
 z66:=sizeOf348
 v66:=Ak8
 t70:=Aj6
 a70:=isAgg108
 z70:=Af2
 v70:=Ac9
 t76:=Aj7
 a76:=isAgg385
 z76:=sizeOf385
 v76:=Ak9
 t77:=Aj8
 a77:=isAgg386
 z77:=sizeOf386
 v77:=Al0}
end Go.Proofs
namespace Go.Proofs.YteaiajghbkenoaaGreatDoor
open Go.Proofs.Tryz
open Go Go.RowKit Gw
set_option maxRecDepth 100000
attribute [local irreducible] Gw.At Gw.Nx Gw.Ops
open Go.Sort Go.Shelf
attribute [local go_sem] Gl.evalE Gl.lookE Gl.linUpon Gl.wantedE Gl.yieldE Gl.putE
def kH(c:Nat)(a b:AQ):Int:=orL (Lib.compareInt (Be a (c:Int)) (Be b (c:Int))) (Lib.compareInt a.k b.k)
def Stg(W:World)(n:Nat)(w:World):Prop:=∃q os,os.size=n/\w=grow (W.drewN q) os
theorem ry(W:World):Stg W 0 W:=⟨0,#[],rfl,by simp [World.drewN]⟩
variable{w W:World}{n:Nat}
theorem lM(h:Stg W n w):Stg W n w.drew:=by
 obtain ⟨q,os,rfl,rfl⟩:=h;exact ⟨q+1,os,V,V⟩
theorem Nr(h:Stg W n w)(q':Nat)(os':Array Obj):Stg W (n+os'.size) (grow (w.drewN q') os'):=by
 obtain ⟨q,os,rfl,rfl⟩:=h;refine ⟨q+q',os++os',by simp,?_⟩;simp [grow,World.drewN,Array.append_assoc,AQ1]
theorem Hu{b:Nat}{o:Obj}(h:Stg W n w)(hb:W.heap[b]?=some o):w.heap[b]?=some o:=by
 obtain ⟨q,os,rfl,rfl⟩:=h;have hlt:=(zw.1 hb).1
 show(W.heap++os)[b]?=_;rw [AI1 hlt];exact hb
theorem lL(h:Stg W n w):w.heap.size=W.heap.size+n:=by
 obtain ⟨q,os,rfl,rfl⟩:=h;show(W.heap++os).size=_
 simp
theorem Po(w:World)(o:Obj):(w.alloc o).heap[w.heap.size]?=some o:=by
 show(w.heap.push o)[w.heap.size]?=some o;exact Array.getElem?_push_size
theorem dZ(w:World)(o:Obj):(w.alloc o).heap.size=w.heap.size+1:=Array.size_push _
def yY:Nat->Nat
 |0=>0|1=>1|2=>2|3=>2|4=>2|5=>3|_=>3
def zB(W:World)(T:Nat)(x y:Int)(k:Nat)(w:World):Prop:=Stg W (yY k) w/\(5<=k->w.heap[W.heap.size+2]?=some (.cells #[I4 x,I4 y] T (0,0)))
set_option maxHeartbeats 2000000 in
theorem kG(a b:AQ)(c:Nat)(hc:c<=3)(cb:Nat)(W:World)(hcb:W.heap[cb]?=some (.cells #[I4 (c:Int)] 3 (0,0))):Calls Tryz.prog 236 #[.agg #[I4 a.t,I4 a.k,I4 a.v.a,I4 a.v.b,I4 a.v.c],.agg #[I4 b.t,I4 b.k,I4 b.v.a,I4 b.v.b,I4 b.v.c],I5 cb] W fun e w'=>e= .returned (I4 (kH c a b))/\∃q os',w'=grow (W.drewN q) os':=by
 have hlt:=(zw.1 hcb).1
 go_enter func236,ntmps236
 go_wp2
 generalize hW2:(W.alloc _).alloc _=W2;have hS0:Stg W 2 W2:=by
  rw [<-hW2,alloc_eq_grow,alloc_eq_grow,grow_grow];exact ⟨0,_,V,V⟩
 have hS1:Stg (W.alloc (.cells #[I4 a.t,I4 a.k,I4 a.v.a,I4 a.v.b,I4 a.v.c] 83 (0,0))) 1 W2:=by
  rw [<-hW2,alloc_eq_grow _ (.cells #[I4 b.t,I4 b.k,I4 b.v.a,I4 b.v.b,I4 b.v.c] 83 (0,0))];exact ⟨0,_,V,V⟩
 have hA:=Hu hS1 (Po _ _);have hB:W2.heap[W.heap.size+1]?=some (.cells #[I4 b.t,I4 b.k,I4 b.v.a,I4 b.v.b,I4 b.v.c] 83 (0,0)):=by
  rw [<-hW2,<-dZ W (.cells #[I4 a.t,I4 a.k,I4 a.v.a,I4 a.v.b,I4 a.v.c] 83 (0,0))];exact Po _ _
 have hC:=Hu hS0 hcb;refine Gl.wp_region_lin [false,false,true,false,false,true,true,false,false,false,false,true,true,true,false] (zB W2 3 (Lib.compareInt (Be a (c:Int)) (Be b (c:Int))) (Lib.compareInt a.k b.k)) 20 V Ao8 Ao8 ⟨lM (ry W2),fun h=>absurd h Ao9⟩ ?_;intro fr hfr;have HFR:=Lib.hid hfr
 have e2:fr.tmps.getD 2 undef=I5 cb:=by rw [hfr];rfl
 have e3:fr.tmps.getD 3 undef= .pointer (some ⟨W.heap.size,0,none⟩):=by rw [hfr];rfl
 have e4:fr.tmps.getD 4 undef= .pointer (some ⟨W.heap.size+1,0,none⟩):=by rw [hfr];rfl
 clear hfr;apply Gl.wpLin_keep
 · intro j wj hj K hK
   have hb:=Hu hj.1 hA;have c0:=Cb (i:=0) hb rfl
   have c1:=Cb (i:=1) hb rfl;have c2:=Cb (i:=2) hb rfl
   have c3:=Cb (i:=3) hb rfl;have c4:=Cb (i:=4) hb rfl
   go_simp
   exact hK _ hj
 apply Gl.wpLin_keep
 · intro j wj hj K hK
   have c0:=Cb (i:=0) (Hu hj.1 hC) rfl
   go_simp
   exact hK _ hj
 apply Gl.wpLin_move
 · intro wj hj K hK
   go_simp
   exact (JE a (c:Int) Ao7 _).mono (by
    rintro e w' ⟨rfl,q,o,rfl⟩;exact ⟨_,V,hK _ ⟨Nr hj.1 q #[o],fun h=>absurd h Ao9⟩⟩)
 apply Gl.wpLin_keep
 · intro j wj hj K hK
   have hb:=Hu hj.1 hB;have c0:=Cb (i:=0) hb rfl
   have c1:=Cb (i:=1) hb rfl;have c2:=Cb (i:=2) hb rfl
   have c3:=Cb (i:=3) hb rfl;have c4:=Cb (i:=4) hb rfl
   go_simp
   exact hK _ hj
 apply Gl.wpLin_keep
 · intro j wj hj K hK
   have c0:=Cb (i:=0) (Hu hj.1 hC) rfl
   go_simp
   exact hK _ hj
 apply Gl.wpLin_move
 · intro wj hj K hK
   go_simp
   exact (JE b (c:Int) Ao7 _).mono (by
    rintro e w' ⟨rfl,q,o,rfl⟩;exact ⟨_,V,hK _ ⟨Nr hj.1 q #[o],fun h=>absurd h Ao9⟩⟩)
 apply Gl.wpLin_move
 · intro wj hj K hK
   go_simp
   exact (Tryz.cmp_Compare_int _ _ _).mono (by
    rintro e w' ⟨rfl,rfl⟩;exact ⟨_,V,hK _ ⟨hj.1,fun h=>absurd h Ao9⟩⟩)
 apply Gl.wpLin_keep
 · intro j wj hj K hK
   go_simp
   exact hK _ hj
 apply Gl.wpLin_keep
 · intro j wj hj K hK
   have c1:=Cb (i:=1) (Hu hj.1 hA) rfl
   go_simp
   exact hK _ hj
 apply Gl.wpLin_keep
 · intro j wj hj K hK
   go_simp
   exact hK _ hj
 apply Gl.wpLin_keep
 · intro j wj hj K hK
   have c1:=Cb (i:=1) (Hu hj.1 hB) rfl
   go_simp
   exact hK _ hj
 apply Gl.wpLin_move
 · intro wj hj K hK
   go_simp
   exact (Tryz.cmp_Compare_int _ _ _).mono (by
    rintro e w' ⟨rfl,rfl⟩;exact ⟨_,V,hK _ ⟨hj.1,fun h=>absurd h Ao9⟩⟩)
 apply Gl.wpLin_move (v:= .slice (some ⟨W2.heap.size+2,0,none⟩) 2 2)
 · intro wj hj K hK
   have hz:=lL hj.1;change wj.heap.size=W2.heap.size+2 at hz
   go_simp
   have h:=hK _ ⟨Nr hj.1 0 #[.cells #[I4 (Lib.compareInt (Be a (c:Int)) (Be b (c:Int))),I4 (Lib.compareInt a.k b.k)] 3 (0,0)],fun _=>?_⟩
   · rw [alloc_eq_grow]
     exact h
   · rw [<-hz]
     exact Po wj _
 apply Gl.wpLin_move
 · intro wj hj K hK
   have hb:=hj.2 Ao9
   go_simp
   exact (nO _ _ _ _ (Cb (i:=0) hb V) (Cb (i:=1) hb V)).mono (by
    rintro e w' ⟨rfl,rfl⟩;exact ⟨_,V,hK _ ⟨hj.1,fun _=>hb⟩⟩)
 apply Gl.wpLin_keep
 · intro j wj hj K hK
   go_simp
   exact hK _ hj
 apply Gl.wpLin_done;intro wz hz;rw [HFR.out];simp only [Gl.putE,Gl.putsE,Act.put,AN1,List.set_cons_zero,List.set_cons_succ];obtain ⟨⟨q,os,-,rfl⟩,-⟩:=hz;clear HFR
 go_wp2
 go_ret
 obtain ⟨q',os',-,h⟩:=Nr hS0 q os;exact ⟨V,q',os',h⟩
end Go.Proofs.YteaiajghbkenoaaGreatDoor
namespace Go.Proofs.YteaiajghbkenoaaGreatDoor
open Go.Proofs.Tryz
open Go Go.RowKit Gw
set_option maxRecDepth 100000
attribute [local irreducible] Gw.At Gw.Nx Gw.Ops
open Go.Sort Go.Shelf
instance:Inhabited AQ:=⟨⟨0,0,⟨0,0,0⟩⟩⟩
def Sy(r:AQ):List Value:=[I4 r.t,I4 r.k,I4 r.v.a,I4 r.v.b,I4 r.v.c]
theorem ltR(c:Nat)(a b:AQ):ltOf (kH c) a b=decide (Be a (c:Int)<Be b (c:Int)\/Be a (c:Int)=Be b (c:Int)/\a.k<b.k):=by
 unfold ltOf kH orL Lib.compareInt;have h1:=Int.lt_trichotomy (Be a (c:Int)) (Be b (c:Int))
 have h2:=Int.lt_trichotomy a.k b.k;generalize Be a (c:Int)=x at*;generalize Be b (c:Int)=y at*;apply decide_eq_decide.2;split<;>split<;>(try split)<;>(try split)<;>omega
theorem yV(c:Nat):SWO (ltOf (kH c))where
 irrefl x:=by rw [ltR];simp
 trans x y z h1 h2:=by rw [ltR]at*;simp only [Am9]at*;omega
 ntrans x y z h1 h2:=by rw [ltR]at*;simp only [An0]at*;omega
theorem sD:qZ:=by
 intro cb c w o s hc hn hro;obtain ⟨hlen,⟨rfl,h0,rfl⟩|⟨g,cap,cur,z,rfl,rfl,hle,hcm,hcs,htk,hfr⟩⟩:=hro
 · intro u R w0 hs
   have ho:o=[]:=AB0 h0;subst ho;have hN:=AnyF.slices_SortFunc_none Tryz.sortRow none 0 (.func (.func 236) #[] #[I5 cb]) w0
   exact hN.mono (by
    rintro e w' ⟨rfl,rfl⟩;exact .inl ⟨_,_,V,⟨V,[],[],.refl _,.nil,Bf _ _,V⟩,hs⟩)
 · intro u R w0 hs
   have hb:=hs.get (g,.cells cur 83 z) Ap0;have hcb:=hs.get (cb,.cells #[I4 (c:Int)] 3 (0,0)) Ap0
   have hne:g≠cb:=by
    have:=hs.nodup;simp at this;exact this.1.1
   have hH:=Sd (w:=w0) (g:=g) (cur:=cur) (e:=83) (z:=z) Sy 5 (fun _=>rfl) o hb (by rw [hcs];omega) hfr htk;have eg:∀(args:Array Value) (w:World),(callFunc 236 args).run Tryz.prog w= .ok (.enter 236 args) w:=enters_of func236 Ao8 rfl
   have hcmp:CmpLays Tryz.prog 236 #[I5 cb] Sy 5 (kH c) g 0 o.toArray.size w0:=by
    intro m os dk hsz x y;refine kG x y c hc cb _ ?_;have hlt:=hs.lt (p:=(cb,.cells #[I4 (c:Int)] 3 (0,0))) Ap0
    rw [Oy Sy 5 w0 g m cb dk os hne hlt];exact hcb
   have hcon:=AnyQ.slices_SortFunc Tryz.sortRow 5 AX3 AU5 Sy (fun _=>rfl) (fun x v hv=>by simp [Sy]at hv;rcases hv with rfl|rfl|rfl|rfl|rfl<;>rfl) (kH c) (yV c) 236 #[I5 cb] g 0 cap o.toArray w0 eg hcmp hH (hs.lt (p:=(g,.cells cur 83 z)) Ap0) Ap8;refine hcon.mono ?_;rintro e w' ⟨rfl,d',n,os,⟨hds,-,hpm⟩,hso,rfl⟩;have hds':d'.size=o.length:=by simpa using hds
   have hF:(flatK Sy 5 d').toList=Ac d'.toList:=NP Sy 5 (fun _=>rfl) d'.toList;have hFs:(flatK Sy 5 d').size=o.length*5:=by rw [size_flatK,hds']
   have hpm2:d'.toList.Perm o:=by
    have e1:d'.extract 0 o.toArray.size=d':=by
     rw [show o.toArray.size=d'.size by rw [hds'];simp];exact Array.extract_size
    rw [e1]at hpm;simpa using hpm
   have hpl:d'.toList.length=o.length:=hpm2.length_eq;refine .inl ⟨_,[[(g,.cells (putCells id 0 (flatK Sy 5 d') cur) 83 z)],[(cb,.cells #[I4 (c:Int)] 3 (0,0))]],V,⟨V,_,d'.toList,hpm2,?_,?_,V⟩,hs.sortedK Sy d' os⟩
   · rw [AJ8]
     intro i j hi hj hij;have h:=hso i j (zT _) hij Ap8
     rw [ltR]at h;simp only [An0]at h;rw [getElem!_pos d' i (by simpa using hi),getElem!_pos d' j (by simpa using hj)]at h;rw [Kr _ c hc,Kr _ c hc]at h;unfold leV;simp only [Array.getElem_toList];omega
   · rw [hpl]
     refine ⟨by rw [BB,hpl],.inr ⟨g,cap,_,z,rfl,rfl,hle,hcm,by rw [Lt];exact hcs,?_,by rw [Lt];exact hfr⟩⟩;have h:=UQ cur (flatK Sy 5 d') (by rw [hFs,hcs];omega)
     rw [hFs,hF]at h;exact h
end Go.Proofs.YteaiajghbkenoaaGreatDoor
namespace Go.Proofs.YteaiajghbkenoaaGreatDoor
open Go.Proofs.Tryz
open Go Go.RowKit Gw
set_option maxRecDepth 100000
attribute [local irreducible] Gw.At Gw.Nx Gw.Ops
theorem Uq(c:Nat)(out:List AQ)(x:AQ):∃A B,out=A++B/\YC c out x=A++[x]++B/\(∀r∈B,DR x c<DR r c)/\(A=[]\/∃A' r,A=A'++[r]/\DR r c<=DR x c):=by
 let q:AQ->Bool:=fun r=>decide (DR x c<DR r c)
 have e:out=(out.reverse.dropWhile q).reverse++(out.reverse.takeWhile q).reverse:=by
  rw [<-AR6,List.takeWhile_append_dropWhile,List.reverse_reverse]
 have hp:aV c out (DR x c)=(out.reverse.dropWhile q).reverse.length:=by
  rw [AO0];rfl
 refine ⟨(out.reverse.dropWhile q).reverse,(out.reverse.takeWhile q).reverse,e,?_,?_,?_⟩
 · unfold YC
   rw [hp];generalize (out.reverse.dropWhile q).reverse=A at*;generalize (out.reverse.takeWhile q).reverse=B at*;subst e;rw [AC3,AJ7];all_goals rfl
 · intro r hr
   rw [AM4]at hr;have:=List.all_takeWhile (p:=q) (l:=out.reverse)
   rw [AE0]at this;simpa [q]using this r hr
 · cases h:out.reverse.dropWhile q with
   |nil=>left;rfl
   |cons r l=>
    right;refine ⟨l.reverse,r,by simp,?_⟩;have:=List.head?_dropWhile_not q out.reverse
    rw [h]at this;simpa [q]using this
theorem Uo(c:Nat)(out:List AQ)(x:AQ):(YC c out x).Perm (x::out):=by
 obtain ⟨A,B,e1,e2,_,_⟩:=Uq c out x;rw [e2,e1,zM];exact AF7
theorem Sk(c:Nat):∀(l out:List AQ),(l.foldl (YC c) out).Perm (out++l)
 |[],out=>by simp
 |x::l,out=>by
  rw [AI6];refine (Sk c l _).trans ?_;refine ((Uo c out x).append_right l).trans ?_;exact AF7.symm
variable{c:Nat}{x:AQ}
theorem YB{out:List AQ}(h:out.Pairwise (leV c))(hk:∀r∈out,r.k<x.k):(YC c out x).Pairwise (leV c):=by
 obtain ⟨A,B,e1,e2,hB,hA⟩:=Uq c out x;rw [e2];rw [e1]at h hk;rw [AD1]at h;obtain ⟨h1,h2,h3⟩:=h;have hA2:∀r∈A,DR r c<=DR x c:=by
  rcases hA with rfl|⟨A',r0,rfl,h0⟩
  · intro r hr;simp at hr
  · intro r hr
    rcases zJ.1 hr with hr'|hr'
    · rw [AD1]at h1
      have:=h1.2.2 r hr' r0 Ap0;unfold leV at this;omega
    · rw [zI]at hr'
      subst hr';exact h0
 rw [zM,AD1];refine ⟨h1,?_,?_⟩
 · rw [AC2,AE5]
   exact ⟨fun r hr=> .inl (hB r hr),h2⟩
 · intro a ha b hb
   rw [AC2,za]at hb;rcases hb with rfl|hb
   · have h4:=hA2 a ha
     have h5:=hk a (zR _ ha);unfold leV;omega
   · exact h3 a ha b hb
theorem OX(c:Nat):∀(l out:List AQ),out.Pairwise (leV c)->l.Pairwise (fun a b=>a.k<b.k)->(∀r∈out,∀x∈l,r.k<x.k)->(l.foldl (YC c) out).Pairwise (leV c)
 |[],out,h,_,_=>h
 |x::l,out,h,h2,h3=>by
  rw [AI6];rw [AE5]at h2;refine OX c l _ (YB h fun r hr=>h3 r hr x Ap0) h2.2 ?_;intro r hr y hy;have:=(Uo c out x).mem_iff.1 hr
  rcases za.1 this with rfl|hm
  · exact h2.1 y hy
  · exact h3 r hm y (by simp [hy])
variable{rs:List AQ}{t:Int}{f:AQ->Bool}
theorem PZ(hs:BM rs)(hf:∀r,f r=true->r.t=t):(rs.filter f).Pairwise (fun a b=>a.k<b.k):=by
 have h1:(rs.filter f).Pairwise (fun a b=>a.lt2 b.t b.k):=hs.filter f;refine h1.imp_of_mem ?_;intro a b ha hb hab;have h2:=hf a (AA2.1 ha).2
 have h3:=hf b (AA2.1 hb).2;unfold AQ.lt2 at hab;omega
theorem oJ{l:List AQ}(h:l.Pairwise (fun a b=>a.k<b.k)):∀a∈l,∀b∈l,a.k=b.k->a=b:=by
 induction l with
 |nil=>intro a ha;simp at ha
 |cons x l ih=>
  rw [AE5]at h;intro a ha b hb e;rcases za.1 ha with ea|ha'<;>rcases za.1 hb with eb|hb'
  · rw [ea,eb]
  · have:=h.1 b hb';rw [ea]at e;omega
  · have:=h.1 a ha';rw [eb]at e;omega
  · exact ih h.2 a ha' b hb' e
variable{r:AQ}
theorem fF{lo hi:Int}(h:inR t c lo hi r=true):r.t=t:=(An1 h).1
theorem EI(rs:List AQ)(t:Int)(c:Nat)(lo hi:Int):(DY rs t c lo hi).Perm (rs.filter (inR t c lo hi)):=by
 have:=Sk c (rs.filter (inR t c lo hi)) [];rw [AD8]at this;exact this
theorem ER(hs:BM rs)(t:Int)(c:Nat)(lo hi:Int):(DY rs t c lo hi).Pairwise (leV c):=
 OX c _ [] .nil (PZ hs fun r h=>fF h) (by intro r hr;simp at hr)
theorem RA(hs:BM rs)(hf:∀r,f r=true->r.t=t){a b:List AQ}(ha:a.Perm (rs.filter f))(hb:b.Perm (rs.filter f))(h1:a.Pairwise (leV c))(h2:b.Pairwise (leV c)):a=b:=by
 have hk:=PZ hs hf;refine (ha.trans hb.symm).eq_of_pairwise ?_ h1 h2;intro x y hx hy hxy hyx;refine oJ hk x (ha.mem_iff.1 hx) y (hb.mem_iff.1 hy) ?_;unfold leV at hxy hyx;omega
theorem UO(hs:BM rs){lo hi:Int}{o:List AQ}(h1:o.Perm (rs.filter (inR t c lo hi)))(h2:o.Pairwise (leV c)):o=DY rs t c lo hi:=
 RA hs (fun r h=>fF h) h1 (EI rs t c lo hi) h2 (ER hs t c lo hi)
def inT(t:Int)(r:AQ):Bool:=decide (r.t=t)
def Ht(rs:List AQ)(t:Int):List AQ:=rs.filter (inT t)
def Qa(v:Value)(p:Int)(rs:List AQ)(s:List A8):Prop:=∃sp mb es ck lm,v=I5 sp/\Ce K2 es ck lm/\Ga lm rs/\BM rs/\rs.length<=2000/\s=[(sp,.cells #[.map (some mb),I4 p] 258 (0,0)),(mb,.map es ck)]
theorem gP(sp mb:Nat)(p:Int)(es:Array MapEntry)(ck:Nat)(lm:List ((Int×Int)×Value))(rs:List AQ)(hm:Ce K2 es ck lm)(hR:Ga lm rs)(hs:BM rs)(hn:rs.length<=2000)(t:Int)(c:Nat)(lo hi:Int)(hc:c<=3):
 BR Tryz.prog 105 #[I5 sp,I4 t,I4 (c:Int),I4 lo,I4 hi] [[(sp,.cells #[.map (some mb),I4 p] 258 (0,0))],[(mb,.map es ck)]] (fun r H'=>∃so,BZ 5 83 r (DY rs t c lo hi).length (Ac (DY rs t c lo hi)) so/\H'=[so,[(sp,.cells #[.map (some mb),I4 p] 258 (0,0))],[(mb,.map es ck)]]):=by
 refine Se func105 ntmps105 [0,1,2,3,4] ?_;intro u R;refine Zq<|Zg<|Ze (Bx #[_]) ?_;rintro _ _ ⟨b2,rfl,rfl⟩;refine Ze (Bx #[_]) ?_;rintro _ _ ⟨b1,rfl,rfl⟩;refine Ze (Bx #[_]) ?_;rintro _ _ ⟨b3,rfl,rfl⟩;refine Ze (Bx #[_]) ?_;rintro _ _ ⟨b4,rfl,rfl⟩;refine Za Y<|Z0<|Zx<|Zq<|Zq<|Zg<|Zl AU2 Y ?_;refine Zv (Au (n:=0) Y Y)<|Zm Y<|Ak (t:=13) Y V (fun h1=>?_) (fun h1=>?_)
 ·
  exfalso;(cases h1;done)
 refine Yl AU2 Y ?_;refine Yg (GK (n:=4) Y Y)<|Zv (AU Y Y)<|Z0<|Zx<|Aw Y (fun h2=>?_) (fun h2=>?_)
 ·
  exfalso;omega
 refine AJ<|Zx<|Zq<|Zg<|Zm Y<|Zl AU2 Y ?_;refine Zv (Bb (vs:=[]) (us:=[_,_,_,_]) Y Y)<|Zc [_,_,_] Y call179 Y V (WJ sD sp mb p es ck lm rs hm hR hs hn t c lo hi hc b1 b2 b3 b4) ?_;rintro _ _ ⟨_,⟨so,o,hro,hpm,hpw,rfl⟩,rfl⟩;have e9:=UO hs hpm hpw
 subst e9;refine Za Y<|Z0<|Zn [10] ?_;refine Zx<|AC<|AL V results105 Y (by exact ⟨so,hro,V⟩)
theorem X6(v:Value)(p:Int)(rs:List AQ)(s:List A8)(hv:Qa v p rs s)(t:Int)(c:Nat)(lo hi:Int)(hc:c<=3):BR Tryz.prog 105 #[v,I4 t,I4 (c:Int),I4 lo,I4 hi] [s] (fun r H'=>∃so,BZ 5 83 r (DY rs t c lo hi).length (Ac (DY rs t c lo hi)) so/\H'=[so,s]):=by
 obtain ⟨sp,mb,es,ck,lm,rfl,hm,hR,hs,hn,rfl⟩:=hv;refine GY (gP sp mb p es ck lm rs hm hR hs hn t c lo hi hc) Ap0 ?_;rintro r H' ⟨so,hro,rfl⟩;exact ⟨_,⟨so,hro,V⟩,by simp⟩
def Dh(M:List A8)(v:Value)(rs:List AQ):Prop:=∃p cap,v= .slice p rs.length cap/\(rs.length<=maxLen/\rs.length<=cap)/\∀(i:Nat) (x:AQ),rs[i]?=some x->∃g off cur T zz,p=some ⟨g,off,none⟩/\(g,Obj.cells cur T zz)∈M/\off+i*5+5<=cur.size/\cur.extract (off+i*5) (off+i*5+5)=#[I4 x.t,I4 x.k,I4 x.v.a,I4 x.v.b,I4 x.v.c]
variable{v:Value}{s:List A8}
theorem D7{e:TypeId}(h:BZ 5 e v rs.length (Ac rs) s)(hn:rs.length<=maxLen):Dh s v rs:=by
 obtain ⟨b,cap,rfl⟩:=h.form;refine ⟨b,cap,V,⟨hn,Ew h⟩,fun i x hx=>?_⟩;obtain ⟨g,cap',cur,z,hv,rfl,hsz,hex⟩:=L8 h i (zF.1 hx).1;injection hv with hv1 hv2 hv3
 refine ⟨g,0,cur,e,z,hv1,by simp,by omega,?_⟩;unfold Ac at hex;rw [KP _ 5 (fun _=>rfl) rs i x hx]at hex;rw [zo];exact AB8.1 hex
variable{M:List A8}
theorem Dh.mono{M':List A8}{ls:List AQ}(h:Dh M v ls)(hm:∀c∈M,c∈M'):Dh M' v ls:=by
 obtain ⟨p,cap,e,hl,hg⟩:=h;refine ⟨p,cap,e,hl,fun i s hs=>?_⟩;obtain ⟨g,off,cur,T,zz,e1,h1,h2⟩:=hg i s hs;exact ⟨g,off,cur,T,zz,e1,hm _ h1,h2⟩
theorem FW(r:AQ)(c:Int)(hc:0<=c/\c<=3):BJ Tryz.prog 140 #[.agg #[I4 r.t,I4 r.k,I4 r.v.a,I4 r.v.b,I4 r.v.c],I4 c] [] (I4 (Be r c)):=fun u R w hs=>
 (JE r c hc w).mono (by
   rintro e w' ⟨rfl,q,o,rfl⟩;exact .inl ⟨_,[],V,⟨V,V⟩,RI hs q _⟩)
variable{n:Nat}
theorem OZ{cur xs:Array Value}{a:Nat}(h:cur.extract a (a+n)=xs)(hs:a+n<=cur.size)(j:Nat)(hj:j<n):cur[a+j]?=xs[j]?:=by
 rw [<-h,AK6,Am7 Ao7]
theorem TA{p q:Prop} [Decidable p] [Decidable q](h:p↔q):Value.bool (decide p)=Value.bool (decide q):=by rw [decide_eq_decide.2 h]
variable{P:Program}{args:Array Value}
theorem QE{f:FuncId}(h:BJ P f args [] v):BJ P f args [M] v:=fun u R w hs=>
 Calls.mono (h u ([M]++R) w hs) fun e w' he=>by
  rcases he with⟨v',H',rfl,⟨rfl,rfl⟩,h2⟩|⟨ch,H',rfl,h1,h2⟩
  · exact .inl ⟨_,[M],rfl,⟨rfl,rfl⟩,h2⟩
  · exact h1.elim
variable{B A:List A8}
theorem Ye{f:FuncId}(h:BJ P f args [B] v):BJ P f args [A++B] v:=fun u R w hs=>
 Calls.mono (h u ([A]++R) w (hs.perm (by simp only [AA0,zL,zl,zV];rw [<-zM];exact AB7.append_right _))) fun e w' he=>by
  rcases he with⟨v',H',rfl,⟨rfl,rfl⟩,h2⟩|⟨ch,H',rfl,h1,h2⟩
  · refine .inl ⟨_,[A++B],rfl,⟨rfl,rfl⟩,h2.perm ?_⟩
    simp only [AA0,zL,zl,zV];rw [<-zM];exact AB7.append_right _
  · exact h1.elim
theorem jy{f:FuncId}(h:BJ P f args [A++B] v):BJ P f args [A,B] v:=by
 refine GY h Ap0 ?_;rintro r H' ⟨rfl,rfl⟩;exact ⟨_,⟨V,V⟩,by simp⟩
theorem Bc{α:Type}{xs:List α}{j:Nat}{x:α}(h:xs[j]?=some x):xs.take (j+1)=xs.take j++[x]:=by rw [AH3,h];rfl
variable{k:Nat}
theorem gQ(h:rs[k]?=some r):Ac rs=Ac (rs.take k)++(Ac [r]++Ac (rs.drop (k+1))):=by
 rw [<-C9,<-C9];congr 1;obtain ⟨hk,rfl⟩:=zF.1 h;rw [AC2,<-AD0 hk,AB4]
theorem LA(h:rs[k]?=some r)(j:Nat)(hj:j<5):(Ac rs)[k*5+j]?=(Ac [r])[j]?:=by
 have hk:=(zF.1 h).1;have e:(Ac (rs.take k)).length=k*5:=by rw [BB,zN];omega
 rw [gQ h,AC1 Ao7,AE6 (by rw [e,BB];simp;omega),e,Nat.add_sub_cancel_left]
theorem XF{p:Option Addr}{cap:Nat}(h:Dh M (.slice p n cap) rs):F5 M p (Ac rs):=by
 obtain ⟨p',cap',e,hl,hg⟩:=h;injection e with e1 e2 e3
 subst e1;intro j u hj;have hjl:=(zF.1 hj).1
 rw [BB]at hjl;obtain ⟨x,hx⟩:∃x,rs[j/5]?=some x:=⟨_,zD Ao7⟩;obtain ⟨g,off,cur,T,zz,rfl,hm,hsz,hex⟩:=hg (j/5) x hx;refine ⟨g,off,cur,T,zz,V,hm,?_⟩;have h1:=OZ hex hsz (j%5) Ao7
 have h2:=LA hx (j%5) Ao7;rw [show j/5*5+j%5=j by omega,hj]at h2;rw [show off+j=off+j/5*5+j%5 by omega,h1,h2,<-AA3];rfl
theorem GJ(hv:Dh M v rs)(hb:rs.length<=1000000000000):BR Tryz.prog 109 #[v] [M] (fun r H'=>∃sr,BZ 5 83 r rs.length (Ac rs) sr/\H'=[sr,M]):=by
 have hml:=mL;obtain ⟨p,cap,rfl,⟨hl,hlc⟩,hg⟩:=id hv;have hcm:F5 M p (Ac rs):=XF hv
 refine Se func109 ntmps109 [0] ?_;intro u R;refine Zq<|Zg<|Za Y<|Z0<|Zx<|Zq<|Zq<|Zg<|Zm Y<|Zv (DX AU4 Y Y)<|Z0<|Zx<|AR Y (fun hp=>?_) (fun hp=>?_)
 ·
  have hp0:p=none:=by cases p with
   |none=>rfl
   |some x=>cases hp
  have h0:rs=[]:=by
   cases rs with
   |nil=>rfl
   |cons x l=>obtain ⟨g,off,cur,T,zz,e9,_⟩:=hg 0 x rfl;rw [hp0]at e9;cases e9
  refine Zq<|BV<|Zg<|Za Y<|Z0<|Zx<|AC<|Zt<|AL rfl results109 Y (by exact ⟨[],by rw [h0];exact Bf 5 _,rfl⟩)
 refine AJ<|Zx<|Zq<|Zg<|Ze (Dw AU4 AU5) ?_;rintro _ _ ⟨g1,rfl,rfl⟩;refine Zm Y<|Ze (Gi (by_:=40) (sz:=5) AU4 (V:Tryz.prog.info? 83=some Tryz.t83) V rfl V rfl Y (Im 5 83 g1 0 [] V Ao9) Y (hcm) (by exact BB _) Ao9 Wo Wo (by exact EH _) Ao7 Ao7) ?_;rintro _ _ ⟨sa1,hra1,rfl⟩;replace hra1:=BO hra1 (zo _) (AD8 _);refine Za Y<|Z0<|Zx<|AC<|AL V results109 Y (by exact ⟨_,hra1,V⟩)
def QV(pd:AQ->Bool)(rows:List AQ):Int:=(rows.findIdx? pd).elim (-1) fun i=>(i:Int)
variable{rows:List AQ}{i:Nat}
theorem oU{pd:AQ->Bool}(h:∀(j:Nat) (y:AQ),j<i->rows[j]?=some y->pd y=false)(hx:rows[i]?=some x)(hp:pd x=true):QV pd rows=(i:Int):=by
 obtain ⟨hi,rfl⟩:=zF.1 hx;unfold QV;rw [AC5.2 ⟨hi,hp,fun j hj=>by simp [h j _ hj (zD Ao7)]⟩];rfl
theorem oV{pd:AQ->Bool}(h:∀(j:Nat) (y:AQ),j<rows.length->rows[j]?=some y->pd y=false):QV pd rows=-1:=by
 unfold QV;rw [AH4.2 fun y hy=>by
  obtain ⟨j,hj⟩:=AA1 hy;exact h j y (zF.1 hj).1 hj]
 rfl
theorem jT(pd:AQ->Bool)(rows:List AQ):(QV pd rows=-1/\∀y∈rows,pd y=false)\/∃(i:Nat) (x:AQ),QV pd rows=(i:Int)/\rows[i]?=some x/\pd x=true/\∀(j:Nat) (y:AQ),j<i->rows[j]?=some y->pd y=false:=by
 unfold QV;cases h:rows.findIdx? pd with
 |none=>exact .inl ⟨rfl,AH4.1 h⟩
 |some i=>
  obtain ⟨h1,h2,h3⟩:=AC5.1 h;refine .inr ⟨i,_,V,zD h1,h2,fun j y hj hy=>?_⟩;obtain ⟨h4,rfl⟩:=zF.1 hy;simpa using h3 j hj
theorem mW(hk:k<rs.length)(x:AQ):(Ac rs).take (k*5)++Ac [x]++(Ac rs).drop (k*5+(Ac [x]).length)=Ac (rs.set k x):=by
 rw [show k*5+(Ac [x]).length=(k+1)*5 by rw [BB];simp;omega,Fj,Mc,<-C9,<-C9,AJ0,Am7 hk];simp
theorem YU{cur:Array Value}(hin:CE cur 0 (Ac rs))(hx:rs[k]?=some x):k*5+5<=cur.size/\cur.extract (0+k*5) (0+k*5+5)=(Ac [x]).toArray:=by
 have hk:=(zF.1 hx).1;have hs:k*5+5<=cur.size:=by
  have h4:=LA hx 4 Ao9;have h5:=hin.get (k*5+4) _ (h4.trans Ap1)
  have:=(zw.1 h5).1;omega
 refine ⟨hs,?_⟩;apply AB8.1;apply AD5;intro j;rw [AA3,AK6];split
 · rename_i hj
   have hj5:j<5:=by omega
   have h1:=LA hx j hj5;obtain ⟨u,hu⟩:∃u,(Ac [x])[j]?=some u:=⟨_,zD (by rw [BB];simpa using hj5)⟩;rw [hu]at h1;have h2:=hin.get _ _ h1
   rw [zo]at h2;rw [zo,h2];exact hu.symm
 · rw [AC7]
   show(Ac [x]).length<=j;rw [BB];simp only [zU];omega
theorem X9{α:Type}{xs:List α}(hi:i<xs.length)(x:α):(xs.set i x).take (i+1)=xs.take i++[x]:=by
 rw [AJ0,Am7 hi,List.take_append,zN,AG8 Ao7];rw [AB6 (by rw [zN];omega),show i+1 -i=1 by omega];simp
theorem Lc{j:Nat}(f:AQ->Bool)(hx:rows[j]?=some x):(rows.take (j+1)).filter f=(rows.take j).filter f++(if f x then [x]else []):=by
 rw [Bc hx,AB3];congr 1;rw [AM3,AR3]
theorem NR(h:∀(j:Nat) (y:AQ),rows[j]?=some y->f y=true):rows.filter f=rows:=AN8.2 fun y hy=>by
 obtain ⟨j,hj⟩:=AA1 hy;exact h j y hj
theorem Sb(hv:Dh A v rows)(fid:Nat)(us:List Value)(pd:AQ->Bool)(hcf:∀(args:Array Value) (w:World),(callFunc fid args).run Tryz.prog w= .ok (.enter fid args) w)(hf:∀x:AQ,BJ Tryz.prog fid (.agg #[I4 x.t,I4 x.k,I4 x.v.a,I4 x.v.b,I4 x.v.c]::us).toArray [B] (.bool (pd x))):BJ Tryz.prog 172 #[v,.func (.func fid) #[] us.toArray] [A,B] (I4 (QV pd rows)):=by
 have hml:=mL;obtain ⟨p,cap,rfl,⟨hl,hlc⟩,hg⟩:=id hv;refine Se func172 ntmps172 [0,1] ?_;intro u R;refine Zq<|Zg<|Za Y<|Z0<|Zx<|Zq<|Zq<|Zg<|Zm Y<|Zv (Aa AU4 Y)<|Zm Y<|Z0<|Zx<|AO<|Zb [8,0,1,7] ?_;refine BI (e0:=[(8,_)]) (fun m e H=>∃(i:Nat),m=rows.length -i/\(i<=rows.length/\∀(j:Nat) (y:AQ),j<i->rows[j]?=some y->pd y=false)/\e=[(8,I4 (i:Int))]/\H=[]) (by exact ⟨0,V,⟨zT _,fun j y h=>by omega⟩,V,V⟩) Wp ?_;rintro _ _ _ ⟨i,rfl,⟨hi,hno⟩,rfl,rfl⟩;refine Zq<|Zg<|Zv (Au Y Y)<|Z0<|Zx<|Zq<|Aw Y (fun hlt=>?_) (fun hlt=>?_)
 ·
  obtain ⟨x,hx⟩:∃x,rows[i]?=some x:=⟨_,zD hlt⟩;obtain ⟨g,off,cur,T,zz,rfl,hm9,hsz9,hex9⟩:=hg i x hx;refine AJ<|Zx<|Zq<|AO<|Zq<|Zg<|Zm Y<|Za Y<|Z0<|Zx<|Zq<|Zg<|Zm Y<|Zm Y<|Zm Y<|Bq (Ai AU4 AU5 Y Y Ao7)<|CW (cs:=[(g,.cells cur T zz)]) (by simp [hm9]) (AA (cs:=#[I4 x.t,I4 x.k,I4 x.v.a,I4 x.v.b,I4 x.v.c]) AX3 AU5 Y Ao7 hex9) V rfl ?_;refine Xr [_] Y (hcf) Y V (hf x) ?_;refine Z0<|Zx<|AR Y (fun hpx=>?_) (fun hpx=>?_)
  ·
   refine Zq<|Zg<|Zm Y<|Za Y<|Z0<|Zx<|AC<|Ab<|Zt<|Zt<|Ab<|Zt<|AL V Ai9 Y (by exact ⟨congrArg (Value.int .i64) (oU hno hx hpx).symm,V⟩)
  refine AJ<|A9<|Zx<|Zg<|Ya (n:=1) Y Y<|Zm Y<|Z0<|Zn [8,0,1,7] ?_;refine Ad (e':=[(8,_)]) (by exact ⟨i+1,rfl,⟨by omega,fun j y h1 h2=>by rcases AB1 j i with h9|h9;exact hno j y h9 h2;obtain rfl:j=i:=Ao7;rw [hx]at h2;injection h2 with h2;subst h2;exact hpx⟩,rfl,rfl⟩)
 have ei:i=rows.length:=by omega
 subst ei;refine BG<|Zt<|Zt<|AX<|Zx<|Zq<|Zg<|Za Y<|Z0<|Zx<|AC<|AL V Ai9 Y (by exact ⟨congrArg (Value.int .i64) (oV hno).symm,V⟩)
set_option maxHeartbeats 1000000 in
theorem Ym(hrow:BZ 5 83 v rows.length (Ac rows) s)(hn:rows.length<=1000000000)(fid:Nat)(us:List Value)(pd:AQ->Bool)(hcf:∀(args:Array Value) (w:World),(callFunc fid args).run Tryz.prog w= .ok (.enter fid args) w)(hf:∀x:AQ,BJ Tryz.prog fid (.agg #[I4 x.t,I4 x.k,I4 x.v.a,I4 x.v.b,I4 x.v.c]::us).toArray [B] (.bool (pd x))):BR Tryz.prog 255 #[v,.func (.func fid) #[] us.toArray] [s,B] (fun r H'=>∃s',BZ 5 83 r (rows.filter fun x=>!pd x).length (Ac (rows.filter fun x=>!pd x)) s'/\H'=[s',B]):=by
 have hml:=mL;obtain ⟨p,cap,rfl⟩:=hrow.form;have hU:=D7 hrow Ao7
 refine Se func255 ntmps255 [0,1] ?_;intro u R;refine Zq<|Zg<|Za Y<|Z0<|Zx<|Zq<|Zg<|Zm Y<|Zm Y<|Xr [_,_] Y call172 Y V (Sb hU fid us pd hcf hf) ?_;rcases jT pd rows with⟨e9,hall⟩|⟨k,x0,e9,hx0,hp0,hno⟩
 ·
  rw [e9];refine Za Y<|Z0<|Zx<|Zq<|Zq<|Zg<|Zm Y<|Zv (CL Y Y)<|Z0<|Zx<|Aw Y (fun h1=>?_) (fun h1=>?_)
  ·
   refine Zq<|Zg<|Zm Y<|Za Y<|Z0<|Zx<|AC<|Zt<|AL rfl results255 Y (by exact ⟨_,BO hrow (congrArg List.length (NR fun j y hy=>by rw [hall y (zP hy)];rfl).symm) (congrArg Ac (NR fun j y hy=>by rw [hall y (zP hy)];rfl).symm),rfl⟩)
  exact absurd V h1
 rw [e9];have hk0:=(zF.1 hx0).1
 obtain ⟨g,cap9,cur,z,hv9,rfl,hle9,hin9⟩:=Ee hrow Ao7;injection hv9 with hv1 hv2 hv3
 subst hv1 hv3;refine Za Y<|Z0<|Zx<|Zq<|Zq<|Zg<|Zm Y<|Zv (CL Y Y)<|Z0<|Zx<|Aw Y (fun h2=>?_) (fun h2=>?_)
 ·
  exfalso;omega
 refine AJ<|Zx<|Zq<|Zq<|Zg<|Zm Y<|Ya (n:=1) Y Y<|Za Y<|Z0<|Zx<|AO<|Zb [5,6,0,1] ?_;refine BI (e0:=[(5,_),(6,_)]) (fun m e H=>∃(i j:Nat) (W:List AQ) (cur:Array Value),m=rows.length -j/\((i<j/\j<=rows.length)/\W.length=rows.length/\BZ 5 83 (I6 g rows.length cap) rows.length (Ac W) [(g,.cells cur 83 z)]/\W.take i=(rows.take j).filter (fun x=>!pd x)/\∀t,j<=t->W[t]?=rows[t]?)/\e=[(5,I4 (i:Int)),(6,I4 (j:Int))]/\H=[[(g,.cells cur 83 z)]]) (by exact ⟨k,k+1,rows,cur,rfl,⟨⟨by omega,by omega⟩,rfl,hrow,by rw [Lc _ hx0,hp0];simp only [AK8,AD4,An2,zV];exact (NR (fun j y hy=>by rw [AA7]at hy;split at hy;rw [hno j y Ap7 hy];rfl;cases hy)).symm,fun t _=>rfl⟩,rfl,rfl⟩) Wp ?_;rintro _ _ _ ⟨i,j,W,cur,rfl,⟨hij,hWl,hrW,hWt,hWr⟩,rfl,rfl⟩;obtain ⟨hinW,hcsW,hleW,hcmW,hfrW⟩:=JI hrW;refine Zq<|Zq<|Zg<|Zm Y<|Zm Y<|Zv (Aa AU4 Y)<|Zv (Au Y Y)<|Z0<|Zx<|Aw Y (fun hlt=>?_) (fun hlt=>?_)
 ·
  obtain ⟨x,hx⟩:∃x,rows[j]?=some x:=⟨_,zD hlt⟩;obtain ⟨hsz9,hex9⟩:=YU hinW ((hWr j (zh _)).trans hx);refine AJ<|Zx<|Zq<|AO<|Zq<|Zg<|Zm Y<|Zm Y<|Bq (Ai AU4 AU5 Y Y Ao7)<|Zo Wh (AA (cs:=#[I4 x.t,I4 x.k,I4 x.v.a,I4 x.v.b,I4 x.v.c]) AX3 AU5 Y Ao7 hex9) ?_;refine Ze (Al AW7 #[_,_,_,_,_]) ?_;rintro _ _ ⟨bx,rfl,rfl⟩;refine Xe (Xw AU5 #[I4 x.t,I4 x.k,I4 x.v.a,I4 x.v.b,I4 x.v.c]) ?_;refine Z0<|Zx<|Zq<|Zg<|Zm Y<|Zo Wh (AA (cs:=#[_,_,_,_,_]) AX3 AU5 Y (by(simp;done)) Ap1) ?_;refine Xr [_] Y (hcf) Y V (hf x) ?_;refine Zv (Br Y)<|Z0<|Zn [0,1,5,6,7,29] ?_;refine Zx<|AR Y (fun hpx=>?_) (fun hpx=>?_)
  ·
   have hpx:pd x=false:=by simpa using hpx
   have hrW2:=BO (xs':=Ac (W.set i x)) (Dy (i:=0+i*5) (ys:=Ac [x]) hrW (by rw [BB,BB,zU];omega)) rfl (by rw [zo];exact mW Ao7 x);refine Zq<|Zg<|Zm Y<|Zm Y<|Zo Wh (AA (cs:=#[_,_,_,_,_]) AX3 AU5 Y (by(simp;done)) Ap1) ?_;refine Bq (Ai AU4 AU5 Y Y Ao7)<|Xe (BK AU5 Y Y Ap9 Wu (by exact (rfl:_=Dp cur (0+i*5) (Ac [x]))) Ap3 Ao7 (by exact hfrW)) ?_;refine Z0<|Zx<|Zg<|Zm Y<|Ya (n:=1) Y Y<|Za Y<|Z0<|A9<|Zx<|Zg<|Zm Y<|Ya (n:=1) Y Y<|Za Y<|Z0<|Zn [5,6,0,1] ?_;refine Ad (e':=[(5,_),(6,_)]) (by exact ⟨i+1,j+1,W.set i x,_,rfl,⟨by omega,by rw [AL3];exact hWl,hrW2,by rw [X9 Ao7,hWt,Lc _ hx];simp [hpx],fun t ht=>by rw [List.getElem?_set_ne Ao7];exact hWr t Ao7⟩,rfl,rfl⟩)
  have hpx:pd x=true:=by simpa using hpx
  refine AJ<|A9<|Zx<|Zg<|Zm Y<|Ya (n:=1) Y Y<|Za Y<|Z0<|Zn [5,6,0,1] ?_;refine Ad (e':=[(5,_),(6,_)]) (by exact ⟨i,j+1,W,cur,rfl,⟨by omega,hWl,hrW,by rw [hWt,Lc _ hx];simp [hpx],fun t ht=>hWr t Ao7⟩,rfl,rfl⟩)
 have ej:j=rows.length:=by omega
 subst ej;rw [AA4]at hWt;have hil:(rows.filter fun x=>!pd x).length=i:=by rw [<-hWt,zN];omega
 refine BG<|Zt<|Zt<|AX<|Zx<|Zq<|Zg<|Zm Y<|Zm Y<|Bq (CR AU4 AU5 Y Y Ao7)<|Ze (Nj AU4 (V:Tryz.prog.info? 83=some Tryz.t83) V rfl (by simp [Value.cells,Value.oneCell']) Y Ao7 hcsW hfrW Wo) ?_;rintro _ _ rfl;have hrW3:=UJ (Dy (i:=i*5) (ys:=(Builtin.zeroCells (Value.agg #[I4 0,I4 0,I4 0,I4 0,I4 0]).cells (rows.length -i)).toList) hrW (by rw [AE7,size_zeroCells,BB];show i*5+(rows.length -i)*5<=_;omega)) i Ao7
 refine Z0<|Zx<|Zq<|Zg<|Zm Y<|Zm Y<|Bq (CK AU4 AU5 Y Y Ao7)<|Za Y<|Z0<|Zx<|AC<|AL V results255 Y (by
  refine ⟨_,BO hrW3 hil.symm ?_,V⟩;rw [zM,AC3 (by rw [zN,BB];omega),Fj,hWt])
theorem oP{A Y D:List Value}(hA:A.length=(n+1)*5)(hi:i<=n)(hY:Y.length=5)(hD:D.length=(n -i)*5):(A.take (0+i*5)++Y++A.drop (0+i*5+Y.length)).take (0+(i+1)*5)++D++(A.take (0+i*5)++Y++A.drop (0+i*5+Y.length)).drop (0+(i+1)*5+D.length)=A.take (i*5)++Y++D:=by
 rw [zo,zo,AC3 (by rw [zG,zN];omega),AF1 (by simp only [zG,zN,zO];omega),zV]
theorem jN{A Y D:List Value}(hA:A.length=(n+1)*5)(hi:i<=n)(hY:Y.length=5)(hD:D.length=(n -i)*5):(A.take (0+(i+1)*5)++D++A.drop (0+(i+1)*5+D.length)).take (0+i*5)++Y++(A.take (0+(i+1)*5)++D++A.drop (0+(i+1)*5+D.length)).drop (0+i*5+Y.length)=A.take (i*5)++Y++D:=by
 rw [zo,zo,AF1 (l:=A) Ao7,zV,AE3 (by rw [zN];omega),AJ5,AG8 Ao7,AJ7 (by rw [zN];omega)]
theorem XE(rows:List AQ)(i:Nat)(y:AQ):(Ac rows).take (i*5)++Ac [y]++Ac (rows.drop i)=Ac (rows.take i++[y]++rows.drop i):=by
 rw [Fj,C9,C9]
theorem TD{c:Array Value}(h:CE c 0 (Ac rows))(i:Nat)(hi:i<=rows.length):CE c (0+i*5) (Ac (rows.drop i)):=by
 have h1:=IZ h (i*5) ((rows.length -i)*5) (by rw [BB];omega);rw [Mc,AB6 (by rw [BB,zO];omega)]at h1;exact h1
theorem dQ{c:Array Value}(h:CE c 0 (Ac rows))(i:Nat)(hi:i<=rows.length):CE c 0 (Ac (rows.take i)):=by
 have h1:=IZ h 0 (i*5) (by rw [BB];omega);rw [AI5,Fj]at h1;exact h1
theorem Vy(rows:List AQ)(i:Nat)(hi:i<=rows.length)(y:AQ):(rows.take i++[y]++rows.drop i).length=rows.length+1:=by
 simp only [zG,zN,zO,zU];omega
set_option maxHeartbeats 1000000 in
theorem Y9(hrow:BZ 5 83 v rows.length (Ac rows) s)(hn:rows.length<=1000000000)(i:Nat)(hi:i<=rows.length)(y:AQ)(g2:Nat):BR Tryz.prog 256 #[v,I4 (i:Int),I6 g2 1 1] [s,[(g2,.cells #[I4 y.t,I4 y.k,I4 y.v.a,I4 y.v.b,I4 y.v.c] 83 (0,0))]] (fun r H'=>∃s' s2,BZ 5 83 r (rows.take i++[y]++rows.drop i).length (Ac (rows.take i++[y]++rows.drop i)) s'/\H'=[s',s2,[(g2,.cells #[I4 y.t,I4 y.k,I4 y.v.a,I4 y.v.b,I4 y.v.c] 83 (0,0))]]):=by
 have hml:=mL;obtain ⟨p,cap,rfl⟩:=hrow.form;have hle:=Ew hrow
 refine Se func256 ntmps256 [0,1,2] ?_;intro u R;refine Zq<|Zg<|Za Y<|Z0<|Zx<|Zq<|BV<|Zg<|Zm Y<|Zm Y<|Bq (CR AU4 AU5 Y Y Ao7)<|Z0<|Zx<|Zq<|Zg<|Zm Y<|Zv (Aa AU4 Y)<|Za Y<|Z0<|Zx<|Zq<|Zq<|Zg<|Zm Y<|Zv (DL (n:=0) Y Y)<|Z0<|Zx<|Aw Y (fun h0=>?_) (fun h0=>?_)
 ·
  cases h0
 refine AJ<|Zx<|Zq<|Zg<|Zm Y<|Zv (Aa AU4 Y)<|Za Y<|Z0<|Zx<|Zq<|Zq<|Zg<|Zm Y<|Zm Y<|Zv (DL Y Y)<|Z0<|Zn [0,1,2,7,8,22] ?_;refine Zx<|Aw Y (fun hin=>?_) (fun hin=>?_)
 ·
  refine Zq<|Zg<|Zm Y<|Zm Y<|Ze (Bl (by_:=40) (sz:=5) AU4 (V:Tryz.prog.info? 83=some Tryz.t83) V rfl V rfl Y (hrow) Y (DD 5 g2 1 1 83 (0,0) (Ac [y]) V) Wo Wo (by exact EH _) Ao7 Ao7) ?_;rintro _ _ ⟨sw5,hrw5,rfl⟩;obtain ⟨gw5,cw5,rfl⟩:=hrw5.form;refine Za Y<|Z0<|Zx<|AC<|Zt<|AL V results256 Y (by
   have hin:i=rows.length:=by omega
   subst hin;exact ⟨_,[],BO hrw5 (Vy rows _ (zh _) y).symm (by rw [AA4,AN5,zV,C9]),rfl⟩)
 obtain ⟨g,cap9,cur,z,hv9,rfl,hle9,hin9⟩:=Ee hrow Ao7;injection hv9 with hv1 hv2 hv3
 subst hv1 hv3;obtain ⟨_,hcs,_,hcm,hfr⟩:=JI hrow;refine AJ<|Zx<|Zq<|Zq<|Zg<|Zm Y<|Zm Y<|Ya Y Y<|Zm Y<|Zv (Q8 AU4 Y)<|Zv (Df Y Y)<|Z0<|Zx<|Aw Y (fun hg=>?_) (fun hg=>?_)
 ·
  refine Zq<|Zg<|Zm Y<|Zm Y<|Bq (CK AU4 AU5 Y Y Ao7)<|Zm Y<|Zm Y<|Ya Y Y<|Zm Y<|Yb Y Y ?_;refine Ze (Ka (by_:=40) (sz:=5) (xs:=Ac (rows.take i)) AU4 AV3 (rfl:Tryz.prog.info? 83=some Tryz.t83) rfl rfl rfl rfl Y Y Wh (dQ hin9 i hi) (by rw [BB,zN];omega) Ao7 Ao9 Ao7 Ao7 Ao7) ?_;rintro _ _ ⟨s9,hr9,rfl⟩;rw [show i+(rows.length+1 -i)=rows.length+1 by omega]at hr9;have hAl:=hr9.1
  obtain ⟨g3,cap3,cur3,z3,rfl,rfl,hle3,hin3⟩:=Ee hr9 Ao7;obtain ⟨_,hcs3,_,hcm3,hfr3⟩:=JI hr9;refine Za Y<|Z0<|Zn [0,1,2,7,9] ?_;refine Zx<|Zq<|Zg<|Zm Y<|Zm Y ?_
  (refine Bq (Bh AU4 AU5 Y Y ?_ ?_) ?_;(focus (omega));(focus (omega)))
  refine Zm Y<|Xe (JC (cs:=Ac [y]) AU4 AU5 Y Y Wh Wo ((rfl:CE (#[I4 y.t,I4 y.k,I4 y.v.a,I4 y.v.b,I4 y.v.c]:Array Value) 0 (Ac [y]))) (by rw [BB,zU];omega) (by rw [BB,zU];omega) (hfr3) (EH _)) ?_;refine Z0<|Zx<|Zq<|Az (n:=9) (0::0::0::6::15::0::0::96::255::[]) 256 Ao8 Ao8 V<|An9 0 V (AP Y)<|An9 1 V (AP Y)<|An9 2 V (AP Y)<|An9 3 V (Ei Y Y Ao7) ?_
  (refine Ev (D':=31) 4 (Bh AU4 AU5 Y Y ?_ ?_) ?_;(focus (omega));(focus (omega)))
  refine An9 5 V (AP Y)<|An9 6 V (AP Y) ?_
  (refine Ev (D':=255) 7 (Bh AU4 AU5 Y Y ?_ ?_) ?_;(focus (omega));(focus (omega)))
  refine Yw 8 511 rfl (JC (cs:=Ac (rows.drop i)) AU4 AU5 Y Y Wh Wo (TD hin9 i hi) (by rw [BB,zO];omega) (by rw [BB,zO,Fp (by rw [BB,zU];omega)];omega) (by rw [Fp (by rw [BB,zU];omega)];exact hfr3) (EH _)) ?_;rintro _ _ ⟨rfl,rfl⟩;refine Ag<|Zn [9] ?_;refine Zx<|Zq<|Zg<|Zm Y<|Za Y<|Z0<|Zx<|AC<|Zt<|AL V results256 Y (by
   refine ⟨_,[(g,.cells cur 83 z)],BO (Dy (i:=0+(i+1)*5) (ys:=Ac (rows.drop i)) (Dy (i:=0+i*5) (ys:=Ac [y]) hr9 (by rw [hAl,BB,zU];omega)) ?_) (Vy rows i hi y).symm ?_,rfl⟩
   · simp only [zG,zN,zO,hAl,BB,zU];omega
   · rw [oP hAl hi (by rw [BB];rfl) (by rw [BB,zO]),AC3 (by rw [BB,zN];omega),<-Fj,XE])
 refine AJ<|Zx<|Zq ?_;obtain ⟨ys9,hyl9,hrM⟩:=UH hrow (rows.length+1) Ao7 Ao7;have hAl:=hrM.1
 refine Zg<|Zm Y<|Zm Y<|Zm Y<|Ya Y Y ?_;refine Bq (CK AU4 AU5 Y Y Ao7)<|Za Y<|Z0<|Zx<|Zq<|Zq<|vO (s1:=[(g2,_)]) (s2:=[(g,_)]) (a:=g2) (b:=g) Wo Wo (zI.2 V) (zI.2 V) (fun hne9=>?_);refine Zg<|Zm Y<|Zm Y<|Zm Y<|Zm Y<|Ya Y Y ?_
 (refine Bq (Bh AU4 AU5 Y Y ?_ ?_) ?_;(focus (omega));(focus (omega)))
 refine CW (cs:=[(g2,.cells #[I4 y.t,I4 y.k,I4 y.v.a,I4 y.v.b,I4 y.v.c] 83 (0,0)),(g,.cells cur 83 z)]) Ap0 (Rw (tR:=4) func294 Ao8 Ao8 Ao8 Ao8 AU4 AU5 Y hne9 Ao7) V rfl ?_;refine Zv (Br Y)<|Z0<|Zn [0,1,2,7,8,68] ?_;refine Zx<|AR Y (fun hb9=>?_) (fun hb9=>?_)
 ·
  refine Zq<|Az (n:=9) (0::0::0::6::15::0::0::96::255::[]) 256 Ao8 Ao8 V<|An9 0 V (AP Y)<|An9 1 V (AP Y)<|An9 2 V (AP Y)<|An9 3 V (Ei Y Y Ao7) ?_
  (refine Ev (D':=31) 4 (Bh AU4 AU5 Y Y ?_ ?_) ?_;(focus (omega));(focus (omega)))
  refine An9 5 V (AP Y)<|An9 6 V (AP Y) ?_
  (refine Ev (D':=255) 7 (Bh AU4 AU5 Y Y ?_ ?_) ?_;(focus (omega));(focus (omega)))
  refine Yw 8 511 rfl (JC (cs:=Ac (rows.drop i)) AU4 AU5 Y Y Wh Wo (TD hin9 i hi) (by rw [BB,zO];omega) (by rw [BB,zO];omega) (hfr) (EH _)) ?_;rintro _ _ ⟨rfl,rfl⟩;refine Ag<|Zx<|Zq<|Zg<|Zm Y<|Zm Y ?_
  (refine Bq (Bh AU4 AU5 Y Y ?_ ?_) ?_;(focus (omega));(focus (omega)))
  refine Zm Y<|Xe (JC (cs:=Ac [y]) AU4 AU5 Y Y Wh Wo ((rfl:CE (#[I4 y.t,I4 y.k,I4 y.v.a,I4 y.v.b,I4 y.v.c]:Array Value) 0 (Ac [y]))) (by rw [BB,zU];omega) (by rw [BB,zU,Fp (by rw [BB,zO];omega)];omega) (by rw [Fp (by rw [BB,zO];omega)];exact hfr) (EH _)) ?_;refine Z0<|Zn [0] ?_;refine Zx<|Zq<|Zg<|Zm Y<|Za Y<|Z0<|Zx<|AC<|Zt<|AL V results256 Y (by
   refine ⟨_,[],BO (Dy (i:=0+i*5) (ys:=Ac [y]) (Dy (i:=0+(i+1)*5) (ys:=Ac (rows.drop i)) hrM (by rw [hAl,BB,zO];omega)) ?_) (Vy rows i hi y).symm ?_,rfl⟩
   · simp only [zG,zN,zO,BB,hyl9,zU];omega
   · rw [jN hAl hi (by rw [BB];rfl) (by rw [BB,zO]),AE3 (by rw [BB];omega),XE])
 cases hb9
structure QM where
 kd:Int
 tb:Int
 cl:Int
 lo:Int
 hi:Int
 bq:Int
 ot:Int
deriving DecidableEq
structure Bw where
 rows:List AQ
 val:Int
 fnd:Bool
deriving DecidableEq
def inQ(q:QM)(r:AQ):Bool:=decide (r.t=q.tb/\q.lo<=Be r q.cl/\Be r q.cl<=q.hi)
def BH(q:QM):Prop:=(0<=q.tb/\q.tb<=3)/\(0<=q.cl/\q.cl<=3)/\(-1000000000<=q.lo/\q.lo<=q.hi/\q.hi<=1000000000)/\
 ((q.kd=1/\q.cl=0/\q.lo=q.hi/\(1<=q.lo/\q.lo<=1000000)/\q.bq=0/\q.ot=0)\/((q.kd=2\/q.kd=3)/\q.bq=0/\q.ot=0)\/
  ((q.kd=4\/q.kd=5\/q.kd=6)/\(1<=q.bq/\q.bq<=3)/\q.ot=0)\/(q.kd=7/\(1<=q.bq/\q.bq<=3)/\(0<=q.ot/\q.ot<=3)))
instance(q:QM):Decidable (BH q):=by unfold BH;infer_instance
def Bw.none:Bw:=⟨[],0,false⟩
def Kw(ms:List Int):Int:=ms.foldl (·+·) 0
def E8(lt:Int->Int->Bool)(ms:List Int):Bw:=ms.foldl (fun r n=>⟨r.rows,if !r.fnd||lt n r.val then n else r.val,true⟩) Bw.none
def DJ(q:QM)(others:List AQ)(k:Int):Option AQ:=others.find? (fun x=>decide (x.t=q.ot/\x.k=k))
def IK(q:QM)(others:List AQ)(r:AQ):List AQ:=match DJ q others (Be r q.bq)with
 |some x=>[r,x]
 |none=>[]
def IL(q:QM)(rows others:List AQ):List AQ:=rows.flatMap (IK q others)
def Cg(q:QM)(rows:List AQ):List Int:=rows.map fun r=>Be r q.bq
def F8(q:QM)(rows others:List AQ):Bw:=
 if q.kd=3 then⟨[],rows.length,false⟩else if q.kd=4 then⟨[],Kw (Cg q rows),false⟩
 else if q.kd=5 then E8 (fun a b=>decide (a<b)) (Cg q rows)else if q.kd=6 then E8 (fun a b=>decide (b<a)) (Cg q rows)
 else if q.kd=7 then⟨IL q rows others,0,false⟩else⟨rows,0,false⟩
def CF(rs:List AQ)(q:QM):List AQ:=DY rs q.tb q.cl.toNat q.lo q.hi
def Cc(rs:List AQ)(q:QM):Bw:=F8 q (CF rs q) (Ht rs q.ot)
def iX(c:Chg):List AQ:=if c.had then [⟨c.t,c.k,c.o⟩]else []
def Gx(q:QM)(b:Bool)(r:AQ):Option AQ:=if b&&inQ q r then some r else none
def bfQ(q:QM)(c:Chg):Option AQ:=Gx q c.had ⟨c.t,c.k,c.o⟩
def afQ(q:QM)(c:Chg):Option AQ:=Gx q c.has ⟨c.t,c.k,c.n⟩
def mQ(q:QM):Option AQ->Int
 |some r=>Be r q.bq
 |none=>0
def NZ(q:QM)(c:Chg):Bool:=(bfQ q c).isSome||(afQ q c).isSome
def Tn(q:QM)(c:Chg):Bool:=(bfQ q c).isSome !=(afQ q c).isSome
def CU(q:QM)(c:Chg):Bool:=
 if q.kd=1\/q.kd=2 then NZ q c else if q.kd=3 then Tn q c else if q.kd=4 then decide (mQ q (bfQ q c)≠mQ q (afQ q c))
 else if q.kd=5\/q.kd=6 then Tn q c||decide (mQ q (bfQ q c)≠mQ q (afQ q c))else NZ q c||decide (c.t=q.ot)
theorem PP{c:Chg}(hf:IG rs c):∃A B,rs=A++iX c++B/\Es rs c=A++QQ c++B:=by
 refine ⟨rs.take (Gt rs c.t c.k),(rs.drop (Gt rs c.t c.k)).drop (if c.had then 1 else 0),?_,V⟩;unfold iX;cases hh:c.had with
 |false=>simp
 |true=>
  have h1:(KO rs c.t c.k).2=true:=by rw [hf.1,hh]
  obtain ⟨r,hr,hi,hp,he⟩:=Jv h1;have hv:=hf.2 h1
  rw [he]at hv;have e:r=⟨c.t,c.k,c.o⟩:=by
   obtain ⟨t,k,v⟩:=r;obtain ⟨h5,h6⟩:=hi;simp only at h5 h6 hv;subst h5 h6 hv;rfl
  rw [e]at hp;obtain ⟨hk,hp2⟩:=zF.1 hp;simp only [An4,zM];conv=>lhs;rw [<-AB4 (Gt rs c.t c.k) rs,AD0 hk,hp2]
  rw [AC2,AD0 hk];rfl
variable{q:QM}
theorem vK(h:BH q)(r:AQ):inR q.tb q.cl.toNat q.lo q.hi r=inQ q r:=by
 have hc:=h.2.1;have:=Kr r q.cl.toNat Ao7
 rw [show((q.cl.toNat:Nat):Int)=q.cl by omega]at this;unfold inR inQ;rw [this]
theorem Pt(h:BH q)(rs:List AQ):CF rs q=(rs.filter (inQ q)).foldl (YC q.cl.toNat) []:=by
 unfold CF DY;rw [AN0 fun r _=>vK h r]
theorem Gn(h:BH q)(rs:List AQ):(CF rs q).Perm (rs.filter (inQ q)):=by
 have:=EI rs q.tb q.cl.toNat q.lo q.hi;rwa [AN0 fun r _=>vK h r]at this
theorem SB(q:QM)(c:Chg):(iX c).filter (inQ q)=(bfQ q c).toList:=by
 unfold iX bfQ Gx;cases c.had with
 |false=>rfl
 |true=>simp only [An4,AJ1,AM3,AR3];split<;>rfl
theorem SE(q:QM)(c:Chg):(QQ c).filter (inQ q)=(afQ q c).toList:=by
 unfold QQ afQ Gx;cases c.has with
 |false=>rfl
 |true=>simp only [An4,AJ1,AM3,AR3];split<;>rfl
def JX:List Int->Int
 |[]=>0
 |x::l=>x+JX l
theorem M8(l:List Int):∀a,l.foldl (·+·) a=a+JX l:=by
 induction l with
 |nil=>intro a;simp [JX]
 |cons x l ih=>intro a;rw [AI6,ih];simp only [JX];omega
theorem X4(a b:List Int):JX (a++b)=JX a+JX b:=by
 induction a with
 |nil=>simp [JX]
 |cons x a ih=>simp only [AF3,JX,ih];omega
theorem Ll{a b:List Int}(h:a.Perm b):JX a=JX b:=by
 induction h with
 |nil=>rfl
 |cons x _ ih=>simp only [JX,ih]
 |swap x y l=>simp only [JX];omega
 |trans _ _ ih1 ih2=>exact ih1.trans ih2
theorem uR(lt:Int->Int->Bool)(hlt:∀a b c,lt b a=false->lt c b=false->lt c a=false)(hirr:∀a,lt a a=false)(hasy:∀a b,lt a b=true->lt b a=false)(l:List Int):∀(m:Int),∃x,(x=m\/x∈l)/\lt m x=false/\(∀y∈l,lt y x=false)/\l.foldl (fun(r:Bw) n=>(⟨r.rows,if !r.fnd||lt n r.val then n else r.val,true⟩:Bw)) ⟨[],m,true⟩=⟨[],x,true⟩:=by
 induction l with
 |nil=>intro m;exact ⟨m,.inl rfl,hirr m,by simp,rfl⟩
 |cons z l ih=>
  intro m;rw [AI6];cases hz:lt z m with
  |true=>
   obtain ⟨x,h1,h2,h3,h4⟩:=ih z;simp only [AK8,AS6,hz,An4];refine ⟨x,.inr (by rcases h1 with h|h;rw [h];simp;exact zW _ h),hlt x z m h2 (hasy z m hz),fun y hy=>?_,h4⟩;rcases za.1 hy with rfl|hy
   · exact h2
   · exact h3 y hy
  |false=>
   obtain ⟨x,h1,h2,h3,h4⟩:=ih m;simp only [AK8,AS6,hz,AD4,An2];refine ⟨x,by rcases h1 with h|h;exact .inl h;exact .inr (zW _ h),h2,fun y hy=>?_,h4⟩;rcases za.1 hy with rfl|hy
   · exact hlt x m y h2 hz
   · exact h3 y hy
theorem Jw(lt:Int->Int->Bool)(hlt:∀a b c,lt b a=false->lt c b=false->lt c a=false)(hirr:∀a,lt a a=false)(hasy:∀a b,lt a b=true->lt b a=false)(z:Int)(l:List Int):∃x∈z::l,(∀y∈z::l,lt y x=false)/\E8 lt (z::l)=⟨[],x,true⟩:=by
 obtain ⟨x,h1,h2,h3,h4⟩:=uR lt hlt hirr hasy l z;refine ⟨x,by rcases h1 with h|h;rw [h];simp;exact zW _ h,fun y hy=>?_,?_⟩
 · rcases za.1 hy with rfl|hy
   · exact h2
   · exact h3 y hy
 · unfold E8
   rw [AI6];exact h4
theorem Oa(lt:Int->Int->Bool)(hlt:∀a b c,lt b a=false->lt c b=false->lt c a=false)(hirr:∀a,lt a a=false)(hasy:∀a b,lt a b=true->lt b a=false)(htot:∀a b,lt a b=false->lt b a=false->a=b){l l':List Int}(h:∀y,y∈l↔y∈l'):E8 lt l=E8 lt l':=by
 match l,l',h with
 |[],[],_=>rfl
 |[],y::l',h=>have:=(h y).2 Ap0;cases this
 |y::l,[],h=>have:=(h y).1 Ap0;cases this
 |y::l,y'::l',h=>
  obtain ⟨x,a1,a2,a3⟩:=Jw lt hlt hirr hasy y l;obtain ⟨x',b1,b2,b3⟩:=Jw lt hlt hirr hasy y' l';rw [a3,b3,htot x x' (b2 x ((h x).1 a1)) (a2 x' ((h x').2 b1))]
theorem dx{c:Chg}(hf:IG rs c)(h:c.t≠t):Ht (Es rs c) t=Ht rs t:=by
 obtain ⟨A,B,e1,e2⟩:=PP hf;have z1:(iX c).filter (inT t)=[]:=by
  unfold iX;split
  · simp [inT,h]
  · rfl
 have z2:(QQ c).filter (inT t)=[]:=by
  unfold QQ;split
  · simp [inT,h]
  · rfl
 unfold Ht;rw [e2];conv=>rhs;rw [e1]
 simp only [AB3,z1,z2,zV]
theorem Qy{o:Option AQ}(h:o.isSome=false):o.toList=[]:=by
 cases o with
 |none=>rfl
 |some x=>cases h
theorem pR{c:Chg}(hq:BH q)(hf:IG rs c)(h:CU q c=false):Cc (Es rs c) q=Cc rs q:=by
 obtain ⟨A,B,e1,e2⟩:=PP hf;have f1:rs.filter (inQ q)=A.filter (inQ q)++(bfQ q c).toList++B.filter (inQ q):=by
  conv=>lhs;rw [e1]
  rw [AB3,AB3,SB]
 have f2:(Es rs c).filter (inQ q)=A.filter (inQ q)++(afQ q c).toList++B.filter (inQ q):=by
  rw [e2,AB3,AB3,SE]
 have p1:=Gn hq rs;have p2:=Gn hq (Es rs c)
 rw [f1]at p1;rw [f2]at p2;have same:(bfQ q c).isSome=false->(afQ q c).isSome=false->CF (Es rs c) q=CF rs q:=fun h1 h2=>by
  rw [Pt hq,Pt hq,f1,f2,Qy h1,Qy h2]
 unfold CU at h;unfold Cc F8;split at h
 · rename_i hk
   unfold NZ at h;rw [AL6]at h;rw [same h.1 h.2,Am6 Ao7,Am6 Ao7,Am6 Ao7,Am6 Ao7,Am6 Ao7,Am6 Ao7,Am6 Ao7,Am6 Ao7,Am6 Ao7,Am6 Ao7]
 · split at h
   · rename_i hk
     rw [Am7 hk,Am7 hk];have hl:(CF (Es rs c) q).length=(CF rs q).length:=by
      rw [p1.length_eq,p2.length_eq];simp only [zG];unfold Tn at h;cases hb:bfQ q c<;>cases ha:afQ q c<;>simp [hb,ha]at h⊢
     rw [hl]
   · split at h
     · rename_i hk3 hk
       rw [Am6 hk3,Am6 hk3,Am7 hk,Am7 hk];have hs:Kw (Cg q (CF (Es rs c) q))=Kw (Cg q (CF rs q)):=by
        unfold Kw Cg;rw [M8,M8,Ll (p1.map _),Ll (p2.map _)];simp only [zK,X4];have hm:=An3 h
        have key:∀o:Option AQ,JX (o.toList.map fun r=>Be r q.bq)=mQ q o:=fun o=>by
         cases o with
         |none=>rfl
         |some x=>simp [JX,mQ]
        rw [key,key];omega
       rw [hs]
     · split at h
       · rename_i hk3 hk4 hk
         rw [AL6]at h;have hm:=An3 h.2
         have hone:=h.1;have hmem:∀y,y∈Cg q (CF (Es rs c) q)↔y∈Cg q (CF rs q):=fun y=>by
          unfold Cg;rw [(p1.map _).mem_iff,(p2.map _).mem_iff];unfold Tn at hone;cases hb:bfQ q c<;>cases ha:afQ q c<;>simp [hb,ha]at hone⊢
          simp [hb,ha,mQ]at hm;rw [hm]
         rw [Am6 hk3,Am6 hk3,Am6 hk4,Am6 hk4];rcases hk with hk|hk
         · rw [Am7 hk,Am7 hk]
           exact Oa _ (by intro a b c;simp;omega) (by intro a;simp) (by intro a b;simp;omega) (by intro a b;simp;omega) hmem
         · rw [Am6 (show¬q.kd=5 by omega),Am6 (show¬q.kd=5 by omega),Am7 hk,Am7 hk]
           exact Oa _ (by intro a b c;simp;omega) (by intro a;simp) (by intro a b;simp;omega) (by intro a b;simp;omega) hmem
       · rw [AL6]at h
         have ha:=h.1;unfold NZ at ha;rw [AL6]at ha;rw [same ha.1 ha.2,dx hf (An3 h.2)]
end Go.Proofs.YteaiajghbkenoaaGreatDoor
