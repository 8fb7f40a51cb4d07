/- Sorted lists of rows: what a change does to them. -/
/- The reference of layer 4: Apply. -/
import Derived.Test.YtkdgffcfmgmemaaGreatDoorEz
import Derived.Test.YtkdgffcfmgmemaaGreatDoorLg7
import Derived.Test.YtkdgffcfmgmemaaGreatDoorEx16
set_option linter.unusedVariables false
set_option linter.unusedSimpArgs false
namespace Go.Proofs.YtkdgffcfmgmemaaGreatDoor
open Go.Proofs.Tryz
open Go Go.RowKit Gw
set_option maxRecDepth 100000
attribute [local irreducible] Gw.At Gw.Nx Gw.Ops
theorem Kj:∀(rs:List AP) (t k:Int),BI rs→∃A B,rs=A++B∧A.length=Dm rs t k∧(∀r∈A,r.lt2 t k)∧(∀r∈B,¬r.lt2 t k)
 |[],t,k,_=>⟨[],[],rfl,rfl,by simp,by simp⟩
 |r::rs,t,k,hs=>by
  have hs':=vk.1 hs;by_cases h:r.lt2 t k
  · obtain ⟨A,B,h1,h2,h3,h4⟩:=Kj rs t k hs'.2
    refine ⟨r::A,B,by rw [h1];rfl,?_,?_,h4⟩
    · unfold Dm at*
      rw [wQ,if_pos (by simpa using h),tL,tL,h2]
    · intro x hx
      rcases u7.1 hx with rfl|hx
      · exact h
      · exact h3 x hx
  · refine ⟨[],r::rs,rfl,?_,by simp,?_⟩
    · unfold Dm
      rw [wQ,if_neg (by simpa using h)]
    · intro x hx hc
      rcases u7.1 hx with rfl|hx
      · exact h hc
      · exact h (OP (hs'.1 x hx) hc)
theorem TT{r:AP}{t k:Int}(h:r.is t k):¬r.lt2 t k:=by unfold AP.is AP.lt2 at*;omega
theorem Jo{rs:List AP}{t k:Int}{r:AP}(hs:BI rs)(hr:r∈rs)(h:r.is t k):FX rs t k=(r,true):=by
 obtain ⟨A,B,h1,h2,h3,h4⟩:=Kj rs t k hs;have hB:r∈B:=by
  rw [h1]at hr;rcases tV.1 hr with h9|h9
  · exact absurd (h3 r h9) (TT h)
  · exact h9
 cases B with
 |nil=>cases hB
 |cons b B=>
  have hb:b=r:=by
   rcases u7.1 hB with h9|h9
   · exact h9.symm
   · exfalso
     have hs2:BI (b::B):=by rw [h1]at hs;exact (uw.1 hs).2.1
     have h8:=(vk.1 hs2).1 r h9;have h7:=h4 b (by simp)
     unfold AP.is at h;rw [h.1,h.2]at h8;exact h7 h8
  subst hb;have hg:rs[Dm rs t k]?=some b:=by rw [←h2,h1,vK (tJ _),xN];rfl
  unfold FX;rw [hg];simp only;rw [if_pos h]
theorem OU{rs:List AP}{t k:Int}(h:∀r∈rs,¬r.is t k):FX rs t k=(AP.zero,false):=by
 unfold FX;split
 · rename_i r hr
   rw [if_neg (h r (tK hr))]
 · rfl
theorem J4{rs:List AP}{t k:Int}(h:(FX rs t k).2=true):∃r∈rs,r.is t k∧rs[Dm rs t k]?=some r∧FX rs t k=(r,true):=by
 unfold FX at*;split at h
 · rename_i r hr
   split at h
   · rename_i hi
     exact ⟨r,tK hr,hi,hr,by rw [if_pos hi]⟩
   · cases h
 · cases h
def Fb(rs:List AP)(c:Chg):Prop:=(FX rs c.t c.k).2=c.had∧((FX rs c.t c.k).2=true→(FX rs c.t c.k).1.v=c.o)
def MO(c:Chg):List AP:=if c.has then [⟨c.t,c.k,c.n⟩]else []
def EH(rs:List AP)(c:Chg):List AP:=rs.take (Dm rs c.t c.k)++MO c++(rs.drop (Dm rs c.t c.k)).drop (if c.had then 1 else 0)
theorem NL{c:Chg}{x:AP}:x∈MO c↔c.has=true∧x=⟨c.t,c.k,c.n⟩:=by
 unfold MO;cases c.has<;>simp
theorem O4{rs:List AP}{c:Chg}(hs:BI rs)(hf:Fb rs c):∃A B,EH rs c=A++MO c++B∧(∀x,x∈rs↔x∈A∨x∈B∨(x∈rs∧x.is c.t c.k))∧BI A∧BI B∧(∀r∈A,r.lt2 c.t c.k)∧(∀r∈B,c.t<r.t∨c.t=r.t∧c.k<r.k)∧rs.length=A.length+B.length+(if c.had then 1 else 0):=by
 obtain ⟨A,B,h1,h2,h3,h4⟩:=Kj rs c.t c.k hs;have hsA:BI A:=by rw [h1]at hs;exact (uw.1 hs).1
 have hsB:BI B:=by rw [h1]at hs;exact (uw.1 hs).2.1
 have hta:rs.take (Dm rs c.t c.k)=A:=by rw [←h2,h1,uZ rfl]
 have hdr:rs.drop (Dm rs c.t c.k)=B:=by rw [←h2,h1,wU rfl]
 unfold EH;rw [hta,hdr];have gt_of:∀x∈B,¬x.is c.t c.k→c.t<x.t∨c.t=x.t∧c.k<x.k:=fun x hx hn=>by
  have h9:=h4 x hx;unfold AP.lt2 at h9;unfold AP.is at hn;omega
 cases hh:c.had with
 |false=>
  have hno:∀r∈rs,¬r.is c.t c.k:=fun r hr hi=>by
   have h9:=hf.1;rw [Jo hs hr hi,hh]at h9;cases h9
  refine ⟨A,B,by simp,fun x=>?_,hsA,hsB,h3,fun r hr=>gt_of r hr (hno r (by rw [h1];exact tQ _ hr)),by rw [h1];simp⟩;rw [h1,tV];constructor
  · rintro (h|h)
    · exact .inl h
    · exact .inr (.inl h)
  · rintro (h|h|⟨h,_⟩)
    · exact .inl h
    · exact .inr h
    · exact h
 |true=>
  obtain ⟨r,hr,hi,hp,hg⟩:=J4 (by rw [hf.1,hh]:(FX rs c.t c.k).2=true);have hb:B[0]?=some r:=by rw [←h2,h1,vK (tJ _),xN]at hp;exact hp
  cases B with
  |nil=>cases hb
  |cons b B=>
   injection hb with hb
   subst hb;have hsB2:=vk.1 hsB
   refine ⟨A,B,by simp,fun x=>?_,hsA,hsB2.2,h3,fun x hx=>?_,by rw [h1];simp;omega⟩
   · constructor
     · intro hx
       have hx2:=hx;rw [h1]at hx;rcases tV.1 hx with h|h
       · exact .inl h
       · rcases u7.1 h with rfl|h
         · exact .inr (.inr ⟨hx2,hi⟩)
         · exact .inr (.inl h)
     · rintro (h|h|⟨h,_⟩)
       · rw [h1];exact uG _ h
       · rw [h1];exact tQ _ (uV _ h)
       · exact h
   · have h9:=hsB2.1 x hx
     unfold AP.lt2 at h9;unfold AP.is at hi;omega
theorem FW{rs:List AP}{c:Chg}(hs:BI rs)(hf:Fb rs c)(x:AP):x∈EH rs c↔(x∈rs∧¬x.is c.t c.k)∨(c.has=true∧x=⟨c.t,c.k,c.n⟩):=by
 obtain ⟨A,B,h1,h2,_,_,h3,h4,_⟩:=O4 hs hf;rw [h1,tV,tV,NL];have a9:∀x∈A,¬x.is c.t c.k:=fun x hx hi=>TT hi (h3 x hx)
 have b9:∀x∈B,¬x.is c.t c.k:=fun x hx hi=>by have h9:=h4 x hx;unfold AP.is at hi;omega
 constructor
 · rintro ((h|h)|h)
   · exact .inl ⟨(h2 x).2 (.inl h),a9 x h⟩
   · exact .inr h
   · exact .inl ⟨(h2 x).2 (.inr (.inl h)),b9 x h⟩
 · rintro (⟨h,hn⟩|h)
   · rcases (h2 x).1 h with h9|h9|⟨_,h9⟩
     · exact .inl (.inl h9)
     · exact .inr h9
     · exact absurd h9 hn
   · exact .inl (.inr h)
theorem Iq{rs:List AP}{c:Chg}(hs:BI rs)(hf:Fb rs c):BI (EH rs c):=by
 obtain ⟨A,B,h1,_,hA,hB,h3,h4,_⟩:=O4 hs hf;rw [h1];have lt_of:∀a b:AP,a.lt2 c.t c.k→(c.t<b.t∨c.t=b.t∧c.k<b.k)→a.lt2 b.t b.k:=fun a b ha hb=>by unfold AP.lt2 at*;omega
 refine uw.2 ⟨uw.2 ⟨hA,?_,?_⟩,hB,?_⟩
 · unfold MO;split<;>simp
 · intro a ha b hb
   obtain ⟨_,rfl⟩:=NL.1 hb;exact h3 a ha
 · intro a ha b hb
   rcases tV.1 ha with ha|ha
   · exact lt_of a b (h3 a ha) (h4 b hb)
   · obtain ⟨_,rfl⟩:=NL.1 ha
     have:=h4 b hb;unfold AP.lt2;simp only;omega
theorem mW{rs:List AP}{c:Chg}(hs:BI rs)(hf:Fb rs c):((EH rs c).length:Int)=rs.length+(if c.has then 1 else 0) -(if c.had then 1 else 0):=by
 obtain ⟨A,B,h1,_,_,_,_,_,h5⟩:=O4 hs hf;rw [h1,h5];unfold MO;cases c.has<;>cases c.had<;>simp<;>omega
theorem nJ{rs:List AP}{c:Chg}(hs:BI rs)(hf:Fb rs c){t k:Int}(hne:¬(c.t=t∧c.k=k)):FX (EH rs c) t k=FX rs t k:=by
 cases hg:(FX rs t k).2 with
 |true=>
  obtain ⟨r,hr,hi,_,he⟩:=J4 hg;rw [he];exact Jo (Iq hs hf) ((FW hs hf r).2 (.inl ⟨hr,fun h=>by unfold AP.is at h hi;omega⟩)) hi
 |false=>
  have hno:∀r∈rs,¬r.is t k:=fun r hr hi=>by rw [Jo hs hr hi]at hg;cases hg
  rw [OU hno];refine OU fun r hr hi=>?_;rcases (FW hs hf r).1 hr with⟨h,_⟩|⟨_,rfl⟩
  · exact hno r h hi
  · exact hne hi
def DF(rs:List AP)(cs:List Chg):List AP:=cs.foldl EH rs
theorem EB(rs:List AP)(cs:List Chg)(i:Nat)(c:Chg)(h:cs[i]?=some c):DF rs (cs.take (i+1))=EH (DF rs (cs.take i)) c:=by
 unfold DF;rw [vD,h,wD];rfl
def nW(cs:List Chg):Prop:=∀(i j:Nat) (b c:Chg),i<j→cs[i]?=some b→cs[j]?=some c→b.lt c
theorem ed{a b c:Chg}(h:a.lt b)(h2:b.lt c):a.lt c:=by unfold Chg.lt at*;omega
theorem RG{cs:List Chg}(h:∀(i:Nat) (b c:Chg),cs[i]?=some b→cs[i+1]?=some c→b.lt c):nW cs:=by
 intro i j b c hij hb hc;obtain ⟨d,rfl⟩:∃d,j=i+1+d:=⟨j -(i+1),by omega⟩;clear hij;induction d generalizing c with
 |zero=>exact h i b c hb hc
 |succ d ih=>
  obtain ⟨x,hx⟩:∃x,cs[i+1+d]?=some x:=by
   have:=(sW.1 hc).1;exact ⟨_,sV (by omega)⟩
  exact ed (ih x hx) (h (i+1+d) x c hx hc)
theorem Jp{rs:List AP}{cs:List Chg}(hs:BI rs)(ha:nW cs)(hf:∀c∈cs,Fb rs c):∀i,i≤cs.length→BI (DF rs (cs.take i))∧∀(j:Nat) (c:Chg),i≤j→cs[j]?=some c→Fb (DF rs (cs.take i)) c
 |0,_=>⟨hs,fun j c _ hc=>hf c (tK hc)⟩
 |i+1,hi=>by
  obtain ⟨h1,h2⟩:=Jp hs ha hf i (by omega);obtain ⟨x,hx⟩:∃x,cs[i]?=some x:=⟨_,sV (by omega)⟩;rw [EB rs cs i x hx];have hfx:=h2 i x (tJ _) hx
  refine ⟨Iq h1 hfx,fun j c hj hc=>?_⟩;have hlt:=ha i j x c (by omega) hx hc
  have h9:=h2 j c (by omega) hc;unfold Fb at*;rw [nJ h1 hfx (by unfold Chg.lt at hlt;omega)];exact h9
def Lr(c:Chg):Int:=(if c.has then 1 else 0) -(if c.had then 1 else 0)
def GK(rs:List AP)(cs:List Chg):Int:=cs.foldl (fun n c=>n+Lr c) (rs.length:Int)
theorem Gf(rs:List AP)(cs:List Chg)(i:Nat)(c:Chg)(h:cs[i]?=some c):GK rs (cs.take (i+1))=GK rs (cs.take i)+Lr c:=by
 unfold GK;rw [vD,h,wD];rfl
theorem gN(c:Chg):-1≤Lr c∧Lr c≤1:=by unfold Lr;split<;>split<;>omega
theorem Ms(rs:List AP)(cs:List Chg):∀i,(rs.length:Int) -i≤GK rs (cs.take i)∧GK rs (cs.take i)≤rs.length+i
 |0=>by unfold GK;simp
 |i+1=>by
  have ih:=Ms rs cs i;cases h:cs[i]?with
  |none=>rw [vD,h];simp only [Option.toList,uL];omega
  |some c=>have h9:=gN c;rw [Gf rs cs i c h];omega
theorem MQ{rs:List AP}{cs:List Chg}(hs:BI rs)(ha:nW cs)(hf:∀c∈cs,Fb rs c):∀i,i≤cs.length→((DF rs (cs.take i)).length:Int)=GK rs (cs.take i)
 |0,_=>rfl
 |i+1,hi=>by
  obtain ⟨x,hx⟩:∃x,cs[i]?=some x:=⟨_,sV (by omega)⟩;have ih:=MQ hs ha hf i (by omega)
  obtain ⟨h1,h2⟩:=Jp hs ha hf i (by omega);rw [EB rs cs i x hx,Gf rs cs i x hx,mW h1 (h2 i x (tJ _) hx),ih];unfold Lr;omega
structure M7(rs:List AP)(p rp:Int)(cs:List Chg):Prop where
 ok:EU rp cs
 pos:rp=p+1
 fit:∀c∈cs,Fb rs c
 size:GK rs cs≤2000
theorem Hy{rs:List AP}{cs:List Chg}{i:Nat}{x:Chg}(h:∀c∈cs.take i,Fb rs c)(hx:cs[i]?=some x)(ho:Fb rs x):∀c∈cs.take (i+1),Fb rs c:=by
 rw [vD,hx];intro c hc;rcases tV.1 hc with h9|h9
 · exact h c h9
 · rw [tO.1 h9];exact ho
theorem BZ(a b:List AP):Ac (a++b)=Ac a++Ac b:=by unfold Ac;rw [vQ]
theorem BF:∀(rs:List AP),(Ac rs).length=rs.length*5
 |[]=>rfl
 |r::rs=>by
  have:=BF rs;unfold Ac at*;rw [uX,si,this,tL];simp;omega
theorem DZ(rs:List AP)(k:Nat):(Ac rs).take (k*5)=Ac (rs.take k):=by
 rcases u6 rs.length k with h|h
 · rw [uH (by rw [BF];omega),uH (by omega)]
 · have e:Ac rs=Ac (rs.take k)++Ac (rs.drop k):=by rw [←BZ,uR]
   rw [e,uZ (by rw [BF,su];omega)]
theorem DL(rs:List AP)(k:Nat):(Ac rs).drop (k*5)=Ac (rs.drop k):=by
 rcases u6 rs.length k with h|h
 · rw [vB (by rw [BF];omega),vB (by omega)];rfl
 · have e:Ac rs=Ac (rs.take k)++Ac (rs.drop k):=by rw [←BZ,uR]
   rw [e,wU (by rw [BF,su];omega)]
theorem CJ(rs:List AP):∀u∈Ac rs,u.oneCell'=true:=by
 intro u hu;unfold Ac at hu;obtain ⟨r,_,h⟩:=xD.1 hu;simp only [u7,vM,or_false]at h;rcases h with rfl|rfl|rfl|rfl|rfl<;>rfl
theorem BP{sz:Nat}{e:TypeId}{v:Value}{n n':Nat}{xs xs':List Value}{s:List AR}(h:BX sz e v n xs s)(hn:n=n')(hx:xs=xs'):BX sz e v n' xs' s:=by subst hn hx;exact h
theorem FE{sz:Nat}{e:TypeId}{b:Option Addr}{n c:Nat}{xs:List Value}{s:List AR}(h:BX sz e (.slice b n c) n xs s):n≤c:=by
 obtain ⟨_,⟨hv,h0,_⟩|⟨_,_,_,_,hv,_,h2,_⟩⟩:=h
 · omega
 · injection hv with _ _ hv3;omega
theorem SL(sz:Nat)(b:Option Addr)(c:Nat):M5 sz (.slice b 0 c) 0 [] []:=⟨by simp,.inl ⟨rfl,b,c,rfl⟩⟩
theorem Da(sz g k c:Nat)(e:TypeId)(z:Nat×Nat)(xs:List Value)(h:xs.length=k*sz):M5 sz (I6 g k c) k xs [(g,.cells xs.toArray e z)]:=
 ⟨h,.inr ⟨g,0,c,xs.toArray,e,z,rfl,rfl,by unfold Bw;rw [wI];simp⟩⟩
theorem UN{c:Chg}(h:c.has=true):MO c=[⟨c.t,c.k,c.n⟩]:=if_pos h
theorem UO{c:Chg}(h:c.has=false):MO c=[]:=if_neg (by rw [h];decide)
theorem Z9{rs:List AP}{cs:List Chg}{i:Nat}{x:Chg}(hx:cs[i]?=some x)(h1:x.had=true)(h2:x.has=true):GK rs (cs.take (i+1))=GK rs (cs.take i) -1+1:=by rw [Gf rs cs i x hx];unfold Lr;rw [if_pos h2,if_pos h1];omega
theorem ZA{rs:List AP}{cs:List Chg}{i:Nat}{x:Chg}(hx:cs[i]?=some x)(h1:x.had=true)(h2:x.has=false):GK rs (cs.take (i+1))=GK rs (cs.take i) -1:=by rw [Gf rs cs i x hx];unfold Lr;rw [if_neg (by rw [h2];decide),if_pos h1];omega
theorem ZB{rs:List AP}{cs:List Chg}{i:Nat}{x:Chg}(hx:cs[i]?=some x)(h1:x.had=false)(h2:x.has=true):GK rs (cs.take (i+1))=GK rs (cs.take i)+1:=by rw [Gf rs cs i x hx];unfold Lr;rw [if_pos h2,if_neg (by rw [h1];decide)];omega
theorem ZC{rs:List AP}{cs:List Chg}{i:Nat}{x:Chg}(hx:cs[i]?=some x)(h1:x.had=false)(h2:x.has=false):GK rs (cs.take (i+1))=GK rs (cs.take i):=by rw [Gf rs cs i x hx];unfold Lr;rw [if_neg (by rw [h2];decide),if_neg (by rw [h1];decide)];omega
theorem Vf(sp:Nat)(p rp:Int)(v:Value)(rs:List AP)(sv M:List AR)(q:Option Addr)(capc:Nat)(cs:List Chg)(hrow:BX 5 113 v rs.length (Ac rs) sv)(hO:Di M (.slice q cs.length capc) cs)(hs:BI rs)(hn:rs.length≤2000)(hp:0≤p∧p≤10000):
 CK Tryz.prog 48 #[I5 sp,.agg #[I4 rp,.slice q cs.length capc]] [[(sp,.cells #[v,I4 p] 182 (0,0))],sv,M] (fun r H'=>(M7 rs p rp cs∧∃v' sv',r=I4 0∧BX 5 113 v' (DF rs cs).length (Ac (DF rs cs)) sv'∧H'=[[(sp,.cells #[v',I4 rp] 182 (0,0))],sv',M])∨(¬M7 rs p rp cs∧r=I4 40∧H'=[[(sp,.cells #[v,I4 p] 182 (0,0))],sv,M])):=by
 have hml:=mL;obtain ⟨qv,capv,rfl⟩:=hrow.form;have hRI:=Jb hrow (by omega)
 obtain ⟨p9,cap9,e9,hol,hg⟩:=id hO;injection e9 with e91 e92 e93
 subst e91 e93;refine Se func48 ntmps48 [0,1] ?_;intro u R;refine Zq<|Zg<|Ze (Bx #[_,_]) ?_;rintro _ _ ⟨rb,rfl,rfl⟩;refine Za Y<|Z0<|Zx<|Zq<|Zg<|Zo Wh (Pa #[_,_] isAgg73 sizeOf73 Y) ?_;refine Xr [_] Y call109 Y rfl (O1 rp q capc cs M hO) ?_;refine Za Y<|Z0<|Zx<|Zq<|Zq<|BK (n:=12) (0::1::3::7::15::7::39::103::231::487::1023::2047::[]) 0 (by kernel_rfl) (by kernel_rfl) rfl ?_;refine Zi 1 0 rfl (AJ Y)<|Zi 3 1 rfl (CF Y)<|Zi 7 2 rfl (AJ Y) ?_;refine CQ (t:=23) Y (fun hv=>?_) (fun hv=>?_)
 ·
  first|rw [decide_eq_true hv]|rw [hv]|skip
  refine Yk 15 3 rfl<|Yk 31 4 rfl<|Yk 63 5 rfl<|Yk 127 6 rfl<|Yk 255 7 rfl<|Yk 511 8 rfl<|Yk 1023 9 rfl<|Yk 2047 10 rfl<|Zi 4095 11 rfl (AL Y Y)<|Am ?_;refine Zn [0,3,32] ?_;refine Zx<|CB Y<|Zq<|Zg<|Za Y<|Z0<|Zx<|A9<|Zt ?_;refine AB rfl results48 Y (by exact .inr ⟨fun h=>hv h.ok,rfl,rfl⟩)
 first|rw [decide_eq_false hv]|rw [hv]|skip
 refine Ah (D':=15) 3 Y rfl rfl rfl (Aa (off:=0) underlying73 rfl rfl sizeOf3 Y) ?_;refine Bj (D':=31) 4 Y rfl rfl rfl Wh (Bf isAgg3 Y (by rfl)) ?_;refine Ah (D':=63) 5 Y rfl rfl rfl (AJ Y) ?_;refine Ah (D':=127) 6 Y rfl rfl rfl (E8 Y rfl) ?_;refine Ah (D':=255) 7 Y rfl rfl rfl (Aa (off:=1) underlying182 rfl rfl sizeOf3 Y) ?_;refine Bj (D':=511) 8 Y rfl rfl rfl Wh (Bf isAgg3 Y (by rfl)) ?_
 (refine Ah (D':=1023) 9 Y rfl rfl rfl (JJ Y Y (IntWalk.i64_in _ ?_)) ?_;(focus (omega)))
 refine Ah (D':=2047) 10 Y rfl rfl rfl (IL Y Y) ?_;refine Zi 4095 11 rfl (AA Y Y)<|Am ?_;refine Zn [0,3,32] ?_;refine Zx ?_;refine Ao Y (fun hpos=>?_) (fun hpos=>?_)
 ·
  refine Zq<|Zg<|Za Y<|Z0<|Zx<|A9<|Zt ?_;refine AB rfl results48 Y (by exact .inr ⟨fun h=>hpos h.pos,rfl,rfl⟩)
 refine AC<|Zx<|Zq ?_;have hok:=tq.1 hv
 have hpo:=tq.1 hpos;have hcl:=hok.len
 have hasc:=RG hok.ord;refine Zg<|Zm Y<|Zp Y rfl<|Zh 0 underlying182 rfl rfl sizeOf45 Y<|Zl isAgg45 Y ?_;refine Zv (AU underlying45 Y)<|Za Y<|Z0<|Zx<|Zq<|Zq<|Zg<|Za Y<|Z0<|Zx<|AQ<|Zb [6,7,0,3] ?_;refine Ay (e0:=[(6,_),(7,_)]) (fun m e H=>∃(i:Nat),m=cs.length -i∧(i≤cs.length∧(∀c∈cs.take i,Fb rs c))∧e=[(6,I4 (GK rs (cs.take i))),(7,I4 (i:Int))]∧H=[]) (by exact ⟨0,rfl,⟨tN _,by simp⟩,rfl,rfl⟩) Wp ?_;rintro _ _ _ ⟨i,rfl,⟨hi,hfit⟩,rfl,rfl⟩;have hsl:=Ms rs cs i
 refine Zq<|Zq<|Zg<|Zm Y<|Zh 1 underlying73 rfl rfl sizeOf71 Y<|Zl isAgg71 Y ?_;refine Zv (AU underlying71 Y)<|Zv (Aq Y Y)<|Z0<|Zx ?_;refine Ao Y (fun hlt=>?_) (fun hlt=>?_)
 ·
  refine AC<|Zx<|Zq<|AQ<|Zq ?_;obtain ⟨x,hx⟩:∃x,cs[i]?=some x:=⟨_,sV hlt⟩;obtain ⟨g,off,cur,T,zz,rfl,hm,hsz,hex⟩:=hg i x hx;refine Zg<|Zh 1 underlying73 rfl rfl sizeOf71 Y<|Zl isAgg71 Y ?_;refine Zm Y ?_;refine BM (AZ underlying71 sizeOf77 Y Y (by omega)) ?_;refine Cg (cs:=[(g,.cells cur T zz)]) (by simp [hm]) (Ab (cs:=#[I4 x.t,I4 x.k,.bool x.had,I4 x.o.a,I4 x.o.b,I4 x.o.c,.bool x.has,I4 x.n.a,I4 x.n.b,I4 x.n.c]) isAgg77 sizeOf77 Y (by omega) hex) rfl rfl ?_;refine Ze (Al zeroValue77 #[_,_,_,_,_,_,_,_,_,_]) ?_;rintro _ _ ⟨cb,rfl,rfl⟩;refine Xe (Xw sizeOf77 #[I4 x.t,I4 x.k,.bool x.had,I4 x.o.a,I4 x.o.b,I4 x.o.c,.bool x.has,I4 x.n.a,I4 x.n.b,I4 x.n.c]) ?_;refine Z0<|Zx<|Zq<|Zg<|Zm Y<|Zh 0 underlying77 rfl rfl sizeOf3 Y<|Zl isAgg3 Y ?_;refine Zh 1 underlying77 rfl rfl sizeOf3 Y<|Zl isAgg3 Y ?_;refine Xr [_,_,_] Y call110 Y rfl (iI sp qv capv p x.t x.k rs sv hRI (by omega) hs) ?_;obtain ⟨gr,hgr⟩:∃gr,gr=FX rs x.t x.k:=⟨_,rfl⟩;rw [←hgr];refine Zm Y<|Zd Y rfl<|Zd Y rfl<|Ze (Al zeroValue113 #[_,_,_,_,_]) ?_;rintro _ _ ⟨xb,rfl,rfl⟩;refine Xe (Xw sizeOf113 #[I4 gr.1.t,I4 gr.1.k,I4 gr.1.v.a,I4 gr.1.v.b,I4 gr.1.v.c]) ?_;refine Za Y<|Z0<|Zn [0,3,6,7,8,9,10] ?_;refine Zx<|Zq<|Zq<|Zg<|Zm Y<|Zh 2 underlying77 rfl rfl sizeOf4 Y<|Zl isAgg4 Y ?_;refine Zv (K4 underlying4 Y Y)<|Zm Y ?_;refine Ai (t:=63) Y rfl (fun hd1=>?_) (fun hd1=>?_)
  ·
   refine A7 Y rfl<|A7 Y rfl<|A7 Y rfl<|A7 Y rfl<|A7 Y rfl<|A7 Y rfl<|A7 Y rfl<|A7 Y rfl<|Zv (AL Y Y)<|Z0<|Zn [0,3,6,7,8,72] ?_;refine Zx<|CB Y<|Zq<|Zg<|Za Y<|Z0<|Zx<|A9<|Zt<|AV<|Zt<|Zt<|AV<|Zt ?_;refine AB rfl results48 Y (by exact .inr ⟨fun h=>by have h9:=(h.fit x (tK hx)).1;rw [←hgr]at h9;exact hd1 h9,rfl,rfl⟩)
  refine Zf Y Y<|Zf Y Y ?_;refine Ak (t:=65) Y rfl (fun hd2=>?_) (fun hd2=>?_)
  ·
   refine Yf 2 underlying113 rfl rfl sizeOf75 Y<|D8 Y Wh (Pa #[_,_,_] isAgg75 sizeOf75 Y) rfl rfl ?_;refine Yf 3 underlying77 rfl rfl sizeOf75 Y<|D8 Y Wh (Ab (cs:=#[_,_,_]) isAgg75 sizeOf75 Y (by(simp;done)) (by rfl)) rfl rfl ?_;refine Yg (K5 (by kernel_rfl) underlying75 underlying3 isAgg3 sizeOf3 Y Y) ?_;refine Yg (AL Y Y)<|Zv (AA Y Y)<|Z0<|Zn [0,3,6,7,8,72] ?_;refine Zx ?_;refine Ao Y (fun hd3=>?_) (fun hd3=>?_)
   ·
    refine Zq<|Zg<|Za Y<|Z0<|Zx<|A9<|Zt<|AV<|Zt<|Zt<|AV<|Zt ?_;refine AB rfl results48 Y (by exact .inr ⟨fun h=>by have h9:=(h.fit x (tK hx)).2;rw [←hgr]at h9;exact hd3 (h9 hd2),rfl,rfl⟩)
   refine AC<|Zx<|Zq<|Zq ?_;have hfx:Fb rs x:=by
    unfold Fb;rw [←hgr];refine ⟨by simpa using hd1,fun h=>?_⟩;exact tq.1 hd3
   refine Zg<|Zh 2 underlying77 rfl rfl sizeOf4 Y<|Zl isAgg4 Y ?_;refine Z0<|Zx ?_;refine Af Y (fun hh1=>?_) (fun hh1=>?_)
   ·
    refine Zg<|Zm Y ?_
    (refine BM (GA Y Y (IntWalk.i64_in _ ?_)) ?_;(focus (omega)))
    refine Za Y<|Z0<|Zx<|Zq<|Zg<|Zh 6 underlying77 rfl rfl sizeOf4 Y<|Zl isAgg4 Y ?_;refine Z0<|Zx ?_;refine Af Y (fun hh2=>?_) (fun hh2=>?_)
    ·
     refine Zg<|Zm Y<|Yi Y Y<|Za Y<|Z0<|A8<|Zx<|Zg<|Zm Y<|Ya (n:=1) Y Y<|Za Y<|Z0<|Zn [6,7,0,3] ?_;refine AY (e':=[(6,_),(7,_)]) (by exact ⟨i+1,rfl,⟨by omega,Hy hfit hx hfx⟩,by rw [Z9 hx hh1 hh2],rfl⟩)
    refine AC<|A8<|Zx<|Zg<|Zm Y<|Ya (n:=1) Y Y<|Za Y<|Z0<|Zn [6,7,0,3] ?_;refine AY (e':=[(6,_),(7,_)]) (by exact ⟨i+1,rfl,⟨by omega,Hy hfit hx hfx⟩,by rw [ZA hx hh1 hh2],rfl⟩)
   refine AC<|Zx<|Zq<|Zg<|Zh 6 underlying77 rfl rfl sizeOf4 Y<|Zl isAgg4 Y ?_;refine Z0<|Zx ?_;refine Af Y (fun hh2=>?_) (fun hh2=>?_)
   ·
    refine Zg<|Zm Y<|Yi Y Y<|Za Y<|Z0<|A8<|Zx<|Zg<|Zm Y<|Ya (n:=1) Y Y<|Za Y<|Z0<|Zn [6,7,0,3] ?_;refine AY (e':=[(6,_),(7,_)]) (by exact ⟨i+1,rfl,⟨by omega,Hy hfit hx hfx⟩,by rw [ZB hx hh1 hh2],rfl⟩)
   refine AC<|A8<|Zx<|Zg<|Zm Y<|Ya (n:=1) Y Y<|Za Y<|Z0<|Zn [6,7,0,3] ?_;refine AY (e':=[(6,_),(7,_)]) (by exact ⟨i+1,rfl,⟨by omega,Hy hfit hx hfx⟩,by rw [ZC hx hh1 hh2],rfl⟩)
  refine A7 Y rfl<|A7 Y rfl<|A7 Y rfl<|A7 Y rfl<|A7 Y rfl<|Yg (AA Y Y)<|Zv (AA Y Y)<|Z0<|Zn [0,3,6,7,8,72] ?_;refine Zx<|Dj Y<|AC<|Zx<|Zq<|Zq ?_;have hfx:Fb rs x:=by
   unfold Fb;rw [←hgr];refine ⟨by simpa using hd1,fun h=>?_⟩
   (rw [h]at hd2;cases hd2)
  refine Zg<|Zh 2 underlying77 rfl rfl sizeOf4 Y<|Zl isAgg4 Y ?_;refine Z0<|Zx ?_;refine Af Y (fun hh1=>?_) (fun hh1=>?_)
  ·
   refine Zg<|Zm Y ?_
   (refine BM (GA Y Y (IntWalk.i64_in _ ?_)) ?_;(focus (omega)))
   refine Za Y<|Z0<|Zx<|Zq<|Zg<|Zh 6 underlying77 rfl rfl sizeOf4 Y<|Zl isAgg4 Y ?_;refine Z0<|Zx ?_;refine Af Y (fun hh2=>?_) (fun hh2=>?_)
   ·
    refine Zg<|Zm Y<|Yi Y Y<|Za Y<|Z0<|A8<|Zx<|Zg<|Zm Y<|Ya (n:=1) Y Y<|Za Y<|Z0<|Zn [6,7,0,3] ?_;refine AY (e':=[(6,_),(7,_)]) (by exact ⟨i+1,rfl,⟨by omega,Hy hfit hx hfx⟩,by rw [Z9 hx hh1 hh2],rfl⟩)
   refine AC<|A8<|Zx<|Zg<|Zm Y<|Ya (n:=1) Y Y<|Za Y<|Z0<|Zn [6,7,0,3] ?_;refine AY (e':=[(6,_),(7,_)]) (by exact ⟨i+1,rfl,⟨by omega,Hy hfit hx hfx⟩,by rw [ZA hx hh1 hh2],rfl⟩)
  refine AC<|Zx<|Zq<|Zg<|Zh 6 underlying77 rfl rfl sizeOf4 Y<|Zl isAgg4 Y ?_;refine Z0<|Zx ?_;refine Af Y (fun hh2=>?_) (fun hh2=>?_)
  ·
   refine Zg<|Zm Y<|Yi Y Y<|Za Y<|Z0<|A8<|Zx<|Zg<|Zm Y<|Ya (n:=1) Y Y<|Za Y<|Z0<|Zn [6,7,0,3] ?_;refine AY (e':=[(6,_),(7,_)]) (by exact ⟨i+1,rfl,⟨by omega,Hy hfit hx hfx⟩,by rw [ZB hx hh1 hh2],rfl⟩)
  refine AC<|A8<|Zx<|Zg<|Zm Y<|Ya (n:=1) Y Y<|Za Y<|Z0<|Zn [6,7,0,3] ?_;refine AY (e':=[(6,_),(7,_)]) (by exact ⟨i+1,rfl,⟨by omega,Hy hfit hx hfx⟩,by rw [ZC hx hh1 hh2],rfl⟩)
 have ei:i=cs.length:=by omega
 subst ei;rw [uK]at hfit hsl⊢;refine Ar<|Zt<|Zt<|AO<|Zx<|Zq<|Zq<|Zg<|Zm Y<|Zv (Et Y Y)<|Z0<|Zx ?_;refine Ao Y (fun hbig=>?_) (fun hbig=>?_)
 ·
  refine Zq<|Zg<|Za Y<|Z0<|Zx<|A9<|Zt ?_;refine AB rfl results48 Y (by exact .inr ⟨fun h=>by have h9:=h.size;omega,rfl,rfl⟩)
 refine AC<|Zx<|Zq<|Zq<|Zg<|Za Y<|Z0<|Zx<|AQ<|Zb [11,0,3] ?_;refine Ay (e0:=[(11,_)]) (fun m e H=>∃(i:Nat) (w:Value) (sw:List AR),m=cs.length -i∧(i≤cs.length∧BX 5 113 w (DF rs (cs.take i)).length (Ac (DF rs (cs.take i))) sw)∧e=[(11,I4 (i:Int))]∧H=[[(sp,.cells #[w,I4 p] 182 (0,0))],sw]) (by exact ⟨0,_,sv,rfl,⟨tN _,hrow⟩,rfl,rfl⟩) Wp ?_;rintro _ _ _ ⟨i,w,sw,rfl,⟨hi,hrw⟩,rfl,rfl⟩;obtain ⟨hsq,hfq⟩:=Jp hs hasc hfit i hi;have hlq:=MQ hs hasc hfit i hi
 have hsl:=Ms rs cs i;obtain ⟨qs,hqs⟩:∃qs,qs=DF rs (cs.take i):=⟨_,rfl⟩;rw [←hqs]at hrw hsq hlq hfq;obtain ⟨qw,capw,rfl⟩:=hrw.form;have hcw:=FE hrw
 have hRW:=Jb hrw (by omega);refine Zq<|Zq<|Zg<|Zm Y<|Zh 1 underlying73 rfl rfl sizeOf71 Y<|Zl isAgg71 Y ?_;refine Zv (AU underlying71 Y)<|Zv (Aq Y Y)<|Z0<|Zx ?_;refine Ao Y (fun hlt=>?_) (fun hlt=>?_)
 ·
  refine AC<|Zx<|Zq<|AQ<|Zq ?_;obtain ⟨x,hx⟩:∃x,cs[i]?=some x:=⟨_,sV hlt⟩;obtain ⟨g,off,cur,T,zz,rfl,hm,hsz,hex⟩:=hg i x hx;have hfx:=hfq i x (tJ _) hx
  have hpl:=Su qs x.t x.k;have hput:EH qs x=qs.take (Dm qs x.t x.k)++MO x++(qs.drop (Dm qs x.t x.k)).drop (if x.had then 1 else 0):=rfl
  obtain ⟨k,hk⟩:∃k,k=Dm qs x.t x.k:=⟨_,rfl⟩;have hkt:x.had=true→k<qs.length:=fun h=>by
   obtain ⟨r,_,_,h9,_⟩:=J4 (by rw [hfx.1,h]:(FX qs x.t x.k).2=true);rw [←hk]at h9;exact (sW.1 h9).1
  rw [←hk]at hpl hput;refine Zg<|Zh 1 underlying73 rfl rfl sizeOf71 Y<|Zl isAgg71 Y ?_;refine Zm Y ?_;refine BM (AZ underlying71 sizeOf77 Y Y (by omega)) ?_;refine Cg (cs:=[(g,.cells cur T zz)]) (by simp [hm]) (Ab (cs:=#[I4 x.t,I4 x.k,.bool x.had,I4 x.o.a,I4 x.o.b,I4 x.o.c,.bool x.has,I4 x.n.a,I4 x.n.b,I4 x.n.c]) isAgg77 sizeOf77 Y (by omega) hex) rfl rfl ?_;refine Ze (Al zeroValue77 #[_,_,_,_,_,_,_,_,_,_]) ?_;rintro _ _ ⟨cb,rfl,rfl⟩;refine Xe (Xw sizeOf77 #[I4 x.t,I4 x.k,.bool x.had,I4 x.o.a,I4 x.o.b,I4 x.o.c,.bool x.has,I4 x.n.a,I4 x.n.b,I4 x.n.c]) ?_;refine Z0<|Zx<|Zq<|Zg<|Zm Y<|Zh 0 underlying77 rfl rfl sizeOf3 Y<|Zl isAgg3 Y ?_;refine Zh 1 underlying77 rfl rfl sizeOf3 Y<|Zl isAgg3 Y ?_;refine Xr [_,_,_] Y call111 Y rfl (Vd sp qw capw p x.t x.k qs sw hRW (by omega) hsq) ?_;rw [←hk];refine Za Y<|Z0<|Zn [0,3,11,12,13] ?_;refine Zx<|Zq<|Zg<|Zm Y<|Zp Y rfl<|Zh 0 underlying182 rfl rfl sizeOf45 Y<|Zl isAgg45 Y ?_;refine Zm Y ?_;refine BM (Bz underlying45 sizeOf113 Y Y (by omega)) ?_;refine Za Y<|Z0<|Zx<|Zq<|Zq<|Zg<|Zh 2 underlying77 rfl rfl sizeOf4 Y<|Zl isAgg4 Y ?_;refine Z0<|Zx ?_;refine Af Y (fun hh1=>?_) (fun hh1=>?_)
  ·
   have hkl:=hkt hh1;refine Zg<|Zm Y ?_;refine BM (Bz (l:=1) underlying45 sizeOf113 Y Y (by omega)) ?_;refine Za Y<|Z0<|Zx<|Zq<|Zg<|Za Y<|Z0<|Zn [0,3,11,12,13,14,15] ?_;refine Zx<|Zq<|Zg<|Zo Wh (Pa #[_,_,_,_,_,_,_,_,_,_] isAgg77 sizeOf77 Y) ?_;refine Xr [_] Y call112 Y rfl (QH x) ?_;refine Zm Y<|Zd Y rfl<|Zd Y rfl<|Ze (Al zeroValue113 #[_,_,_,_,_]) ?_;rintro _ _ ⟨xb,rfl,rfl⟩;refine Xe (Xw sizeOf113 #[I4 x.after.t,I4 x.after.k,I4 x.after.v.a,I4 x.after.v.b,I4 x.after.v.c]) ?_;refine Za Y<|Z0<|Zx<|Zq<|Zq<|Zg<|Zm Y<|Z0<|Zx ?_;refine Af Y (fun hh2=>?_) (fun hh2=>?_)
   ·
    refine Zg<|Zo Wh (Pa #[_,_,_,_,_] isAgg113 sizeOf113 Y) ?_;refine Ze (Ae (vs:=[_]) (cs:=[_,_,_,_,_]) underlying45 sizeOf113 zeroValue113 Y rfl rfl rfl rfl rfl) ?_;rintro _ _ ⟨gb,rfl,rfl⟩;refine Za Y<|Z0<|Zx<|Zq<|Zg<|Za Y<|Z0<|Zn [0,3,11,13,14,15,18] ?_;refine Zx<|Zq<|Bd ?_;refine Zg<|Zm Y<|Zm Y<|Zp Y rfl<|Zh 0 underlying182 rfl rfl sizeOf45 Y<|Zl isAgg45 Y ?_;refine Zm Y ?_;refine BM (Bh underlying45 sizeOf113 Y Y (by omega)) ?_;refine Ze (BR (by_:=40) (sz:=5) underlying45 (rfl:Tryz.prog.info? 113=some Tryz.t113) rfl rfl rfl rfl Y (BV 5 _) Y (Ic hrw k _ hpl) Wo Wo (by exact fun u hu=>CJ qs u (ut hu)) (by omega) (by omega)) ?_;rintro _ _ ⟨sa,hra,rfl⟩;obtain ⟨ga,ca,rfl⟩:=hra.form;refine Zm Y ?_;refine Ze (BR (by_:=40) (sz:=5) underlying45 (rfl:Tryz.prog.info? 113=some Tryz.t113) rfl rfl rfl rfl Y (hra) Y (Da 5 gb 1 1 113 (0,0) (Ac [x.after]) rfl) Wo Wo (by exact CJ _) (by omega) (by omega)) ?_;rintro _ _ ⟨sb,hrb,rfl⟩;obtain ⟨gb,cb,rfl⟩:=hrb.form;refine Zm Y ?_;refine Ze (BR (by_:=40) (sz:=5) underlying45 (rfl:Tryz.prog.info? 113=some Tryz.t113) rfl rfl rfl rfl Y (hrb) Y (VB (Ie hrw k (qs.length -k) (capw -k) (by omega)) 1 (qs.length -k -1) _ (by omega) (by omega)) Wo Wo (by exact fun u hu=>CJ qs u (uq (uq hu))) (by omega) (by omega)) ?_;rintro _ _ ⟨sc,hrc,rfl⟩;have hnew:=BP hrc (n':=(EH qs x).length) (xs':=Ac (EH qs x)) (by rw [hput,UN hh2,if_pos hh1,si,si,su,tC,tC];simp only [tL,uz];omega) (by rw [hput,UN hh2,if_pos hh1,BZ,BZ,←DZ,←DL (qs.drop k) 1,←DL];rw [JQ hh2];rfl)
    obtain ⟨gc,cc,rfl⟩:=hrc.form;refine Za Y<|Z0<|Zn [0,3,11,18] ?_;refine Zx<|Zg<|Zm Y<|Zm Y<|Zp Y rfl<|Zh 0 underlying182 rfl rfl sizeOf45 Y<|Xe (Zs sizeOf45 Y Y rfl) ?_;refine Z0<|A8<|Zx<|Zg<|Zm Y<|Ya (n:=1) Y Y<|Za Y<|Z0<|Zn [11,0,3] ?_;refine AY (e':=[(11,_)]) (by exact ⟨i+1,_,_,rfl,⟨by omega,by rw [EB rs cs i x hx,←hqs];exact hnew⟩,rfl,rfl⟩)
   refine Bd ?_;refine AC<|Zx<|Zq<|Zg<|Za Y<|Z0<|Zx<|Zq<|Bd ?_;refine Zg<|Zm Y<|Zm Y<|Zp Y rfl<|Zh 0 underlying182 rfl rfl sizeOf45 Y<|Zl isAgg45 Y ?_;refine Zm Y ?_;refine BM (Bh underlying45 sizeOf113 Y Y (by omega)) ?_;refine Ze (BR (by_:=40) (sz:=5) underlying45 (rfl:Tryz.prog.info? 113=some Tryz.t113) rfl rfl rfl rfl Y (BV 5 _) Y (Ic hrw k _ hpl) Wo Wo (by exact fun u hu=>CJ qs u (ut hu)) (by omega) (by omega)) ?_;rintro _ _ ⟨sa,hra,rfl⟩;obtain ⟨ga,ca,rfl⟩:=hra.form;refine Zm Y ?_;refine Ze (BR (by_:=40) (sz:=5) underlying45 (rfl:Tryz.prog.info? 113=some Tryz.t113) rfl rfl rfl rfl Y (hra) Y (SL 5 none 0) Wo Wo (by simp) (by omega) (by omega)) ?_;rintro _ _ ⟨sb,hrb,rfl⟩;obtain ⟨gb,cb,rfl⟩:=hrb.form;refine Zm Y ?_;refine Ze (BR (by_:=40) (sz:=5) underlying45 (rfl:Tryz.prog.info? 113=some Tryz.t113) rfl rfl rfl rfl Y (hrb) Y (VB (Ie hrw k (qs.length -k) (capw -k) (by omega)) 1 (qs.length -k -1) _ (by omega) (by omega)) Wo Wo (by exact fun u hu=>CJ qs u (uq (uq hu))) (by omega) (by omega)) ?_;rintro _ _ ⟨sc,hrc,rfl⟩;have hnew:=BP hrc (n':=(EH qs x).length) (xs':=Ac (EH qs x)) (by rw [hput,UO hh2,if_pos hh1,si,si,su,tC,tC];simp only [tL,uz];omega) (by rw [hput,UO hh2,if_pos hh1,BZ,BZ,←DZ,←DL (qs.drop k) 1,←DL];rfl)
   obtain ⟨gc,cc,rfl⟩:=hrc.form;refine Za Y<|Z0<|Zn [0,3,11,18] ?_;refine Zx<|Zg<|Zm Y<|Zm Y<|Zp Y rfl<|Zh 0 underlying182 rfl rfl sizeOf45 Y<|Xe (Zs sizeOf45 Y Y rfl) ?_;refine Z0<|A8<|Zx<|Zg<|Zm Y<|Ya (n:=1) Y Y<|Za Y<|Z0<|Zn [11,0,3] ?_;refine AY (e':=[(11,_)]) (by exact ⟨i+1,_,_,rfl,⟨by omega,by rw [EB rs cs i x hx,←hqs];exact hnew⟩,rfl,rfl⟩)
  refine AC<|Zx<|Zq<|Zg<|Za Y<|Z0<|Zx<|Zq<|Zg<|Zo Wh (Pa #[_,_,_,_,_,_,_,_,_,_] isAgg77 sizeOf77 Y) ?_;refine Xr [_] Y call112 Y rfl (QH x) ?_;refine Zm Y<|Zd Y rfl<|Zd Y rfl<|Ze (Al zeroValue113 #[_,_,_,_,_]) ?_;rintro _ _ ⟨xb,rfl,rfl⟩;refine Xe (Xw sizeOf113 #[I4 x.after.t,I4 x.after.k,I4 x.after.v.a,I4 x.after.v.b,I4 x.after.v.c]) ?_;refine Za Y<|Z0<|Zn [0,3,11,13,14,15,16,17] ?_;refine Zx<|Zq<|Zq<|Zg<|Zm Y<|Z0<|Zx ?_;refine Af Y (fun hh2=>?_) (fun hh2=>?_)
  ·
   refine Zg<|Zo Wh (Pa #[_,_,_,_,_] isAgg113 sizeOf113 Y) ?_;refine Ze (Ae (vs:=[_]) (cs:=[_,_,_,_,_]) underlying45 sizeOf113 zeroValue113 Y rfl rfl rfl rfl rfl) ?_;rintro _ _ ⟨gb,rfl,rfl⟩;refine Za Y<|Z0<|Zx<|Zq<|Zg<|Za Y<|Z0<|Zx<|Zq<|Bd ?_;refine Zg<|Zm Y<|Zm Y<|Zp Y rfl<|Zh 0 underlying182 rfl rfl sizeOf45 Y<|Zl isAgg45 Y ?_;refine Zm Y ?_;refine BM (Bh underlying45 sizeOf113 Y Y (by omega)) ?_;refine Ze (BR (by_:=40) (sz:=5) underlying45 (rfl:Tryz.prog.info? 113=some Tryz.t113) rfl rfl rfl rfl Y (BV 5 _) Y (Ic hrw k _ hpl) Wo Wo (by exact fun u hu=>CJ qs u (ut hu)) (by omega) (by omega)) ?_;rintro _ _ ⟨sa,hra,rfl⟩;obtain ⟨ga,ca,rfl⟩:=hra.form;refine Zm Y ?_;refine Ze (BR (by_:=40) (sz:=5) underlying45 (rfl:Tryz.prog.info? 113=some Tryz.t113) rfl rfl rfl rfl Y (hra) Y (Da 5 gb 1 1 113 (0,0) (Ac [x.after]) rfl) Wo Wo (by exact CJ _) (by omega) (by omega)) ?_;rintro _ _ ⟨sb,hrb,rfl⟩;obtain ⟨gb,cb,rfl⟩:=hrb.form;refine Zm Y ?_;refine Ze (BR (by_:=40) (sz:=5) underlying45 (rfl:Tryz.prog.info? 113=some Tryz.t113) rfl rfl rfl rfl Y (hrb) Y (Ie hrw k (qs.length -k) _ (by omega)) Wo Wo (by exact fun u hu=>CJ qs u (uq hu)) (by omega) (by omega)) ?_;rintro _ _ ⟨sc,hrc,rfl⟩;have hnew:=BP hrc (n':=(EH qs x).length) (xs':=Ac (EH qs x)) (by rw [hput,UN hh2,if_neg (by rw [hh1];decide),si,si,su,tC,tC];simp only [tL,uz];omega) (by rw [hput,UN hh2,if_neg (by rw [hh1];decide),BZ,BZ,←DZ,←DL (qs.drop k) 0,←DL,yD,wI];rw [JQ hh2];rfl)
   obtain ⟨gc,cc,rfl⟩:=hrc.form;refine Za Y<|Z0<|Zn [0,3,11,18] ?_;refine Zx<|Zg<|Zm Y<|Zm Y<|Zp Y rfl<|Zh 0 underlying182 rfl rfl sizeOf45 Y<|Xe (Zs sizeOf45 Y Y rfl) ?_;refine Z0<|A8<|Zx<|Zg<|Zm Y<|Ya (n:=1) Y Y<|Za Y<|Z0<|Zn [11,0,3] ?_;refine AY (e':=[(11,_)]) (by exact ⟨i+1,_,_,rfl,⟨by omega,by rw [EB rs cs i x hx,←hqs];exact hnew⟩,rfl,rfl⟩)
  refine Bd ?_;refine AC<|Zx<|Zq<|Zg<|Za Y<|Z0<|Zx<|Zq<|Bd ?_;refine Zg<|Zm Y<|Zm Y<|Zp Y rfl<|Zh 0 underlying182 rfl rfl sizeOf45 Y<|Zl isAgg45 Y ?_;refine Zm Y ?_;refine BM (Bh underlying45 sizeOf113 Y Y (by omega)) ?_;refine Ze (BR (by_:=40) (sz:=5) underlying45 (rfl:Tryz.prog.info? 113=some Tryz.t113) rfl rfl rfl rfl Y (BV 5 _) Y (Ic hrw k _ hpl) Wo Wo (by exact fun u hu=>CJ qs u (ut hu)) (by omega) (by omega)) ?_;rintro _ _ ⟨sa,hra,rfl⟩;obtain ⟨ga,ca,rfl⟩:=hra.form;refine Zm Y ?_;refine Ze (BR (by_:=40) (sz:=5) underlying45 (rfl:Tryz.prog.info? 113=some Tryz.t113) rfl rfl rfl rfl Y (hra) Y (SL 5 none 0) Wo Wo (by simp) (by omega) (by omega)) ?_;rintro _ _ ⟨sb,hrb,rfl⟩;obtain ⟨gb,cb,rfl⟩:=hrb.form;refine Zm Y ?_;refine Ze (BR (by_:=40) (sz:=5) underlying45 (rfl:Tryz.prog.info? 113=some Tryz.t113) rfl rfl rfl rfl Y (hrb) Y (Ie hrw k (qs.length -k) _ (by omega)) Wo Wo (by exact fun u hu=>CJ qs u (uq hu)) (by omega) (by omega)) ?_;rintro _ _ ⟨sc,hrc,rfl⟩;have hnew:=BP hrc (n':=(EH qs x).length) (xs':=Ac (EH qs x)) (by rw [hput,UO hh2,if_neg (by rw [hh1];decide),si,si,su,tC,tC];simp only [tL,uz];omega) (by rw [hput,UO hh2,if_neg (by rw [hh1];decide),BZ,BZ,←DZ,←DL (qs.drop k) 0,←DL,yD,wI];rfl)
  obtain ⟨gc,cc,rfl⟩:=hrc.form;refine Za Y<|Z0<|Zn [0,3,11,18] ?_;refine Zx<|Zg<|Zm Y<|Zm Y<|Zp Y rfl<|Zh 0 underlying182 rfl rfl sizeOf45 Y<|Xe (Zs sizeOf45 Y Y rfl) ?_;refine Z0<|A8<|Zx<|Zg<|Zm Y<|Ya (n:=1) Y Y<|Za Y<|Z0<|Zn [11,0,3] ?_;refine AY (e':=[(11,_)]) (by exact ⟨i+1,_,_,rfl,⟨by omega,by rw [EB rs cs i x hx,←hqs];exact hnew⟩,rfl,rfl⟩)
 have ei:i=cs.length:=by omega
 subst ei;rw [uK]at hqs;refine Ar<|Zt<|Zt<|AO<|Zx<|Zq<|Zg<|Zm Y<|Zh 0 underlying73 rfl rfl sizeOf3 Y<|Zl isAgg3 Y ?_;refine Zp Y rfl<|Zh 1 underlying182 rfl rfl sizeOf3 Y<|Xe (Zs sizeOf3 Y Y rfl) ?_;refine Z0<|Zx<|Zq<|Zg<|Za Y<|Z0<|Zx<|A9 ?_;refine AB rfl results48 Y (by exact .inl ⟨⟨hok,hpo,hfit,by omega⟩,_,sw,rfl,by rw [←hqs];exact hrw,rfl⟩)
end Go.Proofs.YtkdgffcfmgmemaaGreatDoor
