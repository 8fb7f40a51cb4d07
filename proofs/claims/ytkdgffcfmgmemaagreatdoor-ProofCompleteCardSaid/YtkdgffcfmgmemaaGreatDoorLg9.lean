/- Sorted lists of rows: what a change does to them. -/
/- The reference of layer 4: Apply. -/
import Derived.Test.YtkdgffcfmgmemaaGreatDoorEz
import Derived.Test.YtkdgffcfmgmemaaGreatDoorLg7
import Derived.Test.YtkdgffcfmgmemaaGreatDoorEx16
set_option linter.unusedVariables false
set_option linter.unusedSimpArgs false
namespace Go.Proofs.YtkdgffcfmgmemaaGreatDoor
open Go.Proofs.Tryz
open Go Go.RowKit Gw
set_option maxRecDepth 100000
attribute [local irreducible] Gw.At Gw.Nx Gw.Ops
theorem Kr:∀(rs:List AP) (t k:Int),BI rs→∃A B,rs=A++B∧A.length=Dp rs t k∧(∀r∈A,r.lt2 t k)∧(∀r∈B,¬r.lt2 t k)
 |[],t,k,_=>⟨[],[],rfl,rfl,by simp,by simp⟩
 |r::rs,t,k,hs=>by
  have hs':=wF.1 hs;by_cases h:r.lt2 t k
  · obtain ⟨A,B,h1,h2,h3,h4⟩:=Kr rs t k hs'.2
    refine ⟨r::A,B,by rw [h1];rfl,?_,?_,h4⟩
    · unfold Dp at*
      rw [wW,if_pos (by simpa using h),tX,tX,h2]
    · intro x hx
      rcases uJ.1 hx with rfl|hx
      · exact h
      · exact h3 x hx
  · refine ⟨[],r::rs,rfl,?_,by simp,?_⟩
    · unfold Dp
      rw [wW,if_neg (by simpa using h)]
    · intro x hx hc
      rcases uJ.1 hx with rfl|hx
      · exact h hc
      · exact h (OV (hs'.1 x hx) hc)
theorem Td{r:AP}{t k:Int}(h:r.is t k):¬r.lt2 t k:=by unfold AP.is AP.lt2 at*;omega
theorem Jt{rs:List AP}{t k:Int}{r:AP}(hs:BI rs)(hr:r∈rs)(h:r.is t k):FY rs t k=(r,true):=by
 obtain ⟨A,B,h1,h2,h3,h4⟩:=Kr rs t k hs;have hB:r∈B:=by
  rw [h1]at hr;rcases u7.1 hr with h9|h9
  · exact absurd (h3 r h9) (Td h)
  · exact h9
 cases B with
 |nil=>cases hB
 |cons b B=>
  have hb:b=r:=by
   rcases uJ.1 hB with h9|h9
   · exact h9.symm
   · exfalso
     have hs2:BI (b::B):=by rw [h1]at hs;exact (vD.1 hs).2.1
     have h8:=(wF.1 hs2).1 r h9;have h7:=h4 b (by simp)
     unfold AP.is at h;rw [h.1,h.2]at h8;exact h7 h8
  subst hb;have hg:rs[Dp rs t k]?=some b:=by rw [←h2,h1,vQ (tQ _),xM];rfl
  unfold FY;rw [hg];simp only;rw [if_pos h]
theorem OY{rs:List AP}{t k:Int}(h:∀r∈rs,¬r.is t k):FY rs t k=(AP.zero,false):=by
 unfold FY;split
 · rename_i r hr
   rw [if_neg (h r (tV hr))]
 · rfl
theorem J4{rs:List AP}{t k:Int}(h:(FY rs t k).2=true):∃r∈rs,r.is t k∧rs[Dp rs t k]?=some r∧FY rs t k=(r,true):=by
 unfold FY at*;split at h
 · rename_i r hr
   split at h
   · rename_i hi
     exact ⟨r,tV hr,hi,hr,by rw [if_pos hi]⟩
   · cases h
 · cases h
def Fb(rs:List AP)(c:Chg):Prop:=(FY rs c.t c.k).2=c.had∧((FY rs c.t c.k).2=true→(FY rs c.t c.k).1.v=c.o)
def MV(c:Chg):List AP:=if c.has then [⟨c.t,c.k,c.n⟩]else []
def EI(rs:List AP)(c:Chg):List AP:=rs.take (Dp rs c.t c.k)++MV c++(rs.drop (Dp rs c.t c.k)).drop (if c.had then 1 else 0)
theorem NR{c:Chg}{x:AP}:x∈MV c↔c.has=true∧x=⟨c.t,c.k,c.n⟩:=by
 unfold MV;cases c.has<;>simp
theorem O8{rs:List AP}{c:Chg}(hs:BI rs)(hf:Fb rs c):∃A B,EI rs c=A++MV c++B∧(∀x,x∈rs↔x∈A∨x∈B∨(x∈rs∧x.is c.t c.k))∧BI A∧BI B∧(∀r∈A,r.lt2 c.t c.k)∧(∀r∈B,c.t<r.t∨c.t=r.t∧c.k<r.k)∧rs.length=A.length+B.length+(if c.had then 1 else 0):=by
 obtain ⟨A,B,h1,h2,h3,h4⟩:=Kr rs c.t c.k hs;have hsA:BI A:=by rw [h1]at hs;exact (vD.1 hs).1
 have hsB:BI B:=by rw [h1]at hs;exact (vD.1 hs).2.1
 have hta:rs.take (Dp rs c.t c.k)=A:=by rw [←h2,h1,ul rfl]
 have hdr:rs.drop (Dp rs c.t c.k)=B:=by rw [←h2,h1,wh rfl]
 unfold EI;rw [hta,hdr];have gt_of:∀x∈B,¬x.is c.t c.k→c.t<x.t∨c.t=x.t∧c.k<x.k:=fun x hx hn=>by
  have h9:=h4 x hx;unfold AP.lt2 at h9;unfold AP.is at hn;omega
 cases hh:c.had with
 |false=>
  have hno:∀r∈rs,¬r.is c.t c.k:=fun r hr hi=>by
   have h9:=hf.1;rw [Jt hs hr hi,hh]at h9;cases h9
  refine ⟨A,B,by simp,fun x=>?_,hsA,hsB,h3,fun r hr=>gt_of r hr (hno r (by rw [h1];exact tZ _ hr)),by rw [h1];simp⟩;rw [h1,u7];constructor
  · rintro (h|h)
    · exact .inl h
    · exact .inr (.inl h)
  · rintro (h|h|⟨h,_⟩)
    · exact .inl h
    · exact .inr h
    · exact h
 |true=>
  obtain ⟨r,hr,hi,hp,hg⟩:=J4 (by rw [hf.1,hh]:(FY rs c.t c.k).2=true);have hb:B[0]?=some r:=by rw [←h2,h1,vQ (tQ _),xM]at hp;exact hp
  cases B with
  |nil=>cases hb
  |cons b B=>
   injection hb with hb
   subst hb;have hsB2:=wF.1 hsB
   refine ⟨A,B,by simp,fun x=>?_,hsA,hsB2.2,h3,fun x hx=>?_,by rw [h1];simp;omega⟩
   · constructor
     · intro hx
       have hx2:=hx;rw [h1]at hx;rcases u7.1 hx with h|h
       · exact .inl h
       · rcases uJ.1 h with rfl|h
         · exact .inr (.inr ⟨hx2,hi⟩)
         · exact .inr (.inl h)
     · rintro (h|h|⟨h,_⟩)
       · rw [h1];exact u6 _ h
       · rw [h1];exact tZ _ (ug _ h)
       · exact h
   · have h9:=hsB2.1 x hx
     unfold AP.lt2 at h9;unfold AP.is at hi;omega
theorem FX{rs:List AP}{c:Chg}(hs:BI rs)(hf:Fb rs c)(x:AP):x∈EI rs c↔(x∈rs∧¬x.is c.t c.k)∨(c.has=true∧x=⟨c.t,c.k,c.n⟩):=by
 obtain ⟨A,B,h1,h2,_,_,h3,h4,_⟩:=O8 hs hf;rw [h1,u7,u7,NR];have a9:∀x∈A,¬x.is c.t c.k:=fun x hx hi=>Td hi (h3 x hx)
 have b9:∀x∈B,¬x.is c.t c.k:=fun x hx hi=>by have h9:=h4 x hx;unfold AP.is at hi;omega
 constructor
 · rintro ((h|h)|h)
   · exact .inl ⟨(h2 x).2 (.inl h),a9 x h⟩
   · exact .inr h
   · exact .inl ⟨(h2 x).2 (.inr (.inl h)),b9 x h⟩
 · rintro (⟨h,hn⟩|h)
   · rcases (h2 x).1 h with h9|h9|⟨_,h9⟩
     · exact .inl (.inl h9)
     · exact .inr h9
     · exact absurd h9 hn
   · exact .inl (.inr h)
theorem Ip{rs:List AP}{c:Chg}(hs:BI rs)(hf:Fb rs c):BI (EI rs c):=by
 obtain ⟨A,B,h1,_,hA,hB,h3,h4,_⟩:=O8 hs hf;rw [h1];have lt_of:∀a b:AP,a.lt2 c.t c.k→(c.t<b.t∨c.t=b.t∧c.k<b.k)→a.lt2 b.t b.k:=fun a b ha hb=>by unfold AP.lt2 at*;omega
 refine vD.2 ⟨vD.2 ⟨hA,?_,?_⟩,hB,?_⟩
 · unfold MV;split<;>simp
 · intro a ha b hb
   obtain ⟨_,rfl⟩:=NR.1 hb;exact h3 a ha
 · intro a ha b hb
   rcases u7.1 ha with ha|ha
   · exact lt_of a b (h3 a ha) (h4 b hb)
   · obtain ⟨_,rfl⟩:=NR.1 ha
     have:=h4 b hb;unfold AP.lt2;simp only;omega
theorem mq{rs:List AP}{c:Chg}(hs:BI rs)(hf:Fb rs c):((EI rs c).length:Int)=rs.length+(if c.has then 1 else 0) -(if c.had then 1 else 0):=by
 obtain ⟨A,B,h1,_,_,_,_,_,h5⟩:=O8 hs hf;rw [h1,h5];unfold MV;cases c.has<;>cases c.had<;>simp<;>omega
theorem nR{rs:List AP}{c:Chg}(hs:BI rs)(hf:Fb rs c){t k:Int}(hne:¬(c.t=t∧c.k=k)):FY (EI rs c) t k=FY rs t k:=by
 cases hg:(FY rs t k).2 with
 |true=>
  obtain ⟨r,hr,hi,_,he⟩:=J4 hg;rw [he];exact Jt (Ip hs hf) ((FX hs hf r).2 (.inl ⟨hr,fun h=>by unfold AP.is at h hi;omega⟩)) hi
 |false=>
  have hno:∀r∈rs,¬r.is t k:=fun r hr hi=>by rw [Jt hs hr hi]at hg;cases hg
  rw [OY hno];refine OY fun r hr hi=>?_;rcases (FX hs hf r).1 hr with⟨h,_⟩|⟨_,rfl⟩
  · exact hno r h hi
  · exact hne hi
def DJ(rs:List AP)(cs:List Chg):List AP:=cs.foldl EI rs
theorem EB(rs:List AP)(cs:List Chg)(i:Nat)(c:Chg)(h:cs[i]?=some c):DJ rs (cs.take (i+1))=EI (DJ rs (cs.take i)) c:=by
 unfold DJ;rw [vJ,h,wJ];rfl
def ny(cs:List Chg):Prop:=∀(i j:Nat) (b c:Chg),i<j→cs[i]?=some b→cs[j]?=some c→b.lt c
theorem fE{a b c:Chg}(h:a.lt b)(h2:b.lt c):a.lt c:=by unfold Chg.lt at*;omega
theorem RI{cs:List Chg}(h:∀(i:Nat) (b c:Chg),cs[i]?=some b→cs[i+1]?=some c→b.lt c):ny cs:=by
 intro i j b c hij hb hc;obtain ⟨d,rfl⟩:∃d,j=i+1+d:=⟨j -(i+1),by omega⟩;clear hij;induction d generalizing c with
 |zero=>exact h i b c hb hc
 |succ d ih=>
  obtain ⟨x,hx⟩:∃x,cs[i+1+d]?=some x:=by
   have:=(tH.1 hc).1;exact ⟨_,tF (by omega)⟩
  exact fE (ih x hx) (h (i+1+d) x c hx hc)
theorem Ju{rs:List AP}{cs:List Chg}(hs:BI rs)(ha:ny cs)(hf:∀c∈cs,Fb rs c):∀i,i≤cs.length→BI (DJ rs (cs.take i))∧∀(j:Nat) (c:Chg),i≤j→cs[j]?=some c→Fb (DJ rs (cs.take i)) c
 |0,_=>⟨hs,fun j c _ hc=>hf c (tV hc)⟩
 |i+1,hi=>by
  obtain ⟨h1,h2⟩:=Ju hs ha hf i (by omega);obtain ⟨x,hx⟩:∃x,cs[i]?=some x:=⟨_,tF (by omega)⟩;rw [EB rs cs i x hx];have hfx:=h2 i x (tQ _) hx
  refine ⟨Ip h1 hfx,fun j c hj hc=>?_⟩;have hlt:=ha i j x c (by omega) hx hc
  have h9:=h2 j c (by omega) hc;unfold Fb at*;rw [nR h1 hfx (by unfold Chg.lt at hlt;omega)];exact h9
def M3(c:Chg):Int:=(if c.has then 1 else 0) -(if c.had then 1 else 0)
def GL(rs:List AP)(cs:List Chg):Int:=cs.foldl (fun n c=>n+M3 c) (rs.length:Int)
theorem Gg(rs:List AP)(cs:List Chg)(i:Nat)(c:Chg)(h:cs[i]?=some c):GL rs (cs.take (i+1))=GL rs (cs.take i)+M3 c:=by
 unfold GL;rw [vJ,h,wJ];rfl
theorem gX(c:Chg):-1≤M3 c∧M3 c≤1:=by unfold M3;split<;>split<;>omega
theorem NA(rs:List AP)(cs:List Chg):∀i,(rs.length:Int) -i≤GL rs (cs.take i)∧GL rs (cs.take i)≤rs.length+i
 |0=>by unfold GL;simp
 |i+1=>by
  have ih:=NA rs cs i;cases h:cs[i]?with
  |none=>rw [vJ,h];simp only [Option.toList,uR];omega
  |some c=>have h9:=gX c;rw [Gg rs cs i c h];omega
theorem MX{rs:List AP}{cs:List Chg}(hs:BI rs)(ha:ny cs)(hf:∀c∈cs,Fb rs c):∀i,i≤cs.length→((DJ rs (cs.take i)).length:Int)=GL rs (cs.take i)
 |0,_=>rfl
 |i+1,hi=>by
  obtain ⟨x,hx⟩:∃x,cs[i]?=some x:=⟨_,tF (by omega)⟩;have ih:=MX hs ha hf i (by omega)
  obtain ⟨h1,h2⟩:=Ju hs ha hf i (by omega);rw [EB rs cs i x hx,Gg rs cs i x hx,mq h1 (h2 i x (tQ _) hx),ih];unfold M3;omega
structure MG(rs:List AP)(p rp:Int)(cs:List Chg):Prop where
 ok:EW rp cs
 pos:rp=p+1
 fit:∀c∈cs,Fb rs c
 size:GL rs cs≤2000
theorem Hy{rs:List AP}{cs:List Chg}{i:Nat}{x:Chg}(h:∀c∈cs.take i,Fb rs c)(hx:cs[i]?=some x)(ho:Fb rs x):∀c∈cs.take (i+1),Fb rs c:=by
 rw [vJ,hx];intro c hc;rcases u7.1 hc with h9|h9
 · exact h c h9
 · rw [tq.1 h9];exact ho
theorem BZ(a b:List AP):Ac (a++b)=Ac a++Ac b:=by unfold Ac;rw [vW]
theorem BF:∀(rs:List AP),(Ac rs).length=rs.length*5
 |[]=>rfl
 |r::rs=>by
  have:=BF rs;unfold Ac at*;rw [ui,tJ,this,tX];simp;omega
theorem Da(rs:List AP)(k:Nat):(Ac rs).take (k*5)=Ac (rs.take k):=by
 rcases uI rs.length k with h|h
 · rw [uN (by rw [BF];omega),uN (by omega)]
 · have e:Ac rs=Ac (rs.take k)++Ac (rs.drop k):=by rw [←BZ,uX]
   rw [e,ul (by rw [BF,tL];omega)]
theorem DR(rs:List AP)(k:Nat):(Ac rs).drop (k*5)=Ac (rs.drop k):=by
 rcases uI rs.length k with h|h
 · rw [vH (by rw [BF];omega),vH (by omega)];rfl
 · have e:Ac rs=Ac (rs.take k)++Ac (rs.drop k):=by rw [←BZ,uX]
   rw [e,wh (by rw [BF,tL];omega)]
theorem CL(rs:List AP):∀u∈Ac rs,u.oneCell'=true:=by
 intro u hu;unfold Ac at hu;obtain ⟨r,_,h⟩:=xK.1 hu;simp only [uJ,vS,or_false]at h;rcases h with rfl|rfl|rfl|rfl|rfl<;>rfl
theorem BO{sz:Nat}{e:TypeId}{v:Value}{n n':Nat}{xs xs':List Value}{s:List AR}(h:BV sz e v n xs s)(hn:n=n')(hx:xs=xs'):BV sz e v n' xs' s:=by subst hn hx;exact h
theorem FI{sz:Nat}{e:TypeId}{b:Option Addr}{n c:Nat}{xs:List Value}{s:List AR}(h:BV sz e (.slice b n c) n xs s):n≤c:=by
 obtain ⟨_,⟨hv,h0,_⟩|⟨_,_,_,_,hv,_,h2,_⟩⟩:=h
 · omega
 · injection hv with _ _ hv3;omega
theorem SV(sz:Nat)(b:Option Addr)(c:Nat):MF sz (.slice b 0 c) 0 [] []:=⟨by simp,.inl ⟨rfl,b,c,rfl⟩⟩
theorem DW(sz g k c:Nat)(e:TypeId)(z:Nat×Nat)(xs:List Value)(h:xs.length=k*sz):MF sz (I6 g k c) k xs [(g,.cells xs.toArray e z)]:=
 ⟨h,.inr ⟨g,0,c,xs.toArray,e,z,rfl,rfl,by unfold Bw;rw [wO];simp⟩⟩
theorem UV{c:Chg}(h:c.has=true):MV c=[⟨c.t,c.k,c.n⟩]:=if_pos h
theorem UW{c:Chg}(h:c.has=false):MV c=[]:=if_neg (by rw [h];decide)
theorem ZF{rs:List AP}{cs:List Chg}{i:Nat}{x:Chg}(hx:cs[i]?=some x)(h1:x.had=true)(h2:x.has=true):GL rs (cs.take (i+1))=GL rs (cs.take i) -1+1:=by rw [Gg rs cs i x hx];unfold M3;rw [if_pos h2,if_pos h1];omega
theorem ZG{rs:List AP}{cs:List Chg}{i:Nat}{x:Chg}(hx:cs[i]?=some x)(h1:x.had=true)(h2:x.has=false):GL rs (cs.take (i+1))=GL rs (cs.take i) -1:=by rw [Gg rs cs i x hx];unfold M3;rw [if_neg (by rw [h2];decide),if_pos h1];omega
theorem ZH{rs:List AP}{cs:List Chg}{i:Nat}{x:Chg}(hx:cs[i]?=some x)(h1:x.had=false)(h2:x.has=true):GL rs (cs.take (i+1))=GL rs (cs.take i)+1:=by rw [Gg rs cs i x hx];unfold M3;rw [if_pos h2,if_neg (by rw [h1];decide)];omega
theorem ZI{rs:List AP}{cs:List Chg}{i:Nat}{x:Chg}(hx:cs[i]?=some x)(h1:x.had=false)(h2:x.has=false):GL rs (cs.take (i+1))=GL rs (cs.take i):=by rw [Gg rs cs i x hx];unfold M3;rw [if_neg (by rw [h2];decide),if_neg (by rw [h1];decide)];omega
theorem Vk(sp:Nat)(p rp:Int)(v:Value)(rs:List AP)(sv M:List AR)(q:Option Addr)(capc:Nat)(cs:List Chg)(hrow:BV 5 113 v rs.length (Ac rs) sv)(hO:Dj M (.slice q cs.length capc) cs)(hs:BI rs)(hn:rs.length≤2000)(hp:0≤p∧p≤10000):
 CF Tryz.prog 48 #[I5 sp,.agg #[I4 rp,.slice q cs.length capc]] [[(sp,.cells #[v,I4 p] 182 (0,0))],sv,M] (fun r H'=>(MG rs p rp cs∧∃v' sv',r=I4 0∧BV 5 113 v' (DJ rs cs).length (Ac (DJ rs cs)) sv'∧H'=[[(sp,.cells #[v',I4 rp] 182 (0,0))],sv',M])∨(¬MG rs p rp cs∧r=I4 40∧H'=[[(sp,.cells #[v,I4 p] 182 (0,0))],sv,M])):=by
 have hml:=mL;obtain ⟨qv,capv,rfl⟩:=hrow.form;have hRI:=Jd hrow (by omega)
 obtain ⟨p9,cap9,e9,hol,hg⟩:=id hO;injection e9 with e91 e92 e93
 subst e91 e93;refine Se func48 ntmps48 [0,1] ?_;intro u R;refine Zq<|Zg<|Ze (Bx #[_,_]) ?_;rintro _ _ ⟨rb,rfl,rfl⟩;refine Za Y<|Z0<|Zx<|Zq<|Zg<|Zo Wh (Pa #[_,_] isAgg73 sizeOf73 Y) ?_;refine Xr [_] Y call109 Y rfl (O6 rp q capc cs M hO) ?_;refine Za Y<|Z0<|Zx<|Zq<|Zq<|BJ (n:=12) (0::1::3::7::15::7::39::103::231::487::1023::2047::[]) 0 (by kernel_rfl) (by kernel_rfl) rfl ?_;refine Zi 1 0 rfl (AJ Y)<|Zi 3 1 rfl (CB Y)<|Zi 7 2 rfl (AJ Y) ?_;refine CR (t:=23) Y (fun hv=>?_) (fun hv=>?_)
 ·
  first|rw [decide_eq_true hv]|rw [hv]|skip
  refine Yk 15 3 rfl<|Yk 31 4 rfl<|Yk 63 5 rfl<|Yk 127 6 rfl<|Yk 255 7 rfl<|Yk 511 8 rfl<|Yk 1023 9 rfl<|Yk 2047 10 rfl<|Zi 4095 11 rfl (AL Y Y)<|Am ?_;refine Zn [0,3,32] ?_;refine Zx<|CE Y<|Zq<|Zg<|Za Y<|Z0<|Zx<|A9<|Zt ?_;refine AC rfl results48 Y (by exact .inr ⟨fun h=>hv h.ok,rfl,rfl⟩)
 first|rw [decide_eq_false hv]|rw [hv]|skip
 refine Ag (D':=15) 3 Y rfl rfl rfl (AX (off:=0) underlying73 rfl rfl sizeOf3 Y) ?_;refine Be (D':=31) 4 Y rfl rfl rfl Wh (Bg isAgg3 Y (by rfl)) ?_;refine Ag (D':=63) 5 Y rfl rfl rfl (AJ Y) ?_;refine Ag (D':=127) 6 Y rfl rfl rfl (E5 Y rfl) ?_;refine Ag (D':=255) 7 Y rfl rfl rfl (AX (off:=1) underlying182 rfl rfl sizeOf3 Y) ?_;refine Be (D':=511) 8 Y rfl rfl rfl Wh (Bg isAgg3 Y (by rfl)) ?_
 (refine Ag (D':=1023) 9 Y rfl rfl rfl (JJ Y Y (IntWalk.i64_in _ ?_)) ?_;(focus (omega)))
 refine Ag (D':=2047) 10 Y rfl rfl rfl (IK Y Y) ?_;refine Zi 4095 11 rfl (AA Y Y)<|Am ?_;refine Zn [0,3,32] ?_;refine Zx ?_;refine Ao Y (fun hpos=>?_) (fun hpos=>?_)
 ·
  refine Zq<|Zg<|Za Y<|Z0<|Zx<|A9<|Zt ?_;refine AC rfl results48 Y (by exact .inr ⟨fun h=>hpos h.pos,rfl,rfl⟩)
 refine AB<|Zx<|Zq ?_;have hok:=uG.1 hv
 have hpo:=uG.1 hpos;have hcl:=hok.len
 have hasc:=RI hok.ord;refine Zg<|Zm Y<|Zp Y rfl<|Zh 0 underlying182 rfl rfl sizeOf45 Y<|Zl isAgg45 Y ?_;refine Zv (AU underlying45 Y)<|Za Y<|Z0<|Zx<|Zq<|Zq<|Zg<|Za Y<|Z0<|Zx<|AQ<|Zb [6,7,0,3] ?_;refine Az (e0:=[(6,_),(7,_)]) (fun m e H=>∃(i:Nat),m=cs.length -i∧(i≤cs.length∧(∀c∈cs.take i,Fb rs c))∧e=[(6,I4 (GL rs (cs.take i))),(7,I4 (i:Int))]∧H=[]) (by exact ⟨0,rfl,⟨tY _,by simp⟩,rfl,rfl⟩) Wp ?_;rintro _ _ _ ⟨i,rfl,⟨hi,hfit⟩,rfl,rfl⟩;have hsl:=NA rs cs i
 refine Zq<|Zq<|Zg<|Zm Y<|Zh 1 underlying73 rfl rfl sizeOf71 Y<|Zl isAgg71 Y ?_;refine Zv (AU underlying71 Y)<|Zv (Aq Y Y)<|Z0<|Zx ?_;refine Ao Y (fun hlt=>?_) (fun hlt=>?_)
 ·
  refine AB<|Zx<|Zq<|AQ<|Zq ?_;obtain ⟨x,hx⟩:∃x,cs[i]?=some x:=⟨_,tF hlt⟩;obtain ⟨g,off,cur,T,zz,rfl,hm,hsz,hex⟩:=hg i x hx;refine Zg<|Zh 1 underlying73 rfl rfl sizeOf71 Y<|Zl isAgg71 Y ?_;refine Zm Y ?_;refine BM (AZ underlying71 sizeOf77 Y Y (by omega)) ?_;refine Cf (cs:=[(g,.cells cur T zz)]) (by simp [hm]) (AY (cs:=#[I4 x.t,I4 x.k,.bool x.had,I4 x.o.a,I4 x.o.b,I4 x.o.c,.bool x.has,I4 x.n.a,I4 x.n.b,I4 x.n.c]) isAgg77 sizeOf77 Y (by omega) hex) rfl rfl ?_;refine Ze (Al zeroValue77 #[_,_,_,_,_,_,_,_,_,_]) ?_;rintro _ _ ⟨cb,rfl,rfl⟩;refine Xe (Xw sizeOf77 #[I4 x.t,I4 x.k,.bool x.had,I4 x.o.a,I4 x.o.b,I4 x.o.c,.bool x.has,I4 x.n.a,I4 x.n.b,I4 x.n.c]) ?_;refine Z0<|Zx<|Zq<|Zg<|Zm Y<|Zh 0 underlying77 rfl rfl sizeOf3 Y<|Zl isAgg3 Y ?_;refine Zh 1 underlying77 rfl rfl sizeOf3 Y<|Zl isAgg3 Y ?_;refine Xr [_,_,_] Y call110 Y rfl (iO sp qv capv p x.t x.k rs sv hRI (by omega) hs) ?_;obtain ⟨gr,hgr⟩:∃gr,gr=FY rs x.t x.k:=⟨_,rfl⟩;rw [←hgr];refine Zm Y<|Zd Y rfl<|Zd Y rfl<|Ze (Al zeroValue113 #[_,_,_,_,_]) ?_;rintro _ _ ⟨xb,rfl,rfl⟩;refine Xe (Xw sizeOf113 #[I4 gr.1.t,I4 gr.1.k,I4 gr.1.v.a,I4 gr.1.v.b,I4 gr.1.v.c]) ?_;refine Za Y<|Z0<|Zn [0,3,6,7,8,9,10] ?_;refine Zx<|Zq<|Zq<|Zg<|Zm Y<|Zh 2 underlying77 rfl rfl sizeOf4 Y<|Zl isAgg4 Y ?_;refine Zv (KF underlying4 Y Y)<|Zm Y ?_;refine Ai (t:=63) Y rfl (fun hd1=>?_) (fun hd1=>?_)
  ·
   refine A7 Y rfl<|A7 Y rfl<|A7 Y rfl<|A7 Y rfl<|A7 Y rfl<|A7 Y rfl<|A7 Y rfl<|A7 Y rfl<|Zv (AL Y Y)<|Z0<|Zn [0,3,6,7,8,72] ?_;refine Zx<|CE Y<|Zq<|Zg<|Za Y<|Z0<|Zx<|A9<|Zt<|AV<|Zt<|Zt<|AV<|Zt ?_;refine AC rfl results48 Y (by exact .inr ⟨fun h=>by have h9:=(h.fit x (tV hx)).1;rw [←hgr]at h9;exact hd1 h9,rfl,rfl⟩)
  refine Zf Y Y<|Zf Y Y ?_;refine Ak (t:=65) Y rfl (fun hd2=>?_) (fun hd2=>?_)
  ·
   refine Yf 2 underlying113 rfl rfl sizeOf75 Y<|DC Y Wh (Pa #[_,_,_] isAgg75 sizeOf75 Y) rfl rfl ?_;refine Yf 3 underlying77 rfl rfl sizeOf75 Y<|DC Y Wh (AY (cs:=#[_,_,_]) isAgg75 sizeOf75 Y (by(simp;done)) (by rfl)) rfl rfl ?_;refine Yg (KG (by kernel_rfl) underlying75 underlying3 isAgg3 sizeOf3 Y Y) ?_;refine Yg (AL Y Y)<|Zv (AA Y Y)<|Z0<|Zn [0,3,6,7,8,72] ?_;refine Zx ?_;refine Ao Y (fun hd3=>?_) (fun hd3=>?_)
   ·
    refine Zq<|Zg<|Za Y<|Z0<|Zx<|A9<|Zt<|AV<|Zt<|Zt<|AV<|Zt ?_;refine AC rfl results48 Y (by exact .inr ⟨fun h=>by have h9:=(h.fit x (tV hx)).2;rw [←hgr]at h9;exact hd3 (h9 hd2),rfl,rfl⟩)
   refine AB<|Zx<|Zq<|Zq ?_;have hfx:Fb rs x:=by
    unfold Fb;rw [←hgr];refine ⟨by simpa using hd1,fun h=>?_⟩;exact uG.1 hd3
   refine Zg<|Zh 2 underlying77 rfl rfl sizeOf4 Y<|Zl isAgg4 Y ?_;refine Z0<|Zx ?_;refine Af Y (fun hh1=>?_) (fun hh1=>?_)
   ·
    refine Zg<|Zm Y ?_
    (refine BM (GD Y Y (IntWalk.i64_in _ ?_)) ?_;(focus (omega)))
    refine Za Y<|Z0<|Zx<|Zq<|Zg<|Zh 6 underlying77 rfl rfl sizeOf4 Y<|Zl isAgg4 Y ?_;refine Z0<|Zx ?_;refine Af Y (fun hh2=>?_) (fun hh2=>?_)
    ·
     refine Zg<|Zm Y<|Yi Y Y<|Za Y<|Z0<|A8<|Zx<|Zg<|Zm Y<|Ya (n:=1) Y Y<|Za Y<|Z0<|Zn [6,7,0,3] ?_;refine Ab (e':=[(6,_),(7,_)]) (by exact ⟨i+1,rfl,⟨by omega,Hy hfit hx hfx⟩,by rw [ZF hx hh1 hh2],rfl⟩)
    refine AB<|A8<|Zx<|Zg<|Zm Y<|Ya (n:=1) Y Y<|Za Y<|Z0<|Zn [6,7,0,3] ?_;refine Ab (e':=[(6,_),(7,_)]) (by exact ⟨i+1,rfl,⟨by omega,Hy hfit hx hfx⟩,by rw [ZG hx hh1 hh2],rfl⟩)
   refine AB<|Zx<|Zq<|Zg<|Zh 6 underlying77 rfl rfl sizeOf4 Y<|Zl isAgg4 Y ?_;refine Z0<|Zx ?_;refine Af Y (fun hh2=>?_) (fun hh2=>?_)
   ·
    refine Zg<|Zm Y<|Yi Y Y<|Za Y<|Z0<|A8<|Zx<|Zg<|Zm Y<|Ya (n:=1) Y Y<|Za Y<|Z0<|Zn [6,7,0,3] ?_;refine Ab (e':=[(6,_),(7,_)]) (by exact ⟨i+1,rfl,⟨by omega,Hy hfit hx hfx⟩,by rw [ZH hx hh1 hh2],rfl⟩)
   refine AB<|A8<|Zx<|Zg<|Zm Y<|Ya (n:=1) Y Y<|Za Y<|Z0<|Zn [6,7,0,3] ?_;refine Ab (e':=[(6,_),(7,_)]) (by exact ⟨i+1,rfl,⟨by omega,Hy hfit hx hfx⟩,by rw [ZI hx hh1 hh2],rfl⟩)
  refine A7 Y rfl<|A7 Y rfl<|A7 Y rfl<|A7 Y rfl<|A7 Y rfl<|Yg (AA Y Y)<|Zv (AA Y Y)<|Z0<|Zn [0,3,6,7,8,72] ?_;refine Zx<|Dk Y<|AB<|Zx<|Zq<|Zq ?_;have hfx:Fb rs x:=by
   unfold Fb;rw [←hgr];refine ⟨by simpa using hd1,fun h=>?_⟩
   (rw [h]at hd2;cases hd2)
  refine Zg<|Zh 2 underlying77 rfl rfl sizeOf4 Y<|Zl isAgg4 Y ?_;refine Z0<|Zx ?_;refine Af Y (fun hh1=>?_) (fun hh1=>?_)
  ·
   refine Zg<|Zm Y ?_
   (refine BM (GD Y Y (IntWalk.i64_in _ ?_)) ?_;(focus (omega)))
   refine Za Y<|Z0<|Zx<|Zq<|Zg<|Zh 6 underlying77 rfl rfl sizeOf4 Y<|Zl isAgg4 Y ?_;refine Z0<|Zx ?_;refine Af Y (fun hh2=>?_) (fun hh2=>?_)
   ·
    refine Zg<|Zm Y<|Yi Y Y<|Za Y<|Z0<|A8<|Zx<|Zg<|Zm Y<|Ya (n:=1) Y Y<|Za Y<|Z0<|Zn [6,7,0,3] ?_;refine Ab (e':=[(6,_),(7,_)]) (by exact ⟨i+1,rfl,⟨by omega,Hy hfit hx hfx⟩,by rw [ZF hx hh1 hh2],rfl⟩)
   refine AB<|A8<|Zx<|Zg<|Zm Y<|Ya (n:=1) Y Y<|Za Y<|Z0<|Zn [6,7,0,3] ?_;refine Ab (e':=[(6,_),(7,_)]) (by exact ⟨i+1,rfl,⟨by omega,Hy hfit hx hfx⟩,by rw [ZG hx hh1 hh2],rfl⟩)
  refine AB<|Zx<|Zq<|Zg<|Zh 6 underlying77 rfl rfl sizeOf4 Y<|Zl isAgg4 Y ?_;refine Z0<|Zx ?_;refine Af Y (fun hh2=>?_) (fun hh2=>?_)
  ·
   refine Zg<|Zm Y<|Yi Y Y<|Za Y<|Z0<|A8<|Zx<|Zg<|Zm Y<|Ya (n:=1) Y Y<|Za Y<|Z0<|Zn [6,7,0,3] ?_;refine Ab (e':=[(6,_),(7,_)]) (by exact ⟨i+1,rfl,⟨by omega,Hy hfit hx hfx⟩,by rw [ZH hx hh1 hh2],rfl⟩)
  refine AB<|A8<|Zx<|Zg<|Zm Y<|Ya (n:=1) Y Y<|Za Y<|Z0<|Zn [6,7,0,3] ?_;refine Ab (e':=[(6,_),(7,_)]) (by exact ⟨i+1,rfl,⟨by omega,Hy hfit hx hfx⟩,by rw [ZI hx hh1 hh2],rfl⟩)
 have ei:i=cs.length:=by omega
 subst ei;rw [uQ]at hfit hsl⊢;refine Au<|Zt<|Zt<|AO<|Zx<|Zq<|Zq<|Zg<|Zm Y<|Zv (Ey Y Y)<|Z0<|Zx ?_;refine Ao Y (fun hbig=>?_) (fun hbig=>?_)
 ·
  refine Zq<|Zg<|Za Y<|Z0<|Zx<|A9<|Zt ?_;refine AC rfl results48 Y (by exact .inr ⟨fun h=>by have h9:=h.size;omega,rfl,rfl⟩)
 refine AB<|Zx<|Zq<|Zq<|Zg<|Za Y<|Z0<|Zx<|AQ<|Zb [11,0,3] ?_;refine Az (e0:=[(11,_)]) (fun m e H=>∃(i:Nat) (w:Value) (sw:List AR),m=cs.length -i∧(i≤cs.length∧BV 5 113 w (DJ rs (cs.take i)).length (Ac (DJ rs (cs.take i))) sw)∧e=[(11,I4 (i:Int))]∧H=[[(sp,.cells #[w,I4 p] 182 (0,0))],sw]) (by exact ⟨0,_,sv,rfl,⟨tY _,hrow⟩,rfl,rfl⟩) Wp ?_;rintro _ _ _ ⟨i,w,sw,rfl,⟨hi,hrw⟩,rfl,rfl⟩;obtain ⟨hsq,hfq⟩:=Ju hs hasc hfit i hi;have hlq:=MX hs hasc hfit i hi
 have hsl:=NA rs cs i;obtain ⟨qs,hqs⟩:∃qs,qs=DJ rs (cs.take i):=⟨_,rfl⟩;rw [←hqs]at hrw hsq hlq hfq;obtain ⟨qw,capw,rfl⟩:=hrw.form;have hcw:=FI hrw
 have hRW:=Jd hrw (by omega);refine Zq<|Zq<|Zg<|Zm Y<|Zh 1 underlying73 rfl rfl sizeOf71 Y<|Zl isAgg71 Y ?_;refine Zv (AU underlying71 Y)<|Zv (Aq Y Y)<|Z0<|Zx ?_;refine Ao Y (fun hlt=>?_) (fun hlt=>?_)
 ·
  refine AB<|Zx<|Zq<|AQ<|Zq ?_;obtain ⟨x,hx⟩:∃x,cs[i]?=some x:=⟨_,tF hlt⟩;obtain ⟨g,off,cur,T,zz,rfl,hm,hsz,hex⟩:=hg i x hx;have hfx:=hfq i x (tQ _) hx
  have hpl:=TB qs x.t x.k;have hput:EI qs x=qs.take (Dp qs x.t x.k)++MV x++(qs.drop (Dp qs x.t x.k)).drop (if x.had then 1 else 0):=rfl
  obtain ⟨k,hk⟩:∃k,k=Dp qs x.t x.k:=⟨_,rfl⟩;have hkt:x.had=true→k<qs.length:=fun h=>by
   obtain ⟨r,_,_,h9,_⟩:=J4 (by rw [hfx.1,h]:(FY qs x.t x.k).2=true);rw [←hk]at h9;exact (tH.1 h9).1
  rw [←hk]at hpl hput;refine Zg<|Zh 1 underlying73 rfl rfl sizeOf71 Y<|Zl isAgg71 Y ?_;refine Zm Y ?_;refine BM (AZ underlying71 sizeOf77 Y Y (by omega)) ?_;refine Cf (cs:=[(g,.cells cur T zz)]) (by simp [hm]) (AY (cs:=#[I4 x.t,I4 x.k,.bool x.had,I4 x.o.a,I4 x.o.b,I4 x.o.c,.bool x.has,I4 x.n.a,I4 x.n.b,I4 x.n.c]) isAgg77 sizeOf77 Y (by omega) hex) rfl rfl ?_;refine Ze (Al zeroValue77 #[_,_,_,_,_,_,_,_,_,_]) ?_;rintro _ _ ⟨cb,rfl,rfl⟩;refine Xe (Xw sizeOf77 #[I4 x.t,I4 x.k,.bool x.had,I4 x.o.a,I4 x.o.b,I4 x.o.c,.bool x.has,I4 x.n.a,I4 x.n.b,I4 x.n.c]) ?_;refine Z0<|Zx<|Zq<|Zg<|Zm Y<|Zh 0 underlying77 rfl rfl sizeOf3 Y<|Zl isAgg3 Y ?_;refine Zh 1 underlying77 rfl rfl sizeOf3 Y<|Zl isAgg3 Y ?_;refine Xr [_,_,_] Y call111 Y rfl (Vi sp qw capw p x.t x.k qs sw hRW (by omega) hsq) ?_;rw [←hk];refine Za Y<|Z0<|Zn [0,3,11,12,13] ?_;refine Zx<|Zq<|Zg<|Zm Y<|Zp Y rfl<|Zh 0 underlying182 rfl rfl sizeOf45 Y<|Zl isAgg45 Y ?_;refine Zm Y ?_;refine BM (Bz underlying45 sizeOf113 Y Y (by omega)) ?_;refine Za Y<|Z0<|Zx<|Zq<|Zq<|Zg<|Zh 2 underlying77 rfl rfl sizeOf4 Y<|Zl isAgg4 Y ?_;refine Z0<|Zx ?_;refine Af Y (fun hh1=>?_) (fun hh1=>?_)
  ·
   have hkl:=hkt hh1;refine Zg<|Zm Y ?_;refine BM (Bz (l:=1) underlying45 sizeOf113 Y Y (by omega)) ?_;refine Za Y<|Z0<|Zx<|Zq<|Zg<|Za Y<|Z0<|Zn [0,3,11,12,13,14,15] ?_;refine Zx<|Zq<|Zg<|Zo Wh (Pa #[_,_,_,_,_,_,_,_,_,_] isAgg77 sizeOf77 Y) ?_;refine Xr [_] Y call112 Y rfl (QI x) ?_;refine Zm Y<|Zd Y rfl<|Zd Y rfl<|Ze (Al zeroValue113 #[_,_,_,_,_]) ?_;rintro _ _ ⟨xb,rfl,rfl⟩;refine Xe (Xw sizeOf113 #[I4 x.after.t,I4 x.after.k,I4 x.after.v.a,I4 x.after.v.b,I4 x.after.v.c]) ?_;refine Za Y<|Z0<|Zx<|Zq<|Zq<|Zg<|Zm Y<|Z0<|Zx ?_;refine Af Y (fun hh2=>?_) (fun hh2=>?_)
   ·
    refine Zg<|Zo Wh (Pa #[_,_,_,_,_] isAgg113 sizeOf113 Y) ?_;refine Ze (Ae (vs:=[_]) (cs:=[_,_,_,_,_]) underlying45 sizeOf113 zeroValue113 Y rfl rfl rfl rfl rfl) ?_;rintro _ _ ⟨gb,rfl,rfl⟩;refine Za Y<|Z0<|Zx<|Zq<|Zg<|Za Y<|Z0<|Zn [0,3,11,13,14,15,18] ?_;refine Zx<|Zq<|Bd ?_;refine Zg<|Zm Y<|Zm Y<|Zp Y rfl<|Zh 0 underlying182 rfl rfl sizeOf45 Y<|Zl isAgg45 Y ?_;refine Zm Y ?_;refine BM (Bi underlying45 sizeOf113 Y Y (by omega)) ?_;refine Ze (BQ (by_:=40) (sz:=5) underlying45 (rfl:Tryz.prog.info? 113=some Tryz.t113) rfl rfl rfl rfl Y (BX 5 _) Y (Ib hrw k _ hpl) Wo Wo (by exact fun u hu=>CL qs u (vC hu)) (by omega) (by omega)) ?_;rintro _ _ ⟨sa,hra,rfl⟩;obtain ⟨ga,ca,rfl⟩:=hra.form;refine Zm Y ?_;refine Ze (BQ (by_:=40) (sz:=5) underlying45 (rfl:Tryz.prog.info? 113=some Tryz.t113) rfl rfl rfl rfl Y (hra) Y (DW 5 gb 1 1 113 (0,0) (Ac [x.after]) rfl) Wo Wo (by exact CL _) (by omega) (by omega)) ?_;rintro _ _ ⟨sb,hrb,rfl⟩;obtain ⟨gb,cb,rfl⟩:=hrb.form;refine Zm Y ?_;refine Ze (BQ (by_:=40) (sz:=5) underlying45 (rfl:Tryz.prog.info? 113=some Tryz.t113) rfl rfl rfl rfl Y (hrb) Y (VG (Ic hrw k (qs.length -k) (capw -k) (by omega)) 1 (qs.length -k -1) _ (by omega) (by omega)) Wo Wo (by exact fun u hu=>CL qs u (vB (vB hu))) (by omega) (by omega)) ?_;rintro _ _ ⟨sc,hrc,rfl⟩;have hnew:=BO hrc (n':=(EI qs x).length) (xs':=Ac (EI qs x)) (by rw [hput,UV hh2,if_pos hh1,tJ,tJ,tL,tN,tN];simp only [tX,vF];omega) (by rw [hput,UV hh2,if_pos hh1,BZ,BZ,←Da,←DR (qs.drop k) 1,←DR];rw [JR hh2];rfl)
    obtain ⟨gc,cc,rfl⟩:=hrc.form;refine Za Y<|Z0<|Zn [0,3,11,18] ?_;refine Zx<|Zg<|Zm Y<|Zm Y<|Zp Y rfl<|Zh 0 underlying182 rfl rfl sizeOf45 Y<|Xe (Zs sizeOf45 Y Y rfl) ?_;refine Z0<|A8<|Zx<|Zg<|Zm Y<|Ya (n:=1) Y Y<|Za Y<|Z0<|Zn [11,0,3] ?_;refine Ab (e':=[(11,_)]) (by exact ⟨i+1,_,_,rfl,⟨by omega,by rw [EB rs cs i x hx,←hqs];exact hnew⟩,rfl,rfl⟩)
   refine Bd ?_;refine AB<|Zx<|Zq<|Zg<|Za Y<|Z0<|Zx<|Zq<|Bd ?_;refine Zg<|Zm Y<|Zm Y<|Zp Y rfl<|Zh 0 underlying182 rfl rfl sizeOf45 Y<|Zl isAgg45 Y ?_;refine Zm Y ?_;refine BM (Bi underlying45 sizeOf113 Y Y (by omega)) ?_;refine Ze (BQ (by_:=40) (sz:=5) underlying45 (rfl:Tryz.prog.info? 113=some Tryz.t113) rfl rfl rfl rfl Y (BX 5 _) Y (Ib hrw k _ hpl) Wo Wo (by exact fun u hu=>CL qs u (vC hu)) (by omega) (by omega)) ?_;rintro _ _ ⟨sa,hra,rfl⟩;obtain ⟨ga,ca,rfl⟩:=hra.form;refine Zm Y ?_;refine Ze (BQ (by_:=40) (sz:=5) underlying45 (rfl:Tryz.prog.info? 113=some Tryz.t113) rfl rfl rfl rfl Y (hra) Y (SV 5 none 0) Wo Wo (by simp) (by omega) (by omega)) ?_;rintro _ _ ⟨sb,hrb,rfl⟩;obtain ⟨gb,cb,rfl⟩:=hrb.form;refine Zm Y ?_;refine Ze (BQ (by_:=40) (sz:=5) underlying45 (rfl:Tryz.prog.info? 113=some Tryz.t113) rfl rfl rfl rfl Y (hrb) Y (VG (Ic hrw k (qs.length -k) (capw -k) (by omega)) 1 (qs.length -k -1) _ (by omega) (by omega)) Wo Wo (by exact fun u hu=>CL qs u (vB (vB hu))) (by omega) (by omega)) ?_;rintro _ _ ⟨sc,hrc,rfl⟩;have hnew:=BO hrc (n':=(EI qs x).length) (xs':=Ac (EI qs x)) (by rw [hput,UW hh2,if_pos hh1,tJ,tJ,tL,tN,tN];simp only [tX,vF];omega) (by rw [hput,UW hh2,if_pos hh1,BZ,BZ,←Da,←DR (qs.drop k) 1,←DR];rfl)
   obtain ⟨gc,cc,rfl⟩:=hrc.form;refine Za Y<|Z0<|Zn [0,3,11,18] ?_;refine Zx<|Zg<|Zm Y<|Zm Y<|Zp Y rfl<|Zh 0 underlying182 rfl rfl sizeOf45 Y<|Xe (Zs sizeOf45 Y Y rfl) ?_;refine Z0<|A8<|Zx<|Zg<|Zm Y<|Ya (n:=1) Y Y<|Za Y<|Z0<|Zn [11,0,3] ?_;refine Ab (e':=[(11,_)]) (by exact ⟨i+1,_,_,rfl,⟨by omega,by rw [EB rs cs i x hx,←hqs];exact hnew⟩,rfl,rfl⟩)
  refine AB<|Zx<|Zq<|Zg<|Za Y<|Z0<|Zx<|Zq<|Zg<|Zo Wh (Pa #[_,_,_,_,_,_,_,_,_,_] isAgg77 sizeOf77 Y) ?_;refine Xr [_] Y call112 Y rfl (QI x) ?_;refine Zm Y<|Zd Y rfl<|Zd Y rfl<|Ze (Al zeroValue113 #[_,_,_,_,_]) ?_;rintro _ _ ⟨xb,rfl,rfl⟩;refine Xe (Xw sizeOf113 #[I4 x.after.t,I4 x.after.k,I4 x.after.v.a,I4 x.after.v.b,I4 x.after.v.c]) ?_;refine Za Y<|Z0<|Zn [0,3,11,13,14,15,16,17] ?_;refine Zx<|Zq<|Zq<|Zg<|Zm Y<|Z0<|Zx ?_;refine Af Y (fun hh2=>?_) (fun hh2=>?_)
  ·
   refine Zg<|Zo Wh (Pa #[_,_,_,_,_] isAgg113 sizeOf113 Y) ?_;refine Ze (Ae (vs:=[_]) (cs:=[_,_,_,_,_]) underlying45 sizeOf113 zeroValue113 Y rfl rfl rfl rfl rfl) ?_;rintro _ _ ⟨gb,rfl,rfl⟩;refine Za Y<|Z0<|Zx<|Zq<|Zg<|Za Y<|Z0<|Zx<|Zq<|Bd ?_;refine Zg<|Zm Y<|Zm Y<|Zp Y rfl<|Zh 0 underlying182 rfl rfl sizeOf45 Y<|Zl isAgg45 Y ?_;refine Zm Y ?_;refine BM (Bi underlying45 sizeOf113 Y Y (by omega)) ?_;refine Ze (BQ (by_:=40) (sz:=5) underlying45 (rfl:Tryz.prog.info? 113=some Tryz.t113) rfl rfl rfl rfl Y (BX 5 _) Y (Ib hrw k _ hpl) Wo Wo (by exact fun u hu=>CL qs u (vC hu)) (by omega) (by omega)) ?_;rintro _ _ ⟨sa,hra,rfl⟩;obtain ⟨ga,ca,rfl⟩:=hra.form;refine Zm Y ?_;refine Ze (BQ (by_:=40) (sz:=5) underlying45 (rfl:Tryz.prog.info? 113=some Tryz.t113) rfl rfl rfl rfl Y (hra) Y (DW 5 gb 1 1 113 (0,0) (Ac [x.after]) rfl) Wo Wo (by exact CL _) (by omega) (by omega)) ?_;rintro _ _ ⟨sb,hrb,rfl⟩;obtain ⟨gb,cb,rfl⟩:=hrb.form;refine Zm Y ?_;refine Ze (BQ (by_:=40) (sz:=5) underlying45 (rfl:Tryz.prog.info? 113=some Tryz.t113) rfl rfl rfl rfl Y (hrb) Y (Ic hrw k (qs.length -k) _ (by omega)) Wo Wo (by exact fun u hu=>CL qs u (vB hu)) (by omega) (by omega)) ?_;rintro _ _ ⟨sc,hrc,rfl⟩;have hnew:=BO hrc (n':=(EI qs x).length) (xs':=Ac (EI qs x)) (by rw [hput,UV hh2,if_neg (by rw [hh1];decide),tJ,tJ,tL,tN,tN];simp only [tX,vF];omega) (by rw [hput,UV hh2,if_neg (by rw [hh1];decide),BZ,BZ,←Da,←DR (qs.drop k) 0,←DR,yJ,wO];rw [JR hh2];rfl)
   obtain ⟨gc,cc,rfl⟩:=hrc.form;refine Za Y<|Z0<|Zn [0,3,11,18] ?_;refine Zx<|Zg<|Zm Y<|Zm Y<|Zp Y rfl<|Zh 0 underlying182 rfl rfl sizeOf45 Y<|Xe (Zs sizeOf45 Y Y rfl) ?_;refine Z0<|A8<|Zx<|Zg<|Zm Y<|Ya (n:=1) Y Y<|Za Y<|Z0<|Zn [11,0,3] ?_;refine Ab (e':=[(11,_)]) (by exact ⟨i+1,_,_,rfl,⟨by omega,by rw [EB rs cs i x hx,←hqs];exact hnew⟩,rfl,rfl⟩)
  refine Bd ?_;refine AB<|Zx<|Zq<|Zg<|Za Y<|Z0<|Zx<|Zq<|Bd ?_;refine Zg<|Zm Y<|Zm Y<|Zp Y rfl<|Zh 0 underlying182 rfl rfl sizeOf45 Y<|Zl isAgg45 Y ?_;refine Zm Y ?_;refine BM (Bi underlying45 sizeOf113 Y Y (by omega)) ?_;refine Ze (BQ (by_:=40) (sz:=5) underlying45 (rfl:Tryz.prog.info? 113=some Tryz.t113) rfl rfl rfl rfl Y (BX 5 _) Y (Ib hrw k _ hpl) Wo Wo (by exact fun u hu=>CL qs u (vC hu)) (by omega) (by omega)) ?_;rintro _ _ ⟨sa,hra,rfl⟩;obtain ⟨ga,ca,rfl⟩:=hra.form;refine Zm Y ?_;refine Ze (BQ (by_:=40) (sz:=5) underlying45 (rfl:Tryz.prog.info? 113=some Tryz.t113) rfl rfl rfl rfl Y (hra) Y (SV 5 none 0) Wo Wo (by simp) (by omega) (by omega)) ?_;rintro _ _ ⟨sb,hrb,rfl⟩;obtain ⟨gb,cb,rfl⟩:=hrb.form;refine Zm Y ?_;refine Ze (BQ (by_:=40) (sz:=5) underlying45 (rfl:Tryz.prog.info? 113=some Tryz.t113) rfl rfl rfl rfl Y (hrb) Y (Ic hrw k (qs.length -k) _ (by omega)) Wo Wo (by exact fun u hu=>CL qs u (vB hu)) (by omega) (by omega)) ?_;rintro _ _ ⟨sc,hrc,rfl⟩;have hnew:=BO hrc (n':=(EI qs x).length) (xs':=Ac (EI qs x)) (by rw [hput,UW hh2,if_neg (by rw [hh1];decide),tJ,tJ,tL,tN,tN];simp only [tX,vF];omega) (by rw [hput,UW hh2,if_neg (by rw [hh1];decide),BZ,BZ,←Da,←DR (qs.drop k) 0,←DR,yJ,wO];rfl)
  obtain ⟨gc,cc,rfl⟩:=hrc.form;refine Za Y<|Z0<|Zn [0,3,11,18] ?_;refine Zx<|Zg<|Zm Y<|Zm Y<|Zp Y rfl<|Zh 0 underlying182 rfl rfl sizeOf45 Y<|Xe (Zs sizeOf45 Y Y rfl) ?_;refine Z0<|A8<|Zx<|Zg<|Zm Y<|Ya (n:=1) Y Y<|Za Y<|Z0<|Zn [11,0,3] ?_;refine Ab (e':=[(11,_)]) (by exact ⟨i+1,_,_,rfl,⟨by omega,by rw [EB rs cs i x hx,←hqs];exact hnew⟩,rfl,rfl⟩)
 have ei:i=cs.length:=by omega
 subst ei;rw [uQ]at hqs;refine Au<|Zt<|Zt<|AO<|Zx<|Zq<|Zg<|Zm Y<|Zh 0 underlying73 rfl rfl sizeOf3 Y<|Zl isAgg3 Y ?_;refine Zp Y rfl<|Zh 1 underlying182 rfl rfl sizeOf3 Y<|Xe (Zs sizeOf3 Y Y rfl) ?_;refine Z0<|Zx<|Zq<|Zg<|Za Y<|Z0<|Zx<|A9 ?_;refine AC rfl results48 Y (by exact .inl ⟨⟨hok,hpo,hfit,by omega⟩,_,sw,rfl,by rw [←hqs];exact hrw,rfl⟩)
end Go.Proofs.YtkdgffcfmgmemaaGreatDoor
