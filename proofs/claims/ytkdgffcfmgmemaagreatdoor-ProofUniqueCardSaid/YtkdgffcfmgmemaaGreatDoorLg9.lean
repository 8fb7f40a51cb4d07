/- Sorted lists of rows: what a change does to them. -/
/- The reference of layer 4: Apply. -/
import Derived.Test.YtkdgffcfmgmemaaGreatDoorEz
import Derived.Test.YtkdgffcfmgmemaaGreatDoorLg7
import Derived.Test.YtkdgffcfmgmemaaGreatDoorEx16
set_option linter.unusedVariables false
set_option linter.unusedSimpArgs false
namespace Go.Proofs.YtkdgffcfmgmemaaGreatDoor
open Go.Proofs.Tryz
open Go Go.RowKit Gw
set_option maxRecDepth 100000
attribute [local irreducible] Gw.At Gw.Nx Gw.Ops
theorem Kl:∀(rs:List AP) (t k:Int),BJ rs→∃A B,rs=A++B∧A.length=Dl rs t k∧(∀r∈A,r.lt2 t k)∧(∀r∈B,¬r.lt2 t k)
 |[],t,k,_=>⟨[],[],rfl,rfl,by simp,by simp⟩
 |r::rs,t,k,hs=>by
  have hs':=wF.1 hs;by_cases h:r.lt2 t k
  · obtain ⟨A,B,h1,h2,h3,h4⟩:=Kl rs t k hs'.2
    refine ⟨r::A,B,by rw [h1];rfl,?_,?_,h4⟩
    · unfold Dl at*
      rw [wY,if_pos (by simpa using h),tY,tY,h2]
    · intro x hx
      rcases uI.1 hx with rfl|hx
      · exact h
      · exact h3 x hx
  · refine ⟨[],r::rs,rfl,?_,by simp,?_⟩
    · unfold Dl
      rw [wY,if_neg (by simpa using h)]
    · intro x hx hc
      rcases uI.1 hx with rfl|hx
      · exact h hc
      · exact h (OQ (hs'.1 x hx) hc)
theorem TU{r:AP}{t k:Int}(h:r.is t k):¬r.lt2 t k:=by unfold AP.is AP.lt2 at*;omega
theorem Jo{rs:List AP}{t k:Int}{r:AP}(hs:BJ rs)(hr:r∈rs)(h:r.is t k):FV rs t k=(r,true):=by
 obtain ⟨A,B,h1,h2,h3,h4⟩:=Kl rs t k hs;have hB:r∈B:=by
  rw [h1]at hr;rcases uF.1 hr with h9|h9
  · exact absurd (h3 r h9) (TU h)
  · exact h9
 cases B with
 |nil=>cases hB
 |cons b B=>
  have hb:b=r:=by
   rcases uI.1 hB with h9|h9
   · exact h9.symm
   · exfalso
     have hs2:BJ (b::B):=by rw [h1]at hs;exact (vE.1 hs).2.1
     have h8:=(wF.1 hs2).1 r h9;have h7:=h4 b (by simp)
     unfold AP.is at h;rw [h.1,h.2]at h8;exact h7 h8
  subst hb;have hg:rs[Dl rs t k]?=some b:=by rw [←h2,h1,vQ (tQ _),xU];rfl
  unfold FV;rw [hg];simp only;rw [if_pos h]
theorem OV{rs:List AP}{t k:Int}(h:∀r∈rs,¬r.is t k):FV rs t k=(AP.zero,false):=by
 unfold FV;split
 · rename_i r hr
   rw [if_neg (h r (tV hr))]
 · rfl
theorem J3{rs:List AP}{t k:Int}(h:(FV rs t k).2=true):∃r∈rs,r.is t k∧rs[Dl rs t k]?=some r∧FV rs t k=(r,true):=by
 unfold FV at*;split at h
 · rename_i r hr
   split at h
   · rename_i hi
     exact ⟨r,tV hr,hi,hr,by rw [if_pos hi]⟩
   · cases h
 · cases h
def FZ(rs:List AP)(c:Chg):Prop:=(FV rs c.t c.k).2=c.had∧((FV rs c.t c.k).2=true→(FV rs c.t c.k).1.v=c.o)
def MQ(c:Chg):List AP:=if c.has then [⟨c.t,c.k,c.n⟩]else []
def EI(rs:List AP)(c:Chg):List AP:=rs.take (Dl rs c.t c.k)++MQ c++(rs.drop (Dl rs c.t c.k)).drop (if c.had then 1 else 0)
theorem NM{c:Chg}{x:AP}:x∈MQ c↔c.has=true∧x=⟨c.t,c.k,c.n⟩:=by
 unfold MQ;cases c.has<;>simp
theorem O6{rs:List AP}{c:Chg}(hs:BJ rs)(hf:FZ rs c):∃A B,EI rs c=A++MQ c++B∧(∀x,x∈rs↔x∈A∨x∈B∨(x∈rs∧x.is c.t c.k))∧BJ A∧BJ B∧(∀r∈A,r.lt2 c.t c.k)∧(∀r∈B,c.t<r.t∨c.t=r.t∧c.k<r.k)∧rs.length=A.length+B.length+(if c.had then 1 else 0):=by
 obtain ⟨A,B,h1,h2,h3,h4⟩:=Kl rs c.t c.k hs;have hsA:BJ A:=by rw [h1]at hs;exact (vE.1 hs).1
 have hsB:BJ B:=by rw [h1]at hs;exact (vE.1 hs).2.1
 have hta:rs.take (Dl rs c.t c.k)=A:=by rw [←h2,h1,ul rfl]
 have hdr:rs.drop (Dl rs c.t c.k)=B:=by rw [←h2,h1,wm rfl]
 unfold EI;rw [hta,hdr];have gt_of:∀x∈B,¬x.is c.t c.k→c.t<x.t∨c.t=x.t∧c.k<x.k:=fun x hx hn=>by
  have h9:=h4 x hx;unfold AP.lt2 at h9;unfold AP.is at hn;omega
 cases hh:c.had with
 |false=>
  have hno:∀r∈rs,¬r.is c.t c.k:=fun r hr hi=>by
   have h9:=hf.1;rw [Jo hs hr hi,hh]at h9;cases h9
  refine ⟨A,B,by simp,fun x=>?_,hsA,hsB,h3,fun r hr=>gt_of r hr (hno r (by rw [h1];exact tZ _ hr)),by rw [h1];simp⟩;rw [h1,uF];constructor
  · rintro (h|h)
    · exact .inl h
    · exact .inr (.inl h)
  · rintro (h|h|⟨h,_⟩)
    · exact .inl h
    · exact .inr h
    · exact h
 |true=>
  obtain ⟨r,hr,hi,hp,hg⟩:=J3 (by rw [hf.1,hh]:(FV rs c.t c.k).2=true);have hb:B[0]?=some r:=by rw [←h2,h1,vQ (tQ _),xU]at hp;exact hp
  cases B with
  |nil=>cases hb
  |cons b B=>
   injection hb with hb
   subst hb;have hsB2:=wF.1 hsB
   refine ⟨A,B,by simp,fun x=>?_,hsA,hsB2.2,h3,fun x hx=>?_,by rw [h1];simp;omega⟩
   · constructor
     · intro hx
       have hx2:=hx;rw [h1]at hx;rcases uF.1 hx with h|h
       · exact .inl h
       · rcases uI.1 h with rfl|h
         · exact .inr (.inr ⟨hx2,hi⟩)
         · exact .inr (.inl h)
     · rintro (h|h|⟨h,_⟩)
       · rw [h1];exact u6 _ h
       · rw [h1];exact tZ _ (ug _ h)
       · exact h
   · have h9:=hsB2.1 x hx
     unfold AP.lt2 at h9;unfold AP.is at hi;omega
theorem FU{rs:List AP}{c:Chg}(hs:BJ rs)(hf:FZ rs c)(x:AP):x∈EI rs c↔(x∈rs∧¬x.is c.t c.k)∨(c.has=true∧x=⟨c.t,c.k,c.n⟩):=by
 obtain ⟨A,B,h1,h2,_,_,h3,h4,_⟩:=O6 hs hf;rw [h1,uF,uF,NM];have a9:∀x∈A,¬x.is c.t c.k:=fun x hx hi=>TU hi (h3 x hx)
 have b9:∀x∈B,¬x.is c.t c.k:=fun x hx hi=>by have h9:=h4 x hx;unfold AP.is at hi;omega
 constructor
 · rintro ((h|h)|h)
   · exact .inl ⟨(h2 x).2 (.inl h),a9 x h⟩
   · exact .inr h
   · exact .inl ⟨(h2 x).2 (.inr (.inl h)),b9 x h⟩
 · rintro (⟨h,hn⟩|h)
   · rcases (h2 x).1 h with h9|h9|⟨_,h9⟩
     · exact .inl (.inl h9)
     · exact .inr h9
     · exact absurd h9 hn
   · exact .inl (.inr h)
theorem Ip{rs:List AP}{c:Chg}(hs:BJ rs)(hf:FZ rs c):BJ (EI rs c):=by
 obtain ⟨A,B,h1,_,hA,hB,h3,h4,_⟩:=O6 hs hf;rw [h1];have lt_of:∀a b:AP,a.lt2 c.t c.k→(c.t<b.t∨c.t=b.t∧c.k<b.k)→a.lt2 b.t b.k:=fun a b ha hb=>by unfold AP.lt2 at*;omega
 refine vE.2 ⟨vE.2 ⟨hA,?_,?_⟩,hB,?_⟩
 · unfold MQ;split<;>simp
 · intro a ha b hb
   obtain ⟨_,rfl⟩:=NM.1 hb;exact h3 a ha
 · intro a ha b hb
   rcases uF.1 ha with ha|ha
   · exact lt_of a b (h3 a ha) (h4 b hb)
   · obtain ⟨_,rfl⟩:=NM.1 ha
     have:=h4 b hb;unfold AP.lt2;simp only;omega
theorem mf{rs:List AP}{c:Chg}(hs:BJ rs)(hf:FZ rs c):((EI rs c).length:Int)=rs.length+(if c.has then 1 else 0) -(if c.had then 1 else 0):=by
 obtain ⟨A,B,h1,_,_,_,_,_,h5⟩:=O6 hs hf;rw [h1,h5];unfold MQ;cases c.has<;>cases c.had<;>simp<;>omega
theorem nM{rs:List AP}{c:Chg}(hs:BJ rs)(hf:FZ rs c){t k:Int}(hne:¬(c.t=t∧c.k=k)):FV (EI rs c) t k=FV rs t k:=by
 cases hg:(FV rs t k).2 with
 |true=>
  obtain ⟨r,hr,hi,_,he⟩:=J3 hg;rw [he];exact Jo (Ip hs hf) ((FU hs hf r).2 (.inl ⟨hr,fun h=>by unfold AP.is at h hi;omega⟩)) hi
 |false=>
  have hno:∀r∈rs,¬r.is t k:=fun r hr hi=>by rw [Jo hs hr hi]at hg;cases hg
  rw [OV hno];refine OV fun r hr hi=>?_;rcases (FU hs hf r).1 hr with⟨h,_⟩|⟨_,rfl⟩
  · exact hno r h hi
  · exact hne hi
def DD(rs:List AP)(cs:List Chg):List AP:=cs.foldl EI rs
theorem E9(rs:List AP)(cs:List Chg)(i:Nat)(c:Chg)(h:cs[i]?=some c):DD rs (cs.take (i+1))=EI (DD rs (cs.take i)) c:=by
 unfold DD;rw [vK,h,wJ];rfl
def ng(cs:List Chg):Prop:=∀(i j:Nat) (b c:Chg),i<j→cs[i]?=some b→cs[j]?=some c→b.lt c
theorem fC{a b c:Chg}(h:a.lt b)(h2:b.lt c):a.lt c:=by unfold Chg.lt at*;omega
theorem RF{cs:List Chg}(h:∀(i:Nat) (b c:Chg),cs[i]?=some b→cs[i+1]?=some c→b.lt c):ng cs:=by
 intro i j b c hij hb hc;obtain ⟨d,rfl⟩:∃d,j=i+1+d:=⟨j -(i+1),by omega⟩;clear hij;induction d generalizing c with
 |zero=>exact h i b c hb hc
 |succ d ih=>
  obtain ⟨x,hx⟩:∃x,cs[i+1+d]?=some x:=by
   have:=(tH.1 hc).1;exact ⟨_,tF (by omega)⟩
  exact fC (ih x hx) (h (i+1+d) x c hx hc)
theorem Jp{rs:List AP}{cs:List Chg}(hs:BJ rs)(ha:ng cs)(hf:∀c∈cs,FZ rs c):∀i,i≤cs.length→BJ (DD rs (cs.take i))∧∀(j:Nat) (c:Chg),i≤j→cs[j]?=some c→FZ (DD rs (cs.take i)) c
 |0,_=>⟨hs,fun j c _ hc=>hf c (tV hc)⟩
 |i+1,hi=>by
  obtain ⟨h1,h2⟩:=Jp hs ha hf i (by omega);obtain ⟨x,hx⟩:∃x,cs[i]?=some x:=⟨_,tF (by omega)⟩;rw [E9 rs cs i x hx];have hfx:=h2 i x (tQ _) hx
  refine ⟨Ip h1 hfx,fun j c hj hc=>?_⟩;have hlt:=ha i j x c (by omega) hx hc
  have h9:=h2 j c (by omega) hc;unfold FZ at*;rw [nM h1 hfx (by unfold Chg.lt at hlt;omega)];exact h9
def Lt(c:Chg):Int:=(if c.has then 1 else 0) -(if c.had then 1 else 0)
def GJ(rs:List AP)(cs:List Chg):Int:=cs.foldl (fun n c=>n+Lt c) (rs.length:Int)
theorem Gf(rs:List AP)(cs:List Chg)(i:Nat)(c:Chg)(h:cs[i]?=some c):GJ rs (cs.take (i+1))=GJ rs (cs.take i)+Lt c:=by
 unfold GJ;rw [vK,h,wJ];rfl
theorem gW(c:Chg):-1≤Lt c∧Lt c≤1:=by unfold Lt;split<;>split<;>omega
theorem Mv(rs:List AP)(cs:List Chg):∀i,(rs.length:Int) -i≤GJ rs (cs.take i)∧GJ rs (cs.take i)≤rs.length+i
 |0=>by unfold GJ;simp
 |i+1=>by
  have ih:=Mv rs cs i;cases h:cs[i]?with
  |none=>rw [vK,h];simp only [Option.toList,uR];omega
  |some c=>have h9:=gW c;rw [Gf rs cs i c h];omega
theorem MS{rs:List AP}{cs:List Chg}(hs:BJ rs)(ha:ng cs)(hf:∀c∈cs,FZ rs c):∀i,i≤cs.length→((DD rs (cs.take i)).length:Int)=GJ rs (cs.take i)
 |0,_=>rfl
 |i+1,hi=>by
  obtain ⟨x,hx⟩:∃x,cs[i]?=some x:=⟨_,tF (by omega)⟩;have ih:=MS hs ha hf i (by omega)
  obtain ⟨h1,h2⟩:=Jp hs ha hf i (by omega);rw [E9 rs cs i x hx,Gf rs cs i x hx,mf h1 (h2 i x (tQ _) hx),ih];unfold Lt;omega
structure M9(rs:List AP)(p rp:Int)(cs:List Chg):Prop where
 ok:ES rp cs
 pos:rp=p+1
 fit:∀c∈cs,FZ rs c
 size:GJ rs cs≤2000
theorem Hz{rs:List AP}{cs:List Chg}{i:Nat}{x:Chg}(h:∀c∈cs.take i,FZ rs c)(hx:cs[i]?=some x)(ho:FZ rs x):∀c∈cs.take (i+1),FZ rs c:=by
 rw [vK,hx];intro c hc;rcases uF.1 hc with h9|h9
 · exact h c h9
 · rw [tq.1 h9];exact ho
theorem BZ(a b:List AP):Ac (a++b)=Ac a++Ac b:=by unfold Ac;rw [vX]
theorem BF:∀(rs:List AP),(Ac rs).length=rs.length*5
 |[]=>rfl
 |r::rs=>by
  have:=BF rs;unfold Ac at*;rw [ui,tK,this,tY];simp;omega
theorem DX(rs:List AP)(k:Nat):(Ac rs).take (k*5)=Ac (rs.take k):=by
 rcases uJ rs.length k with h|h
 · rw [uN (by rw [BF];omega),uN (by omega)]
 · have e:Ac rs=Ac (rs.take k)++Ac (rs.drop k):=by rw [←BZ,uY]
   rw [e,ul (by rw [BF,tL];omega)]
theorem DK(rs:List AP)(k:Nat):(Ac rs).drop (k*5)=Ac (rs.drop k):=by
 rcases uJ rs.length k with h|h
 · rw [vI (by rw [BF];omega),vI (by omega)];rfl
 · have e:Ac rs=Ac (rs.take k)++Ac (rs.drop k):=by rw [←BZ,uY]
   rw [e,wm (by rw [BF,tL];omega)]
theorem CL(rs:List AP):∀u∈Ac rs,u.oneCell'=true:=by
 intro u hu;unfold Ac at hu;obtain ⟨r,_,h⟩:=xK.1 hu;simp only [uI,vT,or_false]at h;rcases h with rfl|rfl|rfl|rfl|rfl<;>rfl
theorem BO{sz:Nat}{e:TypeId}{v:Value}{n n':Nat}{xs xs':List Value}{s:List AR}(h:BX sz e v n xs s)(hn:n=n')(hx:xs=xs'):BX sz e v n' xs' s:=by subst hn hx;exact h
theorem FD{sz:Nat}{e:TypeId}{b:Option Addr}{n c:Nat}{xs:List Value}{s:List AR}(h:BX sz e (.slice b n c) n xs s):n≤c:=by
 obtain ⟨_,⟨hv,h0,_⟩|⟨_,_,_,_,hv,_,h2,_⟩⟩:=h
 · omega
 · injection hv with _ _ hv3;omega
theorem SK(sz:Nat)(b:Option Addr)(c:Nat):M7 sz (.slice b 0 c) 0 [] []:=⟨by simp,.inl ⟨rfl,b,c,rfl⟩⟩
theorem DY(sz g k c:Nat)(e:TypeId)(z:Nat×Nat)(xs:List Value)(h:xs.length=k*sz):M7 sz (I6 g k c) k xs [(g,.cells xs.toArray e z)]:=
 ⟨h,.inr ⟨g,0,c,xs.toArray,e,z,rfl,rfl,by unfold Bw;rw [wO];simp⟩⟩
theorem UN{c:Chg}(h:c.has=true):MQ c=[⟨c.t,c.k,c.n⟩]:=if_pos h
theorem UO{c:Chg}(h:c.has=false):MQ c=[]:=if_neg (by rw [h];decide)
theorem ZB{rs:List AP}{cs:List Chg}{i:Nat}{x:Chg}(hx:cs[i]?=some x)(h1:x.had=true)(h2:x.has=true):GJ rs (cs.take (i+1))=GJ rs (cs.take i) -1+1:=by rw [Gf rs cs i x hx];unfold Lt;rw [if_pos h2,if_pos h1];omega
theorem ZC{rs:List AP}{cs:List Chg}{i:Nat}{x:Chg}(hx:cs[i]?=some x)(h1:x.had=true)(h2:x.has=false):GJ rs (cs.take (i+1))=GJ rs (cs.take i) -1:=by rw [Gf rs cs i x hx];unfold Lt;rw [if_neg (by rw [h2];decide),if_pos h1];omega
theorem ZE{rs:List AP}{cs:List Chg}{i:Nat}{x:Chg}(hx:cs[i]?=some x)(h1:x.had=false)(h2:x.has=true):GJ rs (cs.take (i+1))=GJ rs (cs.take i)+1:=by rw [Gf rs cs i x hx];unfold Lt;rw [if_pos h2,if_neg (by rw [h1];decide)];omega
theorem ZF{rs:List AP}{cs:List Chg}{i:Nat}{x:Chg}(hx:cs[i]?=some x)(h1:x.had=false)(h2:x.has=false):GJ rs (cs.take (i+1))=GJ rs (cs.take i):=by rw [Gf rs cs i x hx];unfold Lt;rw [if_neg (by rw [h2];decide),if_neg (by rw [h1];decide)];omega
theorem Vg(sp:Nat)(p rp:Int)(v:Value)(rs:List AP)(sv M:List AR)(q:Option Addr)(capc:Nat)(cs:List Chg)(hrow:BX 5 113 v rs.length (Ac rs) sv)(hO:Dh M (.slice q cs.length capc) cs)(hs:BJ rs)(hn:rs.length≤2000)(hp:0≤p∧p≤10000):
 CO Tryz.prog 48 #[I5 sp,.agg #[I4 rp,.slice q cs.length capc]] [[(sp,.cells #[v,I4 p] 182 (0,0))],sv,M] (fun r H'=>(M9 rs p rp cs∧∃v' sv',r=I4 0∧BX 5 113 v' (DD rs cs).length (Ac (DD rs cs)) sv'∧H'=[[(sp,.cells #[v',I4 rp] 182 (0,0))],sv',M])∨(¬M9 rs p rp cs∧r=I4 40∧H'=[[(sp,.cells #[v,I4 p] 182 (0,0))],sv,M])):=by
 have hml:=mL;obtain ⟨qv,capv,rfl⟩:=hrow.form;have hRI:=Jb hrow (by omega)
 obtain ⟨p9,cap9,e9,hol,hg⟩:=id hO;injection e9 with e91 e92 e93
 subst e91 e93;refine Se func48 ntmps48 [0,1] ?_;intro u R;refine Zq<|Zg<|Ze (Bx #[_,_]) ?_;rintro _ _ ⟨rb,rfl,rfl⟩;refine Za Y<|Z0<|Zx<|Zq<|Zg<|Zo Wh (Pa #[_,_] isAgg73 sizeOf73 Y) ?_;refine Xr [_] Y call109 Y rfl (O4 rp q capc cs M hO) ?_;refine Za Y<|Z0<|Zx<|Zq<|Zq<|BI (n:=12) (0::1::3::7::15::7::39::103::231::487::1023::2047::[]) 0 (by kernel_rfl) (by kernel_rfl) rfl ?_;refine Zi 1 0 rfl (AJ Y)<|Zi 3 1 rfl (CB Y)<|Zi 7 2 rfl (AJ Y) ?_;refine CS (t:=23) Y (fun hv=>?_) (fun hv=>?_)
 ·
  first|rw [decide_eq_true hv]|rw [hv]|skip
  refine Yk 15 3 rfl<|Yk 31 4 rfl<|Yk 63 5 rfl<|Yk 127 6 rfl<|Yk 255 7 rfl<|Yk 511 8 rfl<|Yk 1023 9 rfl<|Yk 2047 10 rfl<|Zi 4095 11 rfl (AL Y Y)<|Am ?_;refine Zn [0,3,32] ?_;refine Zx<|CE Y<|Zq<|Zg<|Za Y<|Z0<|Zx<|A9<|Zt ?_;refine AB rfl results48 Y (by exact .inr ⟨fun h=>hv h.ok,rfl,rfl⟩)
 first|rw [decide_eq_false hv]|rw [hv]|skip
 refine Ag (D':=15) 3 Y rfl rfl rfl (AZ (off:=0) underlying73 rfl rfl sizeOf3 Y) ?_;refine Bl (D':=31) 4 Y rfl rfl rfl Wh (Bf isAgg3 Y (by rfl)) ?_;refine Ag (D':=63) 5 Y rfl rfl rfl (AJ Y) ?_;refine Ag (D':=127) 6 Y rfl rfl rfl (Dz Y rfl) ?_;refine Ag (D':=255) 7 Y rfl rfl rfl (AZ (off:=1) underlying182 rfl rfl sizeOf3 Y) ?_;refine Bl (D':=511) 8 Y rfl rfl rfl Wh (Bf isAgg3 Y (by rfl)) ?_
 (refine Ag (D':=1023) 9 Y rfl rfl rfl (JI Y Y (IntWalk.i64_in _ ?_)) ?_;(focus (omega)))
 refine Ag (D':=2047) 10 Y rfl rfl rfl (IL Y Y) ?_;refine Zi 4095 11 rfl (AA Y Y)<|Am ?_;refine Zn [0,3,32] ?_;refine Zx ?_;refine Ao Y (fun hpos=>?_) (fun hpos=>?_)
 ·
  refine Zq<|Zg<|Za Y<|Z0<|Zx<|A9<|Zt ?_;refine AB rfl results48 Y (by exact .inr ⟨fun h=>hpos h.pos,rfl,rfl⟩)
 refine AC<|Zx<|Zq ?_;have hok:=uH.1 hv
 have hpo:=uH.1 hpos;have hcl:=hok.len
 have hasc:=RF hok.ord;refine Zg<|Zm Y<|Zp Y rfl<|Zh 0 underlying182 rfl rfl sizeOf45 Y<|Zl isAgg45 Y ?_;refine Zv (AV underlying45 Y)<|Za Y<|Z0<|Zx<|Zq<|Zq<|Zg<|Za Y<|Z0<|Zx<|AQ<|Zb [6,7,0,3] ?_;refine Az (e0:=[(6,_),(7,_)]) (fun m e H=>∃(i:Nat),m=cs.length -i∧(i≤cs.length∧(∀c∈cs.take i,FZ rs c))∧e=[(6,I4 (GJ rs (cs.take i))),(7,I4 (i:Int))]∧H=[]) (by exact ⟨0,rfl,⟨tX _,by simp⟩,rfl,rfl⟩) Wp ?_;rintro _ _ _ ⟨i,rfl,⟨hi,hfit⟩,rfl,rfl⟩;have hsl:=Mv rs cs i
 refine Zq<|Zq<|Zg<|Zm Y<|Zh 1 underlying73 rfl rfl sizeOf71 Y<|Zl isAgg71 Y ?_;refine Zv (AV underlying71 Y)<|Zv (Aq Y Y)<|Z0<|Zx ?_;refine Ao Y (fun hlt=>?_) (fun hlt=>?_)
 ·
  refine AC<|Zx<|Zq<|AQ<|Zq ?_;obtain ⟨x,hx⟩:∃x,cs[i]?=some x:=⟨_,tF hlt⟩;obtain ⟨g,off,cur,T,zz,rfl,hm,hsz,hex⟩:=hg i x hx;refine Zg<|Zh 1 underlying73 rfl rfl sizeOf71 Y<|Zl isAgg71 Y ?_;refine Zm Y ?_;refine BM (AU underlying71 sizeOf77 Y Y (by omega)) ?_;refine Cf (cs:=[(g,.cells cur T zz)]) (by simp [hm]) (AX (cs:=#[I4 x.t,I4 x.k,.bool x.had,I4 x.o.a,I4 x.o.b,I4 x.o.c,.bool x.has,I4 x.n.a,I4 x.n.b,I4 x.n.c]) isAgg77 sizeOf77 Y (by omega) hex) rfl rfl ?_;refine Ze (Al zeroValue77 #[_,_,_,_,_,_,_,_,_,_]) ?_;rintro _ _ ⟨cb,rfl,rfl⟩;refine Xe (Xw sizeOf77 #[I4 x.t,I4 x.k,.bool x.had,I4 x.o.a,I4 x.o.b,I4 x.o.c,.bool x.has,I4 x.n.a,I4 x.n.b,I4 x.n.c]) ?_;refine Z0<|Zx<|Zq<|Zg<|Zm Y<|Zh 0 underlying77 rfl rfl sizeOf3 Y<|Zl isAgg3 Y ?_;refine Zh 1 underlying77 rfl rfl sizeOf3 Y<|Zl isAgg3 Y ?_;refine Xr [_,_,_] Y call110 Y rfl (iO sp qv capv p x.t x.k rs sv hRI (by omega) hs) ?_;obtain ⟨gr,hgr⟩:∃gr,gr=FV rs x.t x.k:=⟨_,rfl⟩;rw [←hgr];refine Zm Y<|Zd Y rfl<|Zd Y rfl<|Ze (Al zeroValue113 #[_,_,_,_,_]) ?_;rintro _ _ ⟨xb,rfl,rfl⟩;refine Xe (Xw sizeOf113 #[I4 gr.1.t,I4 gr.1.k,I4 gr.1.v.a,I4 gr.1.v.b,I4 gr.1.v.c]) ?_;refine Za Y<|Z0<|Zn [0,3,6,7,8,9,10] ?_;refine Zx<|Zq<|Zq<|Zg<|Zm Y<|Zh 2 underlying77 rfl rfl sizeOf4 Y<|Zl isAgg4 Y ?_;refine Zv (K6 underlying4 Y Y)<|Zm Y ?_;refine Aj (t:=63) Y rfl (fun hd1=>?_) (fun hd1=>?_)
  ·
   refine A7 Y rfl<|A7 Y rfl<|A7 Y rfl<|A7 Y rfl<|A7 Y rfl<|A7 Y rfl<|A7 Y rfl<|A7 Y rfl<|Zv (AL Y Y)<|Z0<|Zn [0,3,6,7,8,72] ?_;refine Zx<|CE Y<|Zq<|Zg<|Za Y<|Z0<|Zx<|A9<|Zt<|AY<|Zt<|Zt<|AY<|Zt ?_;refine AB rfl results48 Y (by exact .inr ⟨fun h=>by have h9:=(h.fit x (tV hx)).1;rw [←hgr]at h9;exact hd1 h9,rfl,rfl⟩)
  refine Zf Y Y<|Zf Y Y ?_;refine Ai (t:=65) Y rfl (fun hd2=>?_) (fun hd2=>?_)
  ·
   refine Yf 2 underlying113 rfl rfl sizeOf75 Y<|DL Y Wh (Pa #[_,_,_] isAgg75 sizeOf75 Y) rfl rfl ?_;refine Yf 3 underlying77 rfl rfl sizeOf75 Y<|DL Y Wh (AX (cs:=#[_,_,_]) isAgg75 sizeOf75 Y (by(simp;done)) (by rfl)) rfl rfl ?_;refine Yg (K7 (by kernel_rfl) underlying75 underlying3 isAgg3 sizeOf3 Y Y) ?_;refine Yg (AL Y Y)<|Zv (AA Y Y)<|Z0<|Zn [0,3,6,7,8,72] ?_;refine Zx ?_;refine Ao Y (fun hd3=>?_) (fun hd3=>?_)
   ·
    refine Zq<|Zg<|Za Y<|Z0<|Zx<|A9<|Zt<|AY<|Zt<|Zt<|AY<|Zt ?_;refine AB rfl results48 Y (by exact .inr ⟨fun h=>by have h9:=(h.fit x (tV hx)).2;rw [←hgr]at h9;exact hd3 (h9 hd2),rfl,rfl⟩)
   refine AC<|Zx<|Zq<|Zq ?_;have hfx:FZ rs x:=by
    unfold FZ;rw [←hgr];refine ⟨by simpa using hd1,fun h=>?_⟩;exact uH.1 hd3
   refine Zg<|Zh 2 underlying77 rfl rfl sizeOf4 Y<|Zl isAgg4 Y ?_;refine Z0<|Zx ?_;refine Af Y (fun hh1=>?_) (fun hh1=>?_)
   ·
    refine Zg<|Zm Y ?_
    (refine BM (G8 Y Y (IntWalk.i64_in _ ?_)) ?_;(focus (omega)))
    refine Za Y<|Z0<|Zx<|Zq<|Zg<|Zh 6 underlying77 rfl rfl sizeOf4 Y<|Zl isAgg4 Y ?_;refine Z0<|Zx ?_;refine Af Y (fun hh2=>?_) (fun hh2=>?_)
    ·
     refine Zg<|Zm Y<|Yi Y Y<|Za Y<|Z0<|A8<|Zx<|Zg<|Zm Y<|Ya (n:=1) Y Y<|Za Y<|Z0<|Zn [6,7,0,3] ?_;refine Ab (e':=[(6,_),(7,_)]) (by exact ⟨i+1,rfl,⟨by omega,Hz hfit hx hfx⟩,by rw [ZB hx hh1 hh2],rfl⟩)
    refine AC<|A8<|Zx<|Zg<|Zm Y<|Ya (n:=1) Y Y<|Za Y<|Z0<|Zn [6,7,0,3] ?_;refine Ab (e':=[(6,_),(7,_)]) (by exact ⟨i+1,rfl,⟨by omega,Hz hfit hx hfx⟩,by rw [ZC hx hh1 hh2],rfl⟩)
   refine AC<|Zx<|Zq<|Zg<|Zh 6 underlying77 rfl rfl sizeOf4 Y<|Zl isAgg4 Y ?_;refine Z0<|Zx ?_;refine Af Y (fun hh2=>?_) (fun hh2=>?_)
   ·
    refine Zg<|Zm Y<|Yi Y Y<|Za Y<|Z0<|A8<|Zx<|Zg<|Zm Y<|Ya (n:=1) Y Y<|Za Y<|Z0<|Zn [6,7,0,3] ?_;refine Ab (e':=[(6,_),(7,_)]) (by exact ⟨i+1,rfl,⟨by omega,Hz hfit hx hfx⟩,by rw [ZE hx hh1 hh2],rfl⟩)
   refine AC<|A8<|Zx<|Zg<|Zm Y<|Ya (n:=1) Y Y<|Za Y<|Z0<|Zn [6,7,0,3] ?_;refine Ab (e':=[(6,_),(7,_)]) (by exact ⟨i+1,rfl,⟨by omega,Hz hfit hx hfx⟩,by rw [ZF hx hh1 hh2],rfl⟩)
  refine A7 Y rfl<|A7 Y rfl<|A7 Y rfl<|A7 Y rfl<|A7 Y rfl<|Yg (AA Y Y)<|Zv (AA Y Y)<|Z0<|Zn [0,3,6,7,8,72] ?_;refine Zx<|Di Y<|AC<|Zx<|Zq<|Zq ?_;have hfx:FZ rs x:=by
   unfold FZ;rw [←hgr];refine ⟨by simpa using hd1,fun h=>?_⟩
   (rw [h]at hd2;cases hd2)
  refine Zg<|Zh 2 underlying77 rfl rfl sizeOf4 Y<|Zl isAgg4 Y ?_;refine Z0<|Zx ?_;refine Af Y (fun hh1=>?_) (fun hh1=>?_)
  ·
   refine Zg<|Zm Y ?_
   (refine BM (G8 Y Y (IntWalk.i64_in _ ?_)) ?_;(focus (omega)))
   refine Za Y<|Z0<|Zx<|Zq<|Zg<|Zh 6 underlying77 rfl rfl sizeOf4 Y<|Zl isAgg4 Y ?_;refine Z0<|Zx ?_;refine Af Y (fun hh2=>?_) (fun hh2=>?_)
   ·
    refine Zg<|Zm Y<|Yi Y Y<|Za Y<|Z0<|A8<|Zx<|Zg<|Zm Y<|Ya (n:=1) Y Y<|Za Y<|Z0<|Zn [6,7,0,3] ?_;refine Ab (e':=[(6,_),(7,_)]) (by exact ⟨i+1,rfl,⟨by omega,Hz hfit hx hfx⟩,by rw [ZB hx hh1 hh2],rfl⟩)
   refine AC<|A8<|Zx<|Zg<|Zm Y<|Ya (n:=1) Y Y<|Za Y<|Z0<|Zn [6,7,0,3] ?_;refine Ab (e':=[(6,_),(7,_)]) (by exact ⟨i+1,rfl,⟨by omega,Hz hfit hx hfx⟩,by rw [ZC hx hh1 hh2],rfl⟩)
  refine AC<|Zx<|Zq<|Zg<|Zh 6 underlying77 rfl rfl sizeOf4 Y<|Zl isAgg4 Y ?_;refine Z0<|Zx ?_;refine Af Y (fun hh2=>?_) (fun hh2=>?_)
  ·
   refine Zg<|Zm Y<|Yi Y Y<|Za Y<|Z0<|A8<|Zx<|Zg<|Zm Y<|Ya (n:=1) Y Y<|Za Y<|Z0<|Zn [6,7,0,3] ?_;refine Ab (e':=[(6,_),(7,_)]) (by exact ⟨i+1,rfl,⟨by omega,Hz hfit hx hfx⟩,by rw [ZE hx hh1 hh2],rfl⟩)
  refine AC<|A8<|Zx<|Zg<|Zm Y<|Ya (n:=1) Y Y<|Za Y<|Z0<|Zn [6,7,0,3] ?_;refine Ab (e':=[(6,_),(7,_)]) (by exact ⟨i+1,rfl,⟨by omega,Hz hfit hx hfx⟩,by rw [ZF hx hh1 hh2],rfl⟩)
 have ei:i=cs.length:=by omega
 subst ei;rw [uQ]at hfit hsl⊢;refine Ar<|Zt<|Zt<|AO<|Zx<|Zq<|Zq<|Zg<|Zm Y<|Zv (Es Y Y)<|Z0<|Zx ?_;refine Ao Y (fun hbig=>?_) (fun hbig=>?_)
 ·
  refine Zq<|Zg<|Za Y<|Z0<|Zx<|A9<|Zt ?_;refine AB rfl results48 Y (by exact .inr ⟨fun h=>by have h9:=h.size;omega,rfl,rfl⟩)
 refine AC<|Zx<|Zq<|Zq<|Zg<|Za Y<|Z0<|Zx<|AQ<|Zb [11,0,3] ?_;refine Az (e0:=[(11,_)]) (fun m e H=>∃(i:Nat) (w:Value) (sw:List AR),m=cs.length -i∧(i≤cs.length∧BX 5 113 w (DD rs (cs.take i)).length (Ac (DD rs (cs.take i))) sw)∧e=[(11,I4 (i:Int))]∧H=[[(sp,.cells #[w,I4 p] 182 (0,0))],sw]) (by exact ⟨0,_,sv,rfl,⟨tX _,hrow⟩,rfl,rfl⟩) Wp ?_;rintro _ _ _ ⟨i,w,sw,rfl,⟨hi,hrw⟩,rfl,rfl⟩;obtain ⟨hsq,hfq⟩:=Jp hs hasc hfit i hi;have hlq:=MS hs hasc hfit i hi
 have hsl:=Mv rs cs i;obtain ⟨qs,hqs⟩:∃qs,qs=DD rs (cs.take i):=⟨_,rfl⟩;rw [←hqs]at hrw hsq hlq hfq;obtain ⟨qw,capw,rfl⟩:=hrw.form;have hcw:=FD hrw
 have hRW:=Jb hrw (by omega);refine Zq<|Zq<|Zg<|Zm Y<|Zh 1 underlying73 rfl rfl sizeOf71 Y<|Zl isAgg71 Y ?_;refine Zv (AV underlying71 Y)<|Zv (Aq Y Y)<|Z0<|Zx ?_;refine Ao Y (fun hlt=>?_) (fun hlt=>?_)
 ·
  refine AC<|Zx<|Zq<|AQ<|Zq ?_;obtain ⟨x,hx⟩:∃x,cs[i]?=some x:=⟨_,tF hlt⟩;obtain ⟨g,off,cur,T,zz,rfl,hm,hsz,hex⟩:=hg i x hx;have hfx:=hfq i x (tQ _) hx
  have hpl:=Sv qs x.t x.k;have hput:EI qs x=qs.take (Dl qs x.t x.k)++MQ x++(qs.drop (Dl qs x.t x.k)).drop (if x.had then 1 else 0):=rfl
  obtain ⟨k,hk⟩:∃k,k=Dl qs x.t x.k:=⟨_,rfl⟩;have hkt:x.had=true→k<qs.length:=fun h=>by
   obtain ⟨r,_,_,h9,_⟩:=J3 (by rw [hfx.1,h]:(FV qs x.t x.k).2=true);rw [←hk]at h9;exact (tH.1 h9).1
  rw [←hk]at hpl hput;refine Zg<|Zh 1 underlying73 rfl rfl sizeOf71 Y<|Zl isAgg71 Y ?_;refine Zm Y ?_;refine BM (AU underlying71 sizeOf77 Y Y (by omega)) ?_;refine Cf (cs:=[(g,.cells cur T zz)]) (by simp [hm]) (AX (cs:=#[I4 x.t,I4 x.k,.bool x.had,I4 x.o.a,I4 x.o.b,I4 x.o.c,.bool x.has,I4 x.n.a,I4 x.n.b,I4 x.n.c]) isAgg77 sizeOf77 Y (by omega) hex) rfl rfl ?_;refine Ze (Al zeroValue77 #[_,_,_,_,_,_,_,_,_,_]) ?_;rintro _ _ ⟨cb,rfl,rfl⟩;refine Xe (Xw sizeOf77 #[I4 x.t,I4 x.k,.bool x.had,I4 x.o.a,I4 x.o.b,I4 x.o.c,.bool x.has,I4 x.n.a,I4 x.n.b,I4 x.n.c]) ?_;refine Z0<|Zx<|Zq<|Zg<|Zm Y<|Zh 0 underlying77 rfl rfl sizeOf3 Y<|Zl isAgg3 Y ?_;refine Zh 1 underlying77 rfl rfl sizeOf3 Y<|Zl isAgg3 Y ?_;refine Xr [_,_,_] Y call111 Y rfl (Ve sp qw capw p x.t x.k qs sw hRW (by omega) hsq) ?_;rw [←hk];refine Za Y<|Z0<|Zn [0,3,11,12,13] ?_;refine Zx<|Zq<|Zg<|Zm Y<|Zp Y rfl<|Zh 0 underlying182 rfl rfl sizeOf45 Y<|Zl isAgg45 Y ?_;refine Zm Y ?_;refine BM (Bz underlying45 sizeOf113 Y Y (by omega)) ?_;refine Za Y<|Z0<|Zx<|Zq<|Zq<|Zg<|Zh 2 underlying77 rfl rfl sizeOf4 Y<|Zl isAgg4 Y ?_;refine Z0<|Zx ?_;refine Af Y (fun hh1=>?_) (fun hh1=>?_)
  ·
   have hkl:=hkt hh1;refine Zg<|Zm Y ?_;refine BM (Bz (l:=1) underlying45 sizeOf113 Y Y (by omega)) ?_;refine Za Y<|Z0<|Zx<|Zq<|Zg<|Za Y<|Z0<|Zn [0,3,11,12,13,14,15] ?_;refine Zx<|Zq<|Zg<|Zo Wh (Pa #[_,_,_,_,_,_,_,_,_,_] isAgg77 sizeOf77 Y) ?_;refine Xr [_] Y call112 Y rfl (QF x) ?_;refine Zm Y<|Zd Y rfl<|Zd Y rfl<|Ze (Al zeroValue113 #[_,_,_,_,_]) ?_;rintro _ _ ⟨xb,rfl,rfl⟩;refine Xe (Xw sizeOf113 #[I4 x.after.t,I4 x.after.k,I4 x.after.v.a,I4 x.after.v.b,I4 x.after.v.c]) ?_;refine Za Y<|Z0<|Zx<|Zq<|Zq<|Zg<|Zm Y<|Z0<|Zx ?_;refine Af Y (fun hh2=>?_) (fun hh2=>?_)
   ·
    refine Zg<|Zo Wh (Pa #[_,_,_,_,_] isAgg113 sizeOf113 Y) ?_;refine Ze (Ae (vs:=[_]) (cs:=[_,_,_,_,_]) underlying45 sizeOf113 zeroValue113 Y rfl rfl rfl rfl rfl) ?_;rintro _ _ ⟨gb,rfl,rfl⟩;refine Za Y<|Z0<|Zx<|Zq<|Zg<|Za Y<|Z0<|Zn [0,3,11,13,14,15,18] ?_;refine Zx<|Zq<|Bd ?_;refine Zg<|Zm Y<|Zm Y<|Zp Y rfl<|Zh 0 underlying182 rfl rfl sizeOf45 Y<|Zl isAgg45 Y ?_;refine Zm Y ?_;refine BM (Bc underlying45 sizeOf113 Y Y (by omega)) ?_;refine Ze (BR (by_:=40) (sz:=5) underlying45 (rfl:Tryz.prog.info? 113=some Tryz.t113) rfl rfl rfl rfl Y (BV 5 _) Y (Ic hrw k _ hpl) Wo Wo (by exact fun u hu=>CL qs u (vD hu)) (by omega) (by omega)) ?_;rintro _ _ ⟨sa,hra,rfl⟩;obtain ⟨ga,ca,rfl⟩:=hra.form;refine Zm Y ?_;refine Ze (BR (by_:=40) (sz:=5) underlying45 (rfl:Tryz.prog.info? 113=some Tryz.t113) rfl rfl rfl rfl Y (hra) Y (DY 5 gb 1 1 113 (0,0) (Ac [x.after]) rfl) Wo Wo (by exact CL _) (by omega) (by omega)) ?_;rintro _ _ ⟨sb,hrb,rfl⟩;obtain ⟨gb,cb,rfl⟩:=hrb.form;refine Zm Y ?_;refine Ze (BR (by_:=40) (sz:=5) underlying45 (rfl:Tryz.prog.info? 113=some Tryz.t113) rfl rfl rfl rfl Y (hrb) Y (VD (Ie hrw k (qs.length -k) (capw -k) (by omega)) 1 (qs.length -k -1) _ (by omega) (by omega)) Wo Wo (by exact fun u hu=>CL qs u (vC (vC hu))) (by omega) (by omega)) ?_;rintro _ _ ⟨sc,hrc,rfl⟩;have hnew:=BO hrc (n':=(EI qs x).length) (xs':=Ac (EI qs x)) (by rw [hput,UN hh2,if_pos hh1,tK,tK,tL,tN,tN];simp only [tY,vG];omega) (by rw [hput,UN hh2,if_pos hh1,BZ,BZ,←DX,←DK (qs.drop k) 1,←DK];rw [JQ hh2];rfl)
    obtain ⟨gc,cc,rfl⟩:=hrc.form;refine Za Y<|Z0<|Zn [0,3,11,18] ?_;refine Zx<|Zg<|Zm Y<|Zm Y<|Zp Y rfl<|Zh 0 underlying182 rfl rfl sizeOf45 Y<|Xe (Zs sizeOf45 Y Y rfl) ?_;refine Z0<|A8<|Zx<|Zg<|Zm Y<|Ya (n:=1) Y Y<|Za Y<|Z0<|Zn [11,0,3] ?_;refine Ab (e':=[(11,_)]) (by exact ⟨i+1,_,_,rfl,⟨by omega,by rw [E9 rs cs i x hx,←hqs];exact hnew⟩,rfl,rfl⟩)
   refine Bd ?_;refine AC<|Zx<|Zq<|Zg<|Za Y<|Z0<|Zx<|Zq<|Bd ?_;refine Zg<|Zm Y<|Zm Y<|Zp Y rfl<|Zh 0 underlying182 rfl rfl sizeOf45 Y<|Zl isAgg45 Y ?_;refine Zm Y ?_;refine BM (Bc underlying45 sizeOf113 Y Y (by omega)) ?_;refine Ze (BR (by_:=40) (sz:=5) underlying45 (rfl:Tryz.prog.info? 113=some Tryz.t113) rfl rfl rfl rfl Y (BV 5 _) Y (Ic hrw k _ hpl) Wo Wo (by exact fun u hu=>CL qs u (vD hu)) (by omega) (by omega)) ?_;rintro _ _ ⟨sa,hra,rfl⟩;obtain ⟨ga,ca,rfl⟩:=hra.form;refine Zm Y ?_;refine Ze (BR (by_:=40) (sz:=5) underlying45 (rfl:Tryz.prog.info? 113=some Tryz.t113) rfl rfl rfl rfl Y (hra) Y (SK 5 none 0) Wo Wo (by simp) (by omega) (by omega)) ?_;rintro _ _ ⟨sb,hrb,rfl⟩;obtain ⟨gb,cb,rfl⟩:=hrb.form;refine Zm Y ?_;refine Ze (BR (by_:=40) (sz:=5) underlying45 (rfl:Tryz.prog.info? 113=some Tryz.t113) rfl rfl rfl rfl Y (hrb) Y (VD (Ie hrw k (qs.length -k) (capw -k) (by omega)) 1 (qs.length -k -1) _ (by omega) (by omega)) Wo Wo (by exact fun u hu=>CL qs u (vC (vC hu))) (by omega) (by omega)) ?_;rintro _ _ ⟨sc,hrc,rfl⟩;have hnew:=BO hrc (n':=(EI qs x).length) (xs':=Ac (EI qs x)) (by rw [hput,UO hh2,if_pos hh1,tK,tK,tL,tN,tN];simp only [tY,vG];omega) (by rw [hput,UO hh2,if_pos hh1,BZ,BZ,←DX,←DK (qs.drop k) 1,←DK];rfl)
   obtain ⟨gc,cc,rfl⟩:=hrc.form;refine Za Y<|Z0<|Zn [0,3,11,18] ?_;refine Zx<|Zg<|Zm Y<|Zm Y<|Zp Y rfl<|Zh 0 underlying182 rfl rfl sizeOf45 Y<|Xe (Zs sizeOf45 Y Y rfl) ?_;refine Z0<|A8<|Zx<|Zg<|Zm Y<|Ya (n:=1) Y Y<|Za Y<|Z0<|Zn [11,0,3] ?_;refine Ab (e':=[(11,_)]) (by exact ⟨i+1,_,_,rfl,⟨by omega,by rw [E9 rs cs i x hx,←hqs];exact hnew⟩,rfl,rfl⟩)
  refine AC<|Zx<|Zq<|Zg<|Za Y<|Z0<|Zx<|Zq<|Zg<|Zo Wh (Pa #[_,_,_,_,_,_,_,_,_,_] isAgg77 sizeOf77 Y) ?_;refine Xr [_] Y call112 Y rfl (QF x) ?_;refine Zm Y<|Zd Y rfl<|Zd Y rfl<|Ze (Al zeroValue113 #[_,_,_,_,_]) ?_;rintro _ _ ⟨xb,rfl,rfl⟩;refine Xe (Xw sizeOf113 #[I4 x.after.t,I4 x.after.k,I4 x.after.v.a,I4 x.after.v.b,I4 x.after.v.c]) ?_;refine Za Y<|Z0<|Zn [0,3,11,13,14,15,16,17] ?_;refine Zx<|Zq<|Zq<|Zg<|Zm Y<|Z0<|Zx ?_;refine Af Y (fun hh2=>?_) (fun hh2=>?_)
  ·
   refine Zg<|Zo Wh (Pa #[_,_,_,_,_] isAgg113 sizeOf113 Y) ?_;refine Ze (Ae (vs:=[_]) (cs:=[_,_,_,_,_]) underlying45 sizeOf113 zeroValue113 Y rfl rfl rfl rfl rfl) ?_;rintro _ _ ⟨gb,rfl,rfl⟩;refine Za Y<|Z0<|Zx<|Zq<|Zg<|Za Y<|Z0<|Zx<|Zq<|Bd ?_;refine Zg<|Zm Y<|Zm Y<|Zp Y rfl<|Zh 0 underlying182 rfl rfl sizeOf45 Y<|Zl isAgg45 Y ?_;refine Zm Y ?_;refine BM (Bc underlying45 sizeOf113 Y Y (by omega)) ?_;refine Ze (BR (by_:=40) (sz:=5) underlying45 (rfl:Tryz.prog.info? 113=some Tryz.t113) rfl rfl rfl rfl Y (BV 5 _) Y (Ic hrw k _ hpl) Wo Wo (by exact fun u hu=>CL qs u (vD hu)) (by omega) (by omega)) ?_;rintro _ _ ⟨sa,hra,rfl⟩;obtain ⟨ga,ca,rfl⟩:=hra.form;refine Zm Y ?_;refine Ze (BR (by_:=40) (sz:=5) underlying45 (rfl:Tryz.prog.info? 113=some Tryz.t113) rfl rfl rfl rfl Y (hra) Y (DY 5 gb 1 1 113 (0,0) (Ac [x.after]) rfl) Wo Wo (by exact CL _) (by omega) (by omega)) ?_;rintro _ _ ⟨sb,hrb,rfl⟩;obtain ⟨gb,cb,rfl⟩:=hrb.form;refine Zm Y ?_;refine Ze (BR (by_:=40) (sz:=5) underlying45 (rfl:Tryz.prog.info? 113=some Tryz.t113) rfl rfl rfl rfl Y (hrb) Y (Ie hrw k (qs.length -k) _ (by omega)) Wo Wo (by exact fun u hu=>CL qs u (vC hu)) (by omega) (by omega)) ?_;rintro _ _ ⟨sc,hrc,rfl⟩;have hnew:=BO hrc (n':=(EI qs x).length) (xs':=Ac (EI qs x)) (by rw [hput,UN hh2,if_neg (by rw [hh1];decide),tK,tK,tL,tN,tN];simp only [tY,vG];omega) (by rw [hput,UN hh2,if_neg (by rw [hh1];decide),BZ,BZ,←DX,←DK (qs.drop k) 0,←DK,yA,wO];rw [JQ hh2];rfl)
   obtain ⟨gc,cc,rfl⟩:=hrc.form;refine Za Y<|Z0<|Zn [0,3,11,18] ?_;refine Zx<|Zg<|Zm Y<|Zm Y<|Zp Y rfl<|Zh 0 underlying182 rfl rfl sizeOf45 Y<|Xe (Zs sizeOf45 Y Y rfl) ?_;refine Z0<|A8<|Zx<|Zg<|Zm Y<|Ya (n:=1) Y Y<|Za Y<|Z0<|Zn [11,0,3] ?_;refine Ab (e':=[(11,_)]) (by exact ⟨i+1,_,_,rfl,⟨by omega,by rw [E9 rs cs i x hx,←hqs];exact hnew⟩,rfl,rfl⟩)
  refine Bd ?_;refine AC<|Zx<|Zq<|Zg<|Za Y<|Z0<|Zx<|Zq<|Bd ?_;refine Zg<|Zm Y<|Zm Y<|Zp Y rfl<|Zh 0 underlying182 rfl rfl sizeOf45 Y<|Zl isAgg45 Y ?_;refine Zm Y ?_;refine BM (Bc underlying45 sizeOf113 Y Y (by omega)) ?_;refine Ze (BR (by_:=40) (sz:=5) underlying45 (rfl:Tryz.prog.info? 113=some Tryz.t113) rfl rfl rfl rfl Y (BV 5 _) Y (Ic hrw k _ hpl) Wo Wo (by exact fun u hu=>CL qs u (vD hu)) (by omega) (by omega)) ?_;rintro _ _ ⟨sa,hra,rfl⟩;obtain ⟨ga,ca,rfl⟩:=hra.form;refine Zm Y ?_;refine Ze (BR (by_:=40) (sz:=5) underlying45 (rfl:Tryz.prog.info? 113=some Tryz.t113) rfl rfl rfl rfl Y (hra) Y (SK 5 none 0) Wo Wo (by simp) (by omega) (by omega)) ?_;rintro _ _ ⟨sb,hrb,rfl⟩;obtain ⟨gb,cb,rfl⟩:=hrb.form;refine Zm Y ?_;refine Ze (BR (by_:=40) (sz:=5) underlying45 (rfl:Tryz.prog.info? 113=some Tryz.t113) rfl rfl rfl rfl Y (hrb) Y (Ie hrw k (qs.length -k) _ (by omega)) Wo Wo (by exact fun u hu=>CL qs u (vC hu)) (by omega) (by omega)) ?_;rintro _ _ ⟨sc,hrc,rfl⟩;have hnew:=BO hrc (n':=(EI qs x).length) (xs':=Ac (EI qs x)) (by rw [hput,UO hh2,if_neg (by rw [hh1];decide),tK,tK,tL,tN,tN];simp only [tY,vG];omega) (by rw [hput,UO hh2,if_neg (by rw [hh1];decide),BZ,BZ,←DX,←DK (qs.drop k) 0,←DK,yA,wO];rfl)
  obtain ⟨gc,cc,rfl⟩:=hrc.form;refine Za Y<|Z0<|Zn [0,3,11,18] ?_;refine Zx<|Zg<|Zm Y<|Zm Y<|Zp Y rfl<|Zh 0 underlying182 rfl rfl sizeOf45 Y<|Xe (Zs sizeOf45 Y Y rfl) ?_;refine Z0<|A8<|Zx<|Zg<|Zm Y<|Ya (n:=1) Y Y<|Za Y<|Z0<|Zn [11,0,3] ?_;refine Ab (e':=[(11,_)]) (by exact ⟨i+1,_,_,rfl,⟨by omega,by rw [E9 rs cs i x hx,←hqs];exact hnew⟩,rfl,rfl⟩)
 have ei:i=cs.length:=by omega
 subst ei;rw [uQ]at hqs;refine Ar<|Zt<|Zt<|AO<|Zx<|Zq<|Zg<|Zm Y<|Zh 0 underlying73 rfl rfl sizeOf3 Y<|Zl isAgg3 Y ?_;refine Zp Y rfl<|Zh 1 underlying182 rfl rfl sizeOf3 Y<|Xe (Zs sizeOf3 Y Y rfl) ?_;refine Z0<|Zx<|Zq<|Zg<|Za Y<|Z0<|Zx<|A9 ?_;refine AB rfl results48 Y (by exact .inl ⟨⟨hok,hpo,hfit,by omega⟩,_,sw,rfl,by rw [←hqs];exact hrw,rfl⟩)
end Go.Proofs.YtkdgffcfmgmemaaGreatDoor
