/- Sorted lists of rows: what a change does to them. -/
/- The reference of layer 4: Apply. -/
import Derived.Test.YtkdgffcfmgmemaaGreatDoorEz
import Derived.Test.YtkdgffcfmgmemaaGreatDoorLg7
import Derived.Test.YtkdgffcfmgmemaaGreatDoorEx16
set_option linter.unusedVariables false
set_option linter.unusedSimpArgs false
namespace Go.Proofs.YtkdgffcfmgmemaaGreatDoor
open Go.Proofs.Tryz
open Go Go.RowKit Gw
set_option maxRecDepth 100000
attribute [local irreducible] Gw.At Gw.Nx Gw.Ops
theorem L9:∀(rs:List AQ) (t k:Int),BJ rs→∃A B,rs=A++B∧A.length=Dr rs t k∧(∀r∈A,r.lt2 t k)∧(∀r∈B,¬r.lt2 t k)
 |[],t,k,_=>⟨[],[],rfl,rfl,by simp,by simp⟩
 |r::rs,t,k,hs=>by
  have hs':=wS.1 hs;by_cases h:r.lt2 t k
  · obtain ⟨A,B,h1,h2,h3,h4⟩:=L9 rs t k hs'.2
    refine ⟨r::A,B,by rw [h1];rfl,?_,?_,h4⟩
    · unfold Dr at*
      rw [xH,if_pos (by simpa using h),uJ,uJ,h2]
    · intro x hx
      rcases uV.1 hx with rfl|hx
      · exact h
      · exact h3 x hx
  · refine ⟨[],r::rs,rfl,?_,by simp,?_⟩
    · unfold Dr
      rw [xH,if_neg (by simpa using h)]
    · intro x hx hc
      rcases uV.1 hx with rfl|hx
      · exact h hc
      · exact h (Oe (hs'.1 x hx) hc)
theorem Tu{r:AQ}{t k:Int}(h:r.is t k):¬r.lt2 t k:=by unfold AQ.is AQ.lt2 at*;omega
theorem K5{rs:List AQ}{t k:Int}{r:AQ}(hs:BJ rs)(hr:r∈rs)(h:r.is t k):Fe rs t k=(r,true):=by
 obtain ⟨A,B,h1,h2,h3,h4⟩:=L9 rs t k hs;have hB:r∈B:=by
  rw [h1]at hr;rcases uQ.1 hr with h9|h9
  · exact absurd (h3 r h9) (Tu h)
  · exact h9
 cases B with
 |nil=>cases hB
 |cons b B=>
  have hb:b=r:=by
   rcases uV.1 hB with h9|h9
   · exact h9.symm
   · exfalso
     have hs2:BJ (b::B):=by rw [h1]at hs;exact (vR.1 hs).2.1
     have h8:=(wS.1 hs2).1 r h9;have h7:=h4 b (by simp)
     unfold AQ.is at h;rw [h.1,h.2]at h8;exact h7 h8
  subst hb;have hg:rs[Dr rs t k]?=some b:=by rw [←h2,h1,w9 (uG _),y8];rfl
  unfold Fe;rw [hg];simp only;rw [if_pos h]
theorem Oi{rs:List AQ}{t k:Int}(h:∀r∈rs,¬r.is t k):Fe rs t k=(AQ.zero,false):=by
 unfold Fe;split
 · rename_i r hr
   rw [if_neg (h r (uI hr))]
 · rfl
theorem JH{rs:List AQ}{t k:Int}(h:(Fe rs t k).2=true):∃r∈rs,r.is t k∧rs[Dr rs t k]?=some r∧Fe rs t k=(r,true):=by
 unfold Fe at*;split at h
 · rename_i r hr
   split at h
   · rename_i hi
     exact ⟨r,uI hr,hi,hr,by rw [if_pos hi]⟩
   · cases h
 · cases h
def Fh(rs:List AQ)(c:Chg):Prop:=(Fe rs c.t c.k).2=c.had∧((Fe rs c.t c.k).2=true→(Fe rs c.t c.k).1.v=c.o)
def Mf(c:Chg):List AQ:=if c.has then [⟨c.t,c.k,c.n⟩]else []
def EL(rs:List AQ)(c:Chg):List AQ:=rs.take (Dr rs c.t c.k)++Mf c++(rs.drop (Dr rs c.t c.k)).drop (if c.had then 1 else 0)
theorem Na{c:Chg}{x:AQ}:x∈Mf c↔c.has=true∧x=⟨c.t,c.k,c.n⟩:=by
 unfold Mf;cases c.has<;>simp
theorem OJ{rs:List AQ}{c:Chg}(hs:BJ rs)(hf:Fh rs c):∃A B,EL rs c=A++Mf c++B∧(∀x,x∈rs↔x∈A∨x∈B∨(x∈rs∧x.is c.t c.k))∧BJ A∧BJ B∧(∀r∈A,r.lt2 c.t c.k)∧(∀r∈B,c.t<r.t∨c.t=r.t∧c.k<r.k)∧rs.length=A.length+B.length+(if c.had then 1 else 0):=by
 obtain ⟨A,B,h1,h2,h3,h4⟩:=L9 rs c.t c.k hs;have hsA:BJ A:=by rw [h1]at hs;exact (vR.1 hs).1
 have hsB:BJ B:=by rw [h1]at hs;exact (vR.1 hs).2.1
 have hta:rs.take (Dr rs c.t c.k)=A:=by rw [←h2,h1,vG rfl]
 have hdr:rs.drop (Dr rs c.t c.k)=B:=by rw [←h2,h1,xL rfl]
 unfold EL;rw [hta,hdr];have gt_of:∀x∈B,¬x.is c.t c.k→c.t<x.t∨c.t=x.t∧c.k<x.k:=fun x hx hn=>by
  have h9:=h4 x hx;unfold AQ.lt2 at h9;unfold AQ.is at hn;omega
 cases hh:c.had with
 |false=>
  have hno:∀r∈rs,¬r.is c.t c.k:=fun r hr hi=>by
   have h9:=hf.1;rw [K5 hs hr hi,hh]at h9;cases h9
  refine ⟨A,B,by simp,fun x=>?_,hsA,hsB,h3,fun r hr=>gt_of r hr (hno r (by rw [h1];exact uN _ hr)),by rw [h1];simp⟩;rw [h1,uQ];constructor
  · rintro (h|h)
    · exact .inl h
    · exact .inr (.inl h)
  · rintro (h|h|⟨h,_⟩)
    · exact .inl h
    · exact .inr h
    · exact h
 |true=>
  obtain ⟨r,hr,hi,hp,hg⟩:=JH (by rw [hf.1,hh]:(Fe rs c.t c.k).2=true);have hb:B[0]?=some r:=by rw [←h2,h1,w9 (uG _),y8]at hp;exact hp
  cases B with
  |nil=>cases hb
  |cons b B=>
   injection hb with hb
   subst hb;have hsB2:=wS.1 hsB
   refine ⟨A,B,by simp,fun x=>?_,hsA,hsB2.2,h3,fun x hx=>?_,by rw [h1];simp;omega⟩
   · constructor
     · intro hx
       have hx2:=hx;rw [h1]at hx;rcases uQ.1 hx with h|h
       · exact .inl h
       · rcases uV.1 h with rfl|h
         · exact .inr (.inr ⟨hx2,hi⟩)
         · exact .inr (.inl h)
     · rintro (h|h|⟨h,_⟩)
       · rw [h1];exact uZ _ h
       · rw [h1];exact uN _ (vC _ h)
       · exact h
   · have h9:=hsB2.1 x hx
     unfold AQ.lt2 at h9;unfold AQ.is at hi;omega
theorem Fb{rs:List AQ}{c:Chg}(hs:BJ rs)(hf:Fh rs c)(x:AQ):x∈EL rs c↔(x∈rs∧¬x.is c.t c.k)∨(c.has=true∧x=⟨c.t,c.k,c.n⟩):=by
 obtain ⟨A,B,h1,h2,_,_,h3,h4,_⟩:=OJ hs hf;rw [h1,uQ,uQ,Na];have a9:∀x∈A,¬x.is c.t c.k:=fun x hx hi=>Tu hi (h3 x hx)
 have b9:∀x∈B,¬x.is c.t c.k:=fun x hx hi=>by have h9:=h4 x hx;unfold AQ.is at hi;omega
 constructor
 · rintro ((h|h)|h)
   · exact .inl ⟨(h2 x).2 (.inl h),a9 x h⟩
   · exact .inr h
   · exact .inl ⟨(h2 x).2 (.inr (.inl h)),b9 x h⟩
 · rintro (⟨h,hn⟩|h)
   · rcases (h2 x).1 h with h9|h9|⟨_,h9⟩
     · exact .inl (.inl h9)
     · exact .inr h9
     · exact absurd h9 hn
   · exact .inl (.inr h)
theorem J6{rs:List AQ}{c:Chg}(hs:BJ rs)(hf:Fh rs c):BJ (EL rs c):=by
 obtain ⟨A,B,h1,_,hA,hB,h3,h4,_⟩:=OJ hs hf;rw [h1];have lt_of:∀a b:AQ,a.lt2 c.t c.k→(c.t<b.t∨c.t=b.t∧c.k<b.k)→a.lt2 b.t b.k:=fun a b ha hb=>by unfold AQ.lt2 at*;omega
 refine vR.2 ⟨vR.2 ⟨hA,?_,?_⟩,hB,?_⟩
 · unfold Mf;split<;>simp
 · intro a ha b hb
   obtain ⟨_,rfl⟩:=Na.1 hb;exact h3 a ha
 · intro a ha b hb
   rcases uQ.1 ha with ha|ha
   · exact lt_of a b (h3 a ha) (h4 b hb)
   · obtain ⟨_,rfl⟩:=Na.1 ha
     have:=h4 b hb;unfold AQ.lt2;simp only;omega
theorem nM{rs:List AQ}{c:Chg}(hs:BJ rs)(hf:Fh rs c):((EL rs c).length:Int)=rs.length+(if c.has then 1 else 0) -(if c.had then 1 else 0):=by
 obtain ⟨A,B,h1,_,_,_,_,_,h5⟩:=OJ hs hf;rw [h1,h5];unfold Mf;cases c.has<;>cases c.had<;>simp<;>omega
theorem nu{rs:List AQ}{c:Chg}(hs:BJ rs)(hf:Fh rs c){t k:Int}(hne:¬(c.t=t∧c.k=k)):Fe (EL rs c) t k=Fe rs t k:=by
 cases hg:(Fe rs t k).2 with
 |true=>
  obtain ⟨r,hr,hi,_,he⟩:=JH hg;rw [he];exact K5 (J6 hs hf) ((Fb hs hf r).2 (.inl ⟨hr,fun h=>by unfold AQ.is at h hi;omega⟩)) hi
 |false=>
  have hno:∀r∈rs,¬r.is t k:=fun r hr hi=>by rw [K5 hs hr hi]at hg;cases hg
  rw [Oi hno];refine Oi fun r hr hi=>?_;rcases (Fb hs hf r).1 hr with⟨h,_⟩|⟨_,rfl⟩
  · exact hno r h hi
  · exact hne hi
def DN(rs:List AQ)(cs:List Chg):List AQ:=cs.foldl EL rs
theorem EF(rs:List AQ)(cs:List Chg)(i:Nat)(c:Chg)(h:cs[i]?=some c):DN rs (cs.take (i+1))=EL (DN rs (cs.take i)) c:=by
 unfold DN;rw [vW,h,wW];rfl
def oJ(cs:List Chg):Prop:=∀(i j:Nat) (b c:Chg),i<j→cs[i]?=some b→cs[j]?=some c→b.lt c
theorem fQ{a b c:Chg}(h:a.lt b)(h2:b.lt c):a.lt c:=by unfold Chg.lt at*;omega
theorem Ra{cs:List Chg}(h:∀(i:Nat) (b c:Chg),cs[i]?=some b→cs[i+1]?=some c→b.lt c):oJ cs:=by
 intro i j b c hij hb hc;obtain ⟨d,rfl⟩:∃d,j=i+1+d:=⟨j -(i+1),by omega⟩;clear hij;induction d generalizing c with
 |zero=>exact h i b c hb hc
 |succ d ih=>
  obtain ⟨x,hx⟩:∃x,cs[i+1+d]?=some x:=by
   have:=(tu.1 hc).1;exact ⟨_,tq (by omega)⟩
  exact fQ (ih x hx) (h (i+1+d) x c hx hc)
theorem K6{rs:List AQ}{cs:List Chg}(hs:BJ rs)(ha:oJ cs)(hf:∀c∈cs,Fh rs c):∀i,i≤cs.length→BJ (DN rs (cs.take i))∧∀(j:Nat) (c:Chg),i≤j→cs[j]?=some c→Fh (DN rs (cs.take i)) c
 |0,_=>⟨hs,fun j c _ hc=>hf c (uI hc)⟩
 |i+1,hi=>by
  obtain ⟨h1,h2⟩:=K6 hs ha hf i (by omega);obtain ⟨x,hx⟩:∃x,cs[i]?=some x:=⟨_,tq (by omega)⟩;rw [EF rs cs i x hx];have hfx:=h2 i x (uG _) hx
  refine ⟨J6 h1 hfx,fun j c hj hc=>?_⟩;have hlt:=ha i j x c (by omega) hx hc
  have h9:=h2 j c (by omega) hc;unfold Fh at*;rw [nu h1 hfx (by unfold Chg.lt at hlt;omega)];exact h9
def ME(c:Chg):Int:=(if c.has then 1 else 0) -(if c.had then 1 else 0)
def GX(rs:List AQ)(cs:List Chg):Int:=cs.foldl (fun n c=>n+ME c) (rs.length:Int)
theorem Gs(rs:List AQ)(cs:List Chg)(i:Nat)(c:Chg)(h:cs[i]?=some c):GX rs (cs.take (i+1))=GX rs (cs.take i)+ME c:=by
 unfold GX;rw [vW,h,wW];rfl
theorem iG(c:Chg):-1≤ME c∧ME c≤1:=by unfold ME;split<;>split<;>omega
theorem NI(rs:List AQ)(cs:List Chg):∀i,(rs.length:Int) -i≤GX rs (cs.take i)∧GX rs (cs.take i)≤rs.length+i
 |0=>by unfold GX;simp
 |i+1=>by
  have ih:=NI rs cs i;cases h:cs[i]?with
  |none=>rw [vW,h];simp only [Option.toList,uj];omega
  |some c=>have h9:=iG c;rw [Gs rs cs i c h];omega
theorem Mh{rs:List AQ}{cs:List Chg}(hs:BJ rs)(ha:oJ cs)(hf:∀c∈cs,Fh rs c):∀i,i≤cs.length→((DN rs (cs.take i)).length:Int)=GX rs (cs.take i)
 |0,_=>rfl
 |i+1,hi=>by
  obtain ⟨x,hx⟩:∃x,cs[i]?=some x:=⟨_,tq (by omega)⟩;have ih:=Mh hs ha hf i (by omega)
  obtain ⟨h1,h2⟩:=K6 hs ha hf i (by omega);rw [EF rs cs i x hx,Gs rs cs i x hx,nM h1 (h2 i x (uG _) hx),ih];unfold ME;omega
structure MQ(rs:List AQ)(p rp:Int)(cs:List Chg):Prop where
 ok:EY rp cs
 pos:rp=p+1
 fit:∀c∈cs,Fh rs c
 size:GX rs cs≤2000
theorem IE{rs:List AQ}{cs:List Chg}{i:Nat}{x:Chg}(h:∀c∈cs.take i,Fh rs c)(hx:cs[i]?=some x)(ho:Fh rs x):∀c∈cs.take (i+1),Fh rs c:=by
 rw [vW,hx];intro c hc;rcases uQ.1 hc with h9|h9
 · exact h c h9
 · rw [uL.1 h9];exact ho
theorem Bb(a b:List AQ):Ae (a++b)=Ae a++Ae b:=by unfold Ae;rw [wG]
theorem BG:∀(rs:List AQ),(Ae rs).length=rs.length*5
 |[]=>rfl
 |r::rs=>by
  have:=BG rs;unfold Ae at*;rw [vE,u6,this,uJ];simp;omega
theorem De(rs:List AQ)(k:Nat):(Ae rs).take (k*5)=Ae (rs.take k):=by
 rcases uU rs.length k with h|h
 · rw [uf (by rw [BG];omega),uf (by omega)]
 · have e:Ae rs=Ae (rs.take k)++Ae (rs.drop k):=by rw [←Bb,uw]
   rw [e,vG (by rw [BG,uD];omega)]
theorem DV(rs:List AQ)(k:Nat):(Ae rs).drop (k*5)=Ae (rs.drop k):=by
 rcases uU rs.length k with h|h
 · rw [vU (by rw [BG];omega),vU (by omega)];rfl
 · have e:Ae rs=Ae (rs.take k)++Ae (rs.drop k):=by rw [←Bb,uw]
   rw [e,xL (by rw [BG,uD];omega)]
theorem CS(rs:List AQ):∀u∈Ae rs,u.oneCell'=true:=by
 intro u hu;unfold Ae at hu;obtain ⟨r,_,h⟩:=xY.1 hu;simp only [uV,wC,or_false]at h;rcases h with rfl|rfl|rfl|rfl|rfl<;>rfl
theorem BP{sz:Nat}{e:TypeId}{v:Value}{n n':Nat}{xs xs':List Value}{s:List AU}(h:BZ sz e v n xs s)(hn:n=n')(hx:xs=xs'):BZ sz e v n' xs' s:=by subst hn hx;exact h
theorem FL{sz:Nat}{e:TypeId}{b:Option Addr}{n c:Nat}{xs:List Value}{s:List AU}(h:BZ sz e (.slice b n c) n xs s):n≤c:=by
 obtain ⟨_,⟨hv,h0,_⟩|⟨_,_,_,_,hv,_,h2,_⟩⟩:=h
 · omega
 · injection hv with _ _ hv3;omega
theorem Sm(sz:Nat)(b:Option Addr)(c:Nat):MP sz (.slice b 0 c) 0 [] []:=⟨by simp,.inl ⟨rfl,b,c,rfl⟩⟩
theorem Da(sz g k c:Nat)(e:TypeId)(z:Nat×Nat)(xs:List Value)(h:xs.length=k*sz):MP sz (I6 g k c) k xs [(g,.cells xs.toArray e z)]:=
 ⟨h,.inr ⟨g,0,c,xs.toArray,e,z,rfl,rfl,by unfold CB;rw [wm];simp⟩⟩
theorem Uh{c:Chg}(h:c.has=true):Mf c=[⟨c.t,c.k,c.n⟩]:=if_pos h
theorem Ui{c:Chg}(h:c.has=false):Mf c=[]:=if_neg (by rw [h];decide)
theorem ZR{rs:List AQ}{cs:List Chg}{i:Nat}{x:Chg}(hx:cs[i]?=some x)(h1:x.had=true)(h2:x.has=true):GX rs (cs.take (i+1))=GX rs (cs.take i) -1+1:=by rw [Gs rs cs i x hx];unfold ME;rw [if_pos h2,if_pos h1];omega
theorem ZT{rs:List AQ}{cs:List Chg}{i:Nat}{x:Chg}(hx:cs[i]?=some x)(h1:x.had=true)(h2:x.has=false):GX rs (cs.take (i+1))=GX rs (cs.take i) -1:=by rw [Gs rs cs i x hx];unfold ME;rw [if_neg (by rw [h2];decide),if_pos h1];omega
theorem ZU{rs:List AQ}{cs:List Chg}{i:Nat}{x:Chg}(hx:cs[i]?=some x)(h1:x.had=false)(h2:x.has=true):GX rs (cs.take (i+1))=GX rs (cs.take i)+1:=by rw [Gs rs cs i x hx];unfold ME;rw [if_pos h2,if_neg (by rw [h1];decide)];omega
theorem ZV{rs:List AQ}{cs:List Chg}{i:Nat}{x:Chg}(hx:cs[i]?=some x)(h1:x.had=false)(h2:x.has=false):GX rs (cs.take (i+1))=GX rs (cs.take i):=by rw [Gs rs cs i x hx];unfold ME;rw [if_neg (by rw [h2];decide),if_neg (by rw [h1];decide)];omega
theorem Vx(sp:Nat)(p rp:Int)(v:Value)(rs:List AQ)(sv M:List AU)(q:Option Addr)(capc:Nat)(cs:List Chg)(hrow:BZ 5 113 v rs.length (Ae rs) sv)(hO:Dm M (.slice q cs.length capc) cs)(hs:BJ rs)(hn:rs.length≤2000)(hp:0≤p∧p≤10000):
 CQ Tryz.prog 48 #[I5 sp,.agg #[I4 rp,.slice q cs.length capc]] [[(sp,.cells #[v,I4 p] 182 (0,0))],sv,M] (fun r H'=>(MQ rs p rp cs∧∃v' sv',r=I4 0∧BZ 5 113 v' (DN rs cs).length (Ae (DN rs cs)) sv'∧H'=[[(sp,.cells #[v',I4 rp] 182 (0,0))],sv',M])∨(¬MQ rs p rp cs∧r=I4 40∧H'=[[(sp,.cells #[v,I4 p] 182 (0,0))],sv,M])):=by
 have hml:=mL;obtain ⟨qv,capv,rfl⟩:=hrow.form;have hRI:=Jo hrow (by omega)
 obtain ⟨p9,cap9,e9,hol,hg⟩:=id hO;injection e9 with e91 e92 e93
 subst e91 e93;refine Se func48 ntmps48 [0,1] ?_;intro u R;refine Zq<|Zg<|Ze (Bx #[_,_]) ?_;rintro _ _ ⟨rb,rfl,rfl⟩;refine Za Y<|Z0<|Zx<|Zq<|Zg<|Zo Wh (Pa #[_,_] isAgg73 sizeOf73 Y) ?_;refine Xr [_] Y call109 Y rfl (OH rp q capc cs M hO) ?_;refine Za Y<|Z0<|Zx<|Zq<|Zq<|BK (n:=12) (0::1::3::7::15::7::39::103::231::487::1023::2047::[]) 0 (by kernel_rfl) (by kernel_rfl) rfl ?_;refine Zi 1 0 rfl (AL Y)<|Zi 3 1 rfl (CL Y)<|Zi 7 2 rfl (AL Y) ?_;refine CZ (t:=23) Y (fun hv=>?_) (fun hv=>?_)
 ·
  first|rw [decide_eq_true hv]|rw [hv]|skip
  refine Yk 15 3 rfl<|Yk 31 4 rfl<|Yk 63 5 rfl<|Yk 127 6 rfl<|Yk 255 7 rfl<|Yk 511 8 rfl<|Yk 1023 9 rfl<|Yk 2047 10 rfl<|Zi 4095 11 rfl (AO Y Y)<|Ao ?_;refine Zn [0,3,32] ?_;refine Zx<|CP Y<|Zq<|Zg<|Za Y<|Z0<|Zx<|AA<|Zt ?_;refine AJ rfl results48 Y (by exact .inr ⟨fun h=>hv h.ok,rfl,rfl⟩)
 first|rw [decide_eq_false hv]|rw [hv]|skip
 refine Ai (D':=15) 3 Y rfl rfl rfl (AY (off:=0) underlying73 rfl rfl sizeOf3 Y) ?_;refine Bn (D':=31) 4 Y rfl rfl rfl Wh (Bh isAgg3 Y (by rfl)) ?_;refine Ai (D':=63) 5 Y rfl rfl rfl (AL Y) ?_;refine Ai (D':=127) 6 Y rfl rfl rfl (EB Y rfl) ?_;refine Ai (D':=255) 7 Y rfl rfl rfl (AY (off:=1) underlying182 rfl rfl sizeOf3 Y) ?_;refine Bn (D':=511) 8 Y rfl rfl rfl Wh (Bh isAgg3 Y (by rfl)) ?_
 (refine Ai (D':=1023) 9 Y rfl rfl rfl (JX Y Y (IntWalk.i64_in _ ?_)) ?_;(focus (omega)))
 refine Ai (D':=2047) 10 Y rfl rfl rfl (IX Y Y) ?_;refine Zi 4095 11 rfl (AC Y Y)<|Ao ?_;refine Zn [0,3,32] ?_;refine Zx ?_;refine Aq Y (fun hpos=>?_) (fun hpos=>?_)
 ·
  refine Zq<|Zg<|Za Y<|Z0<|Zx<|AA<|Zt ?_;refine AJ rfl results48 Y (by exact .inr ⟨fun h=>hpos h.pos,rfl,rfl⟩)
 refine AB<|Zx<|Zq ?_;have hok:=uS.1 hv
 have hpo:=uS.1 hpos;have hcl:=hok.len
 have hasc:=Ra hok.ord;refine Zg<|Zm Y<|Zp Y rfl<|Zh 0 underlying182 rfl rfl sizeOf45 Y<|Zl isAgg45 Y ?_;refine Zv (AV underlying45 Y)<|Za Y<|Z0<|Zx<|Zq<|Zq<|Zg<|Za Y<|Z0<|Zx<|AR<|Zb [6,7,0,3] ?_;refine BB (e0:=[(6,_),(7,_)]) (fun m e H=>∃(i:Nat),m=cs.length -i∧(i≤cs.length∧(∀c∈cs.take i,Fh rs c))∧e=[(6,I4 (GX rs (cs.take i))),(7,I4 (i:Int))]∧H=[]) (by exact ⟨0,rfl,⟨uK _,by simp⟩,rfl,rfl⟩) Wp ?_;rintro _ _ _ ⟨i,rfl,⟨hi,hfit⟩,rfl,rfl⟩;have hsl:=NI rs cs i
 refine Zq<|Zq<|Zg<|Zm Y<|Zh 1 underlying73 rfl rfl sizeOf71 Y<|Zl isAgg71 Y ?_;refine Zv (AV underlying71 Y)<|Zv (Av Y Y)<|Z0<|Zx ?_;refine Aq Y (fun hlt=>?_) (fun hlt=>?_)
 ·
  refine AB<|Zx<|Zq<|AR<|Zq ?_;obtain ⟨x,hx⟩:∃x,cs[i]?=some x:=⟨_,tq hlt⟩;obtain ⟨g,off,cur,T,zz,rfl,hm,hsz,hex⟩:=hg i x hx;refine Zg<|Zh 1 underlying73 rfl rfl sizeOf71 Y<|Zl isAgg71 Y ?_;refine Zm Y ?_;refine BO (Ac underlying71 sizeOf77 Y Y (by omega)) ?_;refine Cm (cs:=[(g,.cells cur T zz)]) (by simp [hm]) (AZ (cs:=#[I4 x.t,I4 x.k,.bool x.had,I4 x.o.a,I4 x.o.b,I4 x.o.c,.bool x.has,I4 x.n.a,I4 x.n.b,I4 x.n.c]) isAgg77 sizeOf77 Y (by omega) hex) rfl rfl ?_;refine Ze (Al zeroValue77 #[_,_,_,_,_,_,_,_,_,_]) ?_;rintro _ _ ⟨cb,rfl,rfl⟩;refine Xe (Xw sizeOf77 #[I4 x.t,I4 x.k,.bool x.had,I4 x.o.a,I4 x.o.b,I4 x.o.c,.bool x.has,I4 x.n.a,I4 x.n.b,I4 x.n.c]) ?_;refine Z0<|Zx<|Zq<|Zg<|Zm Y<|Zh 0 underlying77 rfl rfl sizeOf3 Y<|Zl isAgg3 Y ?_;refine Zh 1 underlying77 rfl rfl sizeOf3 Y<|Zl isAgg3 Y ?_;refine Xr [_,_,_] Y call110 Y rfl (ic sp qv capv p x.t x.k rs sv hRI (by omega) hs) ?_;obtain ⟨gr,hgr⟩:∃gr,gr=Fe rs x.t x.k:=⟨_,rfl⟩;rw [←hgr];refine Zm Y<|Zd Y rfl<|Zd Y rfl<|Ze (Al zeroValue113 #[_,_,_,_,_]) ?_;rintro _ _ ⟨xb,rfl,rfl⟩;refine Xe (Xw sizeOf113 #[I4 gr.1.t,I4 gr.1.k,I4 gr.1.v.a,I4 gr.1.v.b,I4 gr.1.v.c]) ?_;refine Za Y<|Z0<|Zn [0,3,6,7,8,9,10] ?_;refine Zx<|Zq<|Zq<|Zg<|Zm Y<|Zh 2 underlying77 rfl rfl sizeOf4 Y<|Zl isAgg4 Y ?_;refine Zv (JA underlying4 Y Y)<|Zm Y ?_;refine Aj (t:=63) Y rfl (fun hd1=>?_) (fun hd1=>?_)
  ·
   refine A7 Y rfl<|A7 Y rfl<|A7 Y rfl<|A7 Y rfl<|A7 Y rfl<|A7 Y rfl<|A7 Y rfl<|A7 Y rfl<|Zv (AO Y Y)<|Z0<|Zn [0,3,6,7,8,72] ?_;refine Zx<|CP Y<|Zq<|Zg<|Za Y<|Z0<|Zx<|AA<|Zt<|AX<|Zt<|Zt<|AX<|Zt ?_;refine AJ rfl results48 Y (by exact .inr ⟨fun h=>by have h9:=(h.fit x (uI hx)).1;rw [←hgr]at h9;exact hd1 h9,rfl,rfl⟩)
  refine Zf Y Y<|Zf Y Y ?_;refine Ak (t:=65) Y rfl (fun hd2=>?_) (fun hd2=>?_)
  ·
   refine Yf 2 underlying113 rfl rfl sizeOf75 Y<|D8 Y Wh (Pa #[_,_,_] isAgg75 sizeOf75 Y) rfl rfl ?_;refine Yf 3 underlying77 rfl rfl sizeOf75 Y<|D8 Y Wh (AZ (cs:=#[_,_,_]) isAgg75 sizeOf75 Y (by(simp;done)) (by rfl)) rfl rfl ?_;refine Yg (KN (by kernel_rfl) underlying75 underlying3 isAgg3 sizeOf3 Y Y) ?_;refine Yg (AO Y Y)<|Zv (AC Y Y)<|Z0<|Zn [0,3,6,7,8,72] ?_;refine Zx ?_;refine Aq Y (fun hd3=>?_) (fun hd3=>?_)
   ·
    refine Zq<|Zg<|Za Y<|Z0<|Zx<|AA<|Zt<|AX<|Zt<|Zt<|AX<|Zt ?_;refine AJ rfl results48 Y (by exact .inr ⟨fun h=>by have h9:=(h.fit x (uI hx)).2;rw [←hgr]at h9;exact hd3 (h9 hd2),rfl,rfl⟩)
   refine AB<|Zx<|Zq<|Zq ?_;have hfx:Fh rs x:=by
    unfold Fh;rw [←hgr];refine ⟨by simpa using hd1,fun h=>?_⟩;exact uS.1 hd3
   refine Zg<|Zh 2 underlying77 rfl rfl sizeOf4 Y<|Zl isAgg4 Y ?_;refine Z0<|Zx ?_;refine Ag Y (fun hh1=>?_) (fun hh1=>?_)
   ·
    refine Zg<|Zm Y ?_
    (refine BO (GM Y Y (IntWalk.i64_in _ ?_)) ?_;(focus (omega)))
    refine Za Y<|Z0<|Zx<|Zq<|Zg<|Zh 6 underlying77 rfl rfl sizeOf4 Y<|Zl isAgg4 Y ?_;refine Z0<|Zx ?_;refine Ag Y (fun hh2=>?_) (fun hh2=>?_)
    ·
     refine Zg<|Zm Y<|Yi Y Y<|Za Y<|Z0<|A8<|Zx<|Zg<|Zm Y<|Ya (n:=1) Y Y<|Za Y<|Z0<|Zn [6,7,0,3] ?_;refine Aa (e':=[(6,_),(7,_)]) (by exact ⟨i+1,rfl,⟨by omega,IE hfit hx hfx⟩,by rw [ZR hx hh1 hh2],rfl⟩)
    refine AB<|A8<|Zx<|Zg<|Zm Y<|Ya (n:=1) Y Y<|Za Y<|Z0<|Zn [6,7,0,3] ?_;refine Aa (e':=[(6,_),(7,_)]) (by exact ⟨i+1,rfl,⟨by omega,IE hfit hx hfx⟩,by rw [ZT hx hh1 hh2],rfl⟩)
   refine AB<|Zx<|Zq<|Zg<|Zh 6 underlying77 rfl rfl sizeOf4 Y<|Zl isAgg4 Y ?_;refine Z0<|Zx ?_;refine Ag Y (fun hh2=>?_) (fun hh2=>?_)
   ·
    refine Zg<|Zm Y<|Yi Y Y<|Za Y<|Z0<|A8<|Zx<|Zg<|Zm Y<|Ya (n:=1) Y Y<|Za Y<|Z0<|Zn [6,7,0,3] ?_;refine Aa (e':=[(6,_),(7,_)]) (by exact ⟨i+1,rfl,⟨by omega,IE hfit hx hfx⟩,by rw [ZU hx hh1 hh2],rfl⟩)
   refine AB<|A8<|Zx<|Zg<|Zm Y<|Ya (n:=1) Y Y<|Za Y<|Z0<|Zn [6,7,0,3] ?_;refine Aa (e':=[(6,_),(7,_)]) (by exact ⟨i+1,rfl,⟨by omega,IE hfit hx hfx⟩,by rw [ZV hx hh1 hh2],rfl⟩)
  refine A7 Y rfl<|A7 Y rfl<|A7 Y rfl<|A7 Y rfl<|A7 Y rfl<|Yg (AC Y Y)<|Zv (AC Y Y)<|Z0<|Zn [0,3,6,7,8,72] ?_;refine Zx<|Dn Y<|AB<|Zx<|Zq<|Zq ?_;have hfx:Fh rs x:=by
   unfold Fh;rw [←hgr];refine ⟨by simpa using hd1,fun h=>?_⟩
   (rw [h]at hd2;cases hd2)
  refine Zg<|Zh 2 underlying77 rfl rfl sizeOf4 Y<|Zl isAgg4 Y ?_;refine Z0<|Zx ?_;refine Ag Y (fun hh1=>?_) (fun hh1=>?_)
  ·
   refine Zg<|Zm Y ?_
   (refine BO (GM Y Y (IntWalk.i64_in _ ?_)) ?_;(focus (omega)))
   refine Za Y<|Z0<|Zx<|Zq<|Zg<|Zh 6 underlying77 rfl rfl sizeOf4 Y<|Zl isAgg4 Y ?_;refine Z0<|Zx ?_;refine Ag Y (fun hh2=>?_) (fun hh2=>?_)
   ·
    refine Zg<|Zm Y<|Yi Y Y<|Za Y<|Z0<|A8<|Zx<|Zg<|Zm Y<|Ya (n:=1) Y Y<|Za Y<|Z0<|Zn [6,7,0,3] ?_;refine Aa (e':=[(6,_),(7,_)]) (by exact ⟨i+1,rfl,⟨by omega,IE hfit hx hfx⟩,by rw [ZR hx hh1 hh2],rfl⟩)
   refine AB<|A8<|Zx<|Zg<|Zm Y<|Ya (n:=1) Y Y<|Za Y<|Z0<|Zn [6,7,0,3] ?_;refine Aa (e':=[(6,_),(7,_)]) (by exact ⟨i+1,rfl,⟨by omega,IE hfit hx hfx⟩,by rw [ZT hx hh1 hh2],rfl⟩)
  refine AB<|Zx<|Zq<|Zg<|Zh 6 underlying77 rfl rfl sizeOf4 Y<|Zl isAgg4 Y ?_;refine Z0<|Zx ?_;refine Ag Y (fun hh2=>?_) (fun hh2=>?_)
  ·
   refine Zg<|Zm Y<|Yi Y Y<|Za Y<|Z0<|A8<|Zx<|Zg<|Zm Y<|Ya (n:=1) Y Y<|Za Y<|Z0<|Zn [6,7,0,3] ?_;refine Aa (e':=[(6,_),(7,_)]) (by exact ⟨i+1,rfl,⟨by omega,IE hfit hx hfx⟩,by rw [ZU hx hh1 hh2],rfl⟩)
  refine AB<|A8<|Zx<|Zg<|Zm Y<|Ya (n:=1) Y Y<|Za Y<|Z0<|Zn [6,7,0,3] ?_;refine Aa (e':=[(6,_),(7,_)]) (by exact ⟨i+1,rfl,⟨by omega,IE hfit hx hfx⟩,by rw [ZV hx hh1 hh2],rfl⟩)
 have ei:i=cs.length:=by omega
 subst ei;rw [ug]at hfit hsl⊢;refine Aw<|Zt<|Zt<|AP<|Zx<|Zq<|Zq<|Zg<|Zm Y<|Zv (Eu Y Y)<|Z0<|Zx ?_;refine Aq Y (fun hbig=>?_) (fun hbig=>?_)
 ·
  refine Zq<|Zg<|Za Y<|Z0<|Zx<|AA<|Zt ?_;refine AJ rfl results48 Y (by exact .inr ⟨fun h=>by have h9:=h.size;omega,rfl,rfl⟩)
 refine AB<|Zx<|Zq<|Zq<|Zg<|Za Y<|Z0<|Zx<|AR<|Zb [11,0,3] ?_;refine BB (e0:=[(11,_)]) (fun m e H=>∃(i:Nat) (w:Value) (sw:List AU),m=cs.length -i∧(i≤cs.length∧BZ 5 113 w (DN rs (cs.take i)).length (Ae (DN rs (cs.take i))) sw)∧e=[(11,I4 (i:Int))]∧H=[[(sp,.cells #[w,I4 p] 182 (0,0))],sw]) (by exact ⟨0,_,sv,rfl,⟨uK _,hrow⟩,rfl,rfl⟩) Wp ?_;rintro _ _ _ ⟨i,w,sw,rfl,⟨hi,hrw⟩,rfl,rfl⟩;obtain ⟨hsq,hfq⟩:=K6 hs hasc hfit i hi;have hlq:=Mh hs hasc hfit i hi
 have hsl:=NI rs cs i;obtain ⟨qs,hqs⟩:∃qs,qs=DN rs (cs.take i):=⟨_,rfl⟩;rw [←hqs]at hrw hsq hlq hfq;obtain ⟨qw,capw,rfl⟩:=hrw.form;have hcw:=FL hrw
 have hRW:=Jo hrw (by omega);refine Zq<|Zq<|Zg<|Zm Y<|Zh 1 underlying73 rfl rfl sizeOf71 Y<|Zl isAgg71 Y ?_;refine Zv (AV underlying71 Y)<|Zv (Av Y Y)<|Z0<|Zx ?_;refine Aq Y (fun hlt=>?_) (fun hlt=>?_)
 ·
  refine AB<|Zx<|Zq<|AR<|Zq ?_;obtain ⟨x,hx⟩:∃x,cs[i]?=some x:=⟨_,tq hlt⟩;obtain ⟨g,off,cur,T,zz,rfl,hm,hsz,hex⟩:=hg i x hx;have hfx:=hfq i x (uG _) hx
  have hpl:=TL qs x.t x.k;have hput:EL qs x=qs.take (Dr qs x.t x.k)++Mf x++(qs.drop (Dr qs x.t x.k)).drop (if x.had then 1 else 0):=rfl
  obtain ⟨k,hk⟩:∃k,k=Dr qs x.t x.k:=⟨_,rfl⟩;have hkt:x.had=true→k<qs.length:=fun h=>by
   obtain ⟨r,_,_,h9,_⟩:=JH (by rw [hfx.1,h]:(Fe qs x.t x.k).2=true);rw [←hk]at h9;exact (tu.1 h9).1
  rw [←hk]at hpl hput;refine Zg<|Zh 1 underlying73 rfl rfl sizeOf71 Y<|Zl isAgg71 Y ?_;refine Zm Y ?_;refine BO (Ac underlying71 sizeOf77 Y Y (by omega)) ?_;refine Cm (cs:=[(g,.cells cur T zz)]) (by simp [hm]) (AZ (cs:=#[I4 x.t,I4 x.k,.bool x.had,I4 x.o.a,I4 x.o.b,I4 x.o.c,.bool x.has,I4 x.n.a,I4 x.n.b,I4 x.n.c]) isAgg77 sizeOf77 Y (by omega) hex) rfl rfl ?_;refine Ze (Al zeroValue77 #[_,_,_,_,_,_,_,_,_,_]) ?_;rintro _ _ ⟨cb,rfl,rfl⟩;refine Xe (Xw sizeOf77 #[I4 x.t,I4 x.k,.bool x.had,I4 x.o.a,I4 x.o.b,I4 x.o.c,.bool x.has,I4 x.n.a,I4 x.n.b,I4 x.n.c]) ?_;refine Z0<|Zx<|Zq<|Zg<|Zm Y<|Zh 0 underlying77 rfl rfl sizeOf3 Y<|Zl isAgg3 Y ?_;refine Zh 1 underlying77 rfl rfl sizeOf3 Y<|Zl isAgg3 Y ?_;refine Xr [_,_,_] Y call111 Y rfl (Vv sp qw capw p x.t x.k qs sw hRW (by omega) hsq) ?_;rw [←hk];refine Za Y<|Z0<|Zn [0,3,11,12,13] ?_;refine Zx<|Zq<|Zg<|Zm Y<|Zp Y rfl<|Zh 0 underlying182 rfl rfl sizeOf45 Y<|Zl isAgg45 Y ?_;refine Zm Y ?_;refine BO (CE underlying45 sizeOf113 Y Y (by omega)) ?_;refine Za Y<|Z0<|Zx<|Zq<|Zq<|Zg<|Zh 2 underlying77 rfl rfl sizeOf4 Y<|Zl isAgg4 Y ?_;refine Z0<|Zx ?_;refine Ag Y (fun hh1=>?_) (fun hh1=>?_)
  ·
   have hkl:=hkt hh1;refine Zg<|Zm Y ?_;refine BO (CE (l:=1) underlying45 sizeOf113 Y Y (by omega)) ?_;refine Za Y<|Z0<|Zx<|Zq<|Zg<|Za Y<|Z0<|Zn [0,3,11,12,13,14,15] ?_;refine Zx<|Zq<|Zg<|Zo Wh (Pa #[_,_,_,_,_,_,_,_,_,_] isAgg77 sizeOf77 Y) ?_;refine Xr [_] Y call112 Y rfl (QU x) ?_;refine Zm Y<|Zd Y rfl<|Zd Y rfl<|Ze (Al zeroValue113 #[_,_,_,_,_]) ?_;rintro _ _ ⟨xb,rfl,rfl⟩;refine Xe (Xw sizeOf113 #[I4 x.after.t,I4 x.after.k,I4 x.after.v.a,I4 x.after.v.b,I4 x.after.v.c]) ?_;refine Za Y<|Z0<|Zx<|Zq<|Zq<|Zg<|Zm Y<|Z0<|Zx ?_;refine Ag Y (fun hh2=>?_) (fun hh2=>?_)
   ·
    refine Zg<|Zo Wh (Pa #[_,_,_,_,_] isAgg113 sizeOf113 Y) ?_;refine Ze (Af (vs:=[_]) (cs:=[_,_,_,_,_]) underlying45 sizeOf113 zeroValue113 Y rfl rfl rfl rfl rfl) ?_;rintro _ _ ⟨gb,rfl,rfl⟩;refine Za Y<|Z0<|Zx<|Zq<|Zg<|Za Y<|Z0<|Zn [0,3,11,13,14,15,18] ?_;refine Zx<|Zq<|Bf ?_;refine Zg<|Zm Y<|Zm Y<|Zp Y rfl<|Zh 0 underlying182 rfl rfl sizeOf45 Y<|Zl isAgg45 Y ?_;refine Zm Y ?_;refine BO (Bj underlying45 sizeOf113 Y Y (by omega)) ?_;refine Ze (BR (by_:=40) (sz:=5) underlying45 (rfl:Tryz.prog.info? 113=some Tryz.t113) rfl rfl rfl rfl Y (Ba 5 _) Y (Im hrw k _ hpl) Wo Wo (by exact fun u hu=>CS qs u (vQ hu)) (by omega) (by omega)) ?_;rintro _ _ ⟨sa,hra,rfl⟩;obtain ⟨ga,ca,rfl⟩:=hra.form;refine Zm Y ?_;refine Ze (BR (by_:=40) (sz:=5) underlying45 (rfl:Tryz.prog.info? 113=some Tryz.t113) rfl rfl rfl rfl Y (hra) Y (Da 5 gb 1 1 113 (0,0) (Ae [x.after]) rfl) Wo Wo (by exact CS _) (by omega) (by omega)) ?_;rintro _ _ ⟨sb,hrb,rfl⟩;obtain ⟨gb,cb,rfl⟩:=hrb.form;refine Zm Y ?_;refine Ze (BR (by_:=40) (sz:=5) underlying45 (rfl:Tryz.prog.info? 113=some Tryz.t113) rfl rfl rfl rfl Y (hrb) Y (VU (Io hrw k (qs.length -k) (capw -k) (by omega)) 1 (qs.length -k -1) _ (by omega) (by omega)) Wo Wo (by exact fun u hu=>CS qs u (vP (vP hu))) (by omega) (by omega)) ?_;rintro _ _ ⟨sc,hrc,rfl⟩;have hnew:=BP hrc (n':=(EL qs x).length) (xs':=Ae (EL qs x)) (by rw [hput,Uh hh2,if_pos hh1,u6,u6,uD,uE,uE];simp only [uJ,vT];omega) (by rw [hput,Uh hh2,if_pos hh1,Bb,Bb,←De,←DV (qs.drop k) 1,←DV];rw [Je hh2];rfl)
    obtain ⟨gc,cc,rfl⟩:=hrc.form;refine Za Y<|Z0<|Zn [0,3,11,18] ?_;refine Zx<|Zg<|Zm Y<|Zm Y<|Zp Y rfl<|Zh 0 underlying182 rfl rfl sizeOf45 Y<|Xe (Zs sizeOf45 Y Y rfl) ?_;refine Z0<|A8<|Zx<|Zg<|Zm Y<|Ya (n:=1) Y Y<|Za Y<|Z0<|Zn [11,0,3] ?_;refine Aa (e':=[(11,_)]) (by exact ⟨i+1,_,_,rfl,⟨by omega,by rw [EF rs cs i x hx,←hqs];exact hnew⟩,rfl,rfl⟩)
   refine Bf ?_;refine AB<|Zx<|Zq<|Zg<|Za Y<|Z0<|Zx<|Zq<|Bf ?_;refine Zg<|Zm Y<|Zm Y<|Zp Y rfl<|Zh 0 underlying182 rfl rfl sizeOf45 Y<|Zl isAgg45 Y ?_;refine Zm Y ?_;refine BO (Bj underlying45 sizeOf113 Y Y (by omega)) ?_;refine Ze (BR (by_:=40) (sz:=5) underlying45 (rfl:Tryz.prog.info? 113=some Tryz.t113) rfl rfl rfl rfl Y (Ba 5 _) Y (Im hrw k _ hpl) Wo Wo (by exact fun u hu=>CS qs u (vQ hu)) (by omega) (by omega)) ?_;rintro _ _ ⟨sa,hra,rfl⟩;obtain ⟨ga,ca,rfl⟩:=hra.form;refine Zm Y ?_;refine Ze (BR (by_:=40) (sz:=5) underlying45 (rfl:Tryz.prog.info? 113=some Tryz.t113) rfl rfl rfl rfl Y (hra) Y (Sm 5 none 0) Wo Wo (by simp) (by omega) (by omega)) ?_;rintro _ _ ⟨sb,hrb,rfl⟩;obtain ⟨gb,cb,rfl⟩:=hrb.form;refine Zm Y ?_;refine Ze (BR (by_:=40) (sz:=5) underlying45 (rfl:Tryz.prog.info? 113=some Tryz.t113) rfl rfl rfl rfl Y (hrb) Y (VU (Io hrw k (qs.length -k) (capw -k) (by omega)) 1 (qs.length -k -1) _ (by omega) (by omega)) Wo Wo (by exact fun u hu=>CS qs u (vP (vP hu))) (by omega) (by omega)) ?_;rintro _ _ ⟨sc,hrc,rfl⟩;have hnew:=BP hrc (n':=(EL qs x).length) (xs':=Ae (EL qs x)) (by rw [hput,Ui hh2,if_pos hh1,u6,u6,uD,uE,uE];simp only [uJ,vT];omega) (by rw [hput,Ui hh2,if_pos hh1,Bb,Bb,←De,←DV (qs.drop k) 1,←DV];rfl)
   obtain ⟨gc,cc,rfl⟩:=hrc.form;refine Za Y<|Z0<|Zn [0,3,11,18] ?_;refine Zx<|Zg<|Zm Y<|Zm Y<|Zp Y rfl<|Zh 0 underlying182 rfl rfl sizeOf45 Y<|Xe (Zs sizeOf45 Y Y rfl) ?_;refine Z0<|A8<|Zx<|Zg<|Zm Y<|Ya (n:=1) Y Y<|Za Y<|Z0<|Zn [11,0,3] ?_;refine Aa (e':=[(11,_)]) (by exact ⟨i+1,_,_,rfl,⟨by omega,by rw [EF rs cs i x hx,←hqs];exact hnew⟩,rfl,rfl⟩)
  refine AB<|Zx<|Zq<|Zg<|Za Y<|Z0<|Zx<|Zq<|Zg<|Zo Wh (Pa #[_,_,_,_,_,_,_,_,_,_] isAgg77 sizeOf77 Y) ?_;refine Xr [_] Y call112 Y rfl (QU x) ?_;refine Zm Y<|Zd Y rfl<|Zd Y rfl<|Ze (Al zeroValue113 #[_,_,_,_,_]) ?_;rintro _ _ ⟨xb,rfl,rfl⟩;refine Xe (Xw sizeOf113 #[I4 x.after.t,I4 x.after.k,I4 x.after.v.a,I4 x.after.v.b,I4 x.after.v.c]) ?_;refine Za Y<|Z0<|Zn [0,3,11,13,14,15,16,17] ?_;refine Zx<|Zq<|Zq<|Zg<|Zm Y<|Z0<|Zx ?_;refine Ag Y (fun hh2=>?_) (fun hh2=>?_)
  ·
   refine Zg<|Zo Wh (Pa #[_,_,_,_,_] isAgg113 sizeOf113 Y) ?_;refine Ze (Af (vs:=[_]) (cs:=[_,_,_,_,_]) underlying45 sizeOf113 zeroValue113 Y rfl rfl rfl rfl rfl) ?_;rintro _ _ ⟨gb,rfl,rfl⟩;refine Za Y<|Z0<|Zx<|Zq<|Zg<|Za Y<|Z0<|Zx<|Zq<|Bf ?_;refine Zg<|Zm Y<|Zm Y<|Zp Y rfl<|Zh 0 underlying182 rfl rfl sizeOf45 Y<|Zl isAgg45 Y ?_;refine Zm Y ?_;refine BO (Bj underlying45 sizeOf113 Y Y (by omega)) ?_;refine Ze (BR (by_:=40) (sz:=5) underlying45 (rfl:Tryz.prog.info? 113=some Tryz.t113) rfl rfl rfl rfl Y (Ba 5 _) Y (Im hrw k _ hpl) Wo Wo (by exact fun u hu=>CS qs u (vQ hu)) (by omega) (by omega)) ?_;rintro _ _ ⟨sa,hra,rfl⟩;obtain ⟨ga,ca,rfl⟩:=hra.form;refine Zm Y ?_;refine Ze (BR (by_:=40) (sz:=5) underlying45 (rfl:Tryz.prog.info? 113=some Tryz.t113) rfl rfl rfl rfl Y (hra) Y (Da 5 gb 1 1 113 (0,0) (Ae [x.after]) rfl) Wo Wo (by exact CS _) (by omega) (by omega)) ?_;rintro _ _ ⟨sb,hrb,rfl⟩;obtain ⟨gb,cb,rfl⟩:=hrb.form;refine Zm Y ?_;refine Ze (BR (by_:=40) (sz:=5) underlying45 (rfl:Tryz.prog.info? 113=some Tryz.t113) rfl rfl rfl rfl Y (hrb) Y (Io hrw k (qs.length -k) _ (by omega)) Wo Wo (by exact fun u hu=>CS qs u (vP hu)) (by omega) (by omega)) ?_;rintro _ _ ⟨sc,hrc,rfl⟩;have hnew:=BP hrc (n':=(EL qs x).length) (xs':=Ae (EL qs x)) (by rw [hput,Uh hh2,if_neg (by rw [hh1];decide),u6,u6,uD,uE,uE];simp only [uJ,vT];omega) (by rw [hput,Uh hh2,if_neg (by rw [hh1];decide),Bb,Bb,←De,←DV (qs.drop k) 0,←DV,yX,wm];rw [Je hh2];rfl)
   obtain ⟨gc,cc,rfl⟩:=hrc.form;refine Za Y<|Z0<|Zn [0,3,11,18] ?_;refine Zx<|Zg<|Zm Y<|Zm Y<|Zp Y rfl<|Zh 0 underlying182 rfl rfl sizeOf45 Y<|Xe (Zs sizeOf45 Y Y rfl) ?_;refine Z0<|A8<|Zx<|Zg<|Zm Y<|Ya (n:=1) Y Y<|Za Y<|Z0<|Zn [11,0,3] ?_;refine Aa (e':=[(11,_)]) (by exact ⟨i+1,_,_,rfl,⟨by omega,by rw [EF rs cs i x hx,←hqs];exact hnew⟩,rfl,rfl⟩)
  refine Bf ?_;refine AB<|Zx<|Zq<|Zg<|Za Y<|Z0<|Zx<|Zq<|Bf ?_;refine Zg<|Zm Y<|Zm Y<|Zp Y rfl<|Zh 0 underlying182 rfl rfl sizeOf45 Y<|Zl isAgg45 Y ?_;refine Zm Y ?_;refine BO (Bj underlying45 sizeOf113 Y Y (by omega)) ?_;refine Ze (BR (by_:=40) (sz:=5) underlying45 (rfl:Tryz.prog.info? 113=some Tryz.t113) rfl rfl rfl rfl Y (Ba 5 _) Y (Im hrw k _ hpl) Wo Wo (by exact fun u hu=>CS qs u (vQ hu)) (by omega) (by omega)) ?_;rintro _ _ ⟨sa,hra,rfl⟩;obtain ⟨ga,ca,rfl⟩:=hra.form;refine Zm Y ?_;refine Ze (BR (by_:=40) (sz:=5) underlying45 (rfl:Tryz.prog.info? 113=some Tryz.t113) rfl rfl rfl rfl Y (hra) Y (Sm 5 none 0) Wo Wo (by simp) (by omega) (by omega)) ?_;rintro _ _ ⟨sb,hrb,rfl⟩;obtain ⟨gb,cb,rfl⟩:=hrb.form;refine Zm Y ?_;refine Ze (BR (by_:=40) (sz:=5) underlying45 (rfl:Tryz.prog.info? 113=some Tryz.t113) rfl rfl rfl rfl Y (hrb) Y (Io hrw k (qs.length -k) _ (by omega)) Wo Wo (by exact fun u hu=>CS qs u (vP hu)) (by omega) (by omega)) ?_;rintro _ _ ⟨sc,hrc,rfl⟩;have hnew:=BP hrc (n':=(EL qs x).length) (xs':=Ae (EL qs x)) (by rw [hput,Ui hh2,if_neg (by rw [hh1];decide),u6,u6,uD,uE,uE];simp only [uJ,vT];omega) (by rw [hput,Ui hh2,if_neg (by rw [hh1];decide),Bb,Bb,←De,←DV (qs.drop k) 0,←DV,yX,wm];rfl)
  obtain ⟨gc,cc,rfl⟩:=hrc.form;refine Za Y<|Z0<|Zn [0,3,11,18] ?_;refine Zx<|Zg<|Zm Y<|Zm Y<|Zp Y rfl<|Zh 0 underlying182 rfl rfl sizeOf45 Y<|Xe (Zs sizeOf45 Y Y rfl) ?_;refine Z0<|A8<|Zx<|Zg<|Zm Y<|Ya (n:=1) Y Y<|Za Y<|Z0<|Zn [11,0,3] ?_;refine Aa (e':=[(11,_)]) (by exact ⟨i+1,_,_,rfl,⟨by omega,by rw [EF rs cs i x hx,←hqs];exact hnew⟩,rfl,rfl⟩)
 have ei:i=cs.length:=by omega
 subst ei;rw [ug]at hqs;refine Aw<|Zt<|Zt<|AP<|Zx<|Zq<|Zg<|Zm Y<|Zh 0 underlying73 rfl rfl sizeOf3 Y<|Zl isAgg3 Y ?_;refine Zp Y rfl<|Zh 1 underlying182 rfl rfl sizeOf3 Y<|Xe (Zs sizeOf3 Y Y rfl) ?_;refine Z0<|Zx<|Zq<|Zg<|Za Y<|Z0<|Zx<|AA ?_;refine AJ rfl results48 Y (by exact .inl ⟨⟨hok,hpo,hfit,by omega⟩,_,sw,rfl,by rw [←hqs];exact hrw,rfl⟩)
end Go.Proofs.YtkdgffcfmgmemaaGreatDoor
