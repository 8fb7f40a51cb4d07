/- slices.Clone of proofs and records; proof.Build. -/
/- proof.Same, Check. -/
import Derived.Test.YtkdgffcfmgmemaaGreatDoorEz
import Derived.Test.YtkdgffcfmgmemaaGreatDoorPy3
set_option linter.unusedVariables false
set_option linter.unusedSimpArgs false
namespace Go.Proofs.YtkdgffcfmgmemaaGreatDoor
open Go.Proofs.Tryz
open Go Go.RowKit Gw
set_option maxRecDepth 100000
attribute [local irreducible] Gw.At Gw.Nx Gw.Ops
theorem Qu{α:Type}(f:α→List Value)(sz:Nat)(hf:∀a,(f a).length=sz)(h0:0<sz){M:List AR}{p:Option Addr}{l:List α}(hg:∀(i:Nat) (a:α),l[i]?=some a→∃g off cur T zz,p=some ⟨g,off,none⟩∧(g,Obj.cells cur T zz)∈M∧off+i*sz+sz≤cur.size∧cur.extract (off+i*sz) (off+i*sz+sz)=(f a).toArray):Fa M p (l.flatMap f):=by
 intro j u hj;have hlen:(l.flatMap f).length=l.length*sz:=by
  clear hg hj;induction l with
  |nil=>simp
  |cons a l ih=>rw [ui,tK,ih,hf,tY,wC];omega
 have hjl:=(tH.1 hj).1;rw [hlen]at hjl;have hd:=Nat.div_add_mod j sz
 have hm:=AA3 j h0;have hi:j/sz<l.length:=zF (by rw [AA4];exact hjl)
 obtain ⟨a,ha⟩:∃a,l[j/sz]?=some a:=⟨_,tF hi⟩;obtain ⟨g,off,cur,T,zz,rfl,hmem,hsz,hex⟩:=hg (j/sz) a ha;refine ⟨g,off,cur,T,zz,rfl,hmem,?_⟩;have h1:=NV hex hsz (j%sz) hm
 have h2:=GN f sz hf l (j/sz) a ha;have e1:j/sz*sz+j%sz=j:=by rw [AA4];exact hd
 have h3:(l.flatMap f)[j/sz*sz+j%sz]?=(f a)[j%sz]?:=by rw [←h2,uX,if_pos hm,uw]
 rw [e1,hj]at h3;rw [show off+j=off+j/sz*sz+j%sz by omega,h1,xX];exact h3.symm
theorem aT{M:List AR}{p:Option Addr}{n cap:Nat}{Z:List RPZ}(h:ZsU M (.slice p n cap) Z):Fa M p (Z.flatMap Gb):=by
 obtain ⟨p',cap',e,_,hg⟩:=h;injection e with e1 e2 e3
 subst e1;exact Qu _ 9 (fun _=>rfl) (by decide) fun i z hz=>(hg i z hz).2
theorem Xf{M:List AR}{p:Option Addr}{n cap:Nat}{l:List Br}(h:Du M (.slice p n cap) l):Fa M p (Ej l):=by
 obtain ⟨p',cap',e,_,hg⟩:=h;injection e with e1 e2 e3
 subst e1;exact Qu _ 2 (fun _=>rfl) (by decide) fun i z hz=>(hg i z hz).2
theorem RX(l:List Br):(Ej l).length=l.length*2:=by
 induction l with
 |nil=>rfl
 |cons a l ih=>unfold Ej at*;rw [ui,tK,ih];simp only [tY,vG];omega
theorem UF(l:List Br):∀u∈Ej l,u.oneCell'=true:=by
 intro u hu;obtain ⟨z,_,h⟩:=xK.1 hu;simp only [uI,vT,or_false]at h;rcases h with rfl|rfl<;>rfl
structure Lp where
 q:QM
 res:CG
 since:Int
 until_:Int
 base:Int
 ranges:List RP
 recs:List Br
structure GG where
 a:Lp
 rp:Option Addr
 rc:Nat
 gp:Option Addr
 gc:Nat
 cp:Option Addr
 cc:Nat
def GG.ok(M:List AR)(z:GG):Prop:=DV M (.slice z.rp z.a.res.rows.length z.rc) z.a.res.rows∧Gs M (.slice z.gp z.a.ranges.length z.gc) z.a.ranges∧Du M (.slice z.cp z.a.recs.length z.cc) z.a.recs
theorem G7{M M':List AR}{v:Value}{l:List Br}(h:Du M v l)(hm:∀c∈M,c∈M'):Du M' v l:=by
 obtain ⟨p,cap,e,hl,hg⟩:=h;refine ⟨p,cap,e,hl,fun i r hr=>?_⟩;obtain ⟨⟨p2,cap2,e2,hl2,hg2⟩,g,off,cur,T,zz,h3,h4,h5⟩:=hg i r hr;refine ⟨⟨p2,cap2,e2,hl2,fun j c hc=>?_⟩,g,off,cur,T,zz,h3,hm _ h4,h5⟩;obtain ⟨g,off,cur,T,zz,h3,h4,h5⟩:=hg2 j c hc;exact ⟨g,off,cur,T,zz,h3,hm _ h4,h5⟩
theorem GG.ok.mono{M M':List AR}{z:GG}(h:z.ok M)(hm:∀c∈M,c∈M'):z.ok M':=⟨h.1.mono hm,h.2.1.mono hm,G7 h.2.2 hm⟩
noncomputable def Ev(q:QM)(base:Int)(L:List RP)(recs:List Br):Option Lp:=(FY q L).bind fun r=>if recs.length≤64 then(Gh q base 0 (r,base) recs).map fun st=>⟨q,st.1,st.2,base+(recs.length:Int),base,L,recs⟩else none
theorem Ym{q:QM}{base:Int}{L:List RP}{recs:List Br}(h:¬recs.length≤64):Ev q base L recs=none:=by
 unfold Ev;cases FY q L with
 |none=>rfl
 |some r=>rw [uy,if_neg h]
theorem Jv{q:QM}{base:Int}{L:List RP}{recs:List Br}{r:CG}(hr:FY q L=some r)(h:recs.length≤64):Ev q base L recs=(Gh q base 0 (r,base) recs).map fun st=>⟨q,st.1,st.2,base+(recs.length:Int),base,L,recs⟩:=by
 unfold Ev;rw [hr,uy,if_pos h]
theorem VX{q:QM}{r:CG}{base:Int}{l:List Br}(h:(Ce q r base l).2.2=true):Gh q base 0 (r,base) l=some ((Ce q r base l).1,(Ce q r base l).2.1):=by
 unfold Ce at*;split at h
 · rename_i st h9;rw [h9]
 · cases h
theorem VY{q:QM}{r:CG}{base:Int}{l:List Br}(h:(Ce q r base l).2.2=false):Gh q base 0 (r,base) l=none:=by
 unfold Ce at*;split at h
 · cases h
 · rename_i h9;exact h9
theorem aI{q:QM}(hq:BP q){rows others:List AP}(hl:rows.length≤100)(hok:∀r∈rows,r.ok):(FE q rows others).rows.length≤200∧-1000000000000000000≤(FE q rows others).val∧(FE q rows others).val≤1000000000000000000:=by
 have hm:=ZW (q:=q) (rows:=rows) (fun r hr=>U0 (hok r hr) q.bq);have hl2:(Co q rows).length≤1000000000:=by rw [Jk];omega
 have hj:=WK q rows others;have hx:∀(lt:Int→Int→Bool) (hlt:∀a b c,lt b a=false→lt c b=false→lt c a=false) (hirr:∀a,lt a a=false) (hasy:∀a b,lt a b=true→lt b a=false),(EL lt (Co q rows)).rows.length≤200∧-1000000000000000000≤(EL lt (Co q rows)).val∧(EL lt (Co q rows)).val≤1000000000000000000:=fun lt a1 a2 a3=>by
  cases hms:Co q rows with
  |nil=>exact ⟨tX _,by show(_:Int)≤0;decide,by show(0:Int)≤_;decide⟩
  |cons z ms=>
   obtain ⟨x,hx1,_,hx2⟩:=Jq lt a1 a2 a3 z ms;rw [hx2];rw [hms]at hm;have:=hm x hx1
   exact ⟨tX _,by show _≤x;omega,by show x≤_;omega⟩
 have hsum:=ZH hm hl2 (Co q rows).length;rw [uQ]at hsum;unfold FE;split
 · exact ⟨tX _,by simp only;omega,by simp only;omega⟩
 · split
   · exact ⟨tX _,hsum⟩
   · split
     · exact hx _ (fun a b c h1 h2=>by simp only [decide_eq_false_iff_not]at*;omega) (fun a=>by simp) (fun a b h=>by simp only [decide_eq_true_eq,decide_eq_false_iff_not]at*;omega)
     · split
       · exact hx _ (fun a b c h1 h2=>by simp only [decide_eq_false_iff_not]at*;omega) (fun a=>by simp) (fun a b h=>by simp only [decide_eq_true_eq,decide_eq_false_iff_not]at*;omega)
       · split
         · exact ⟨by simp only;omega,by simp only;decide,by simp only;decide⟩
         · exact ⟨by simp only;omega,by simp only;decide,by simp only;decide⟩
theorem bE{sz:Nat}{e:TypeId}{v:Value}{n:Nat}{xs:List Value}{s:List AR}(h:BX sz e v n xs s):n≤maxLen:=by
 obtain ⟨_,⟨_,h0,_⟩|⟨_,_,_,_,_,_,h1,h2,_⟩⟩:=h
 · omega
 · omega
theorem gT{q:QM}{L:List RP}{r:CG}(h:FY q L=some r):BP q∧r.rows.length≤200∧-1000000000000000000≤r.val∧r.val≤1000000000000000000:=by
 obtain ⟨x,L2,_,hq,_,hc,hl,h9⟩:=Ob h;refine ⟨hq,?_⟩;rcases h9 with⟨_,_,rfl⟩|⟨_,o,_,rfl⟩
 · exact aI hq hl (N8 hc).2
 · exact aI hq hl (N8 hc).2
theorem Oa{M:List AR}{v:Value}{Z:List RPZ}(hv:ZsU M v Z)(hb:Z.length≤1000000):CO Tryz.prog 61 #[v] [M] (fun r H'=>∃sr,BX 9 49 r Z.length (Z.flatMap Gb) sr∧H'=[sr,M]):=by
 have hml:=mL;have hcm:=hv
 obtain ⟨p,cap,rfl,⟨hl,hlc⟩,hg⟩:=id hv;replace hcm:=aT hcm;refine Se func61 ntmps61 [0] ?_;intro u R;refine Zq<|Zg<|Za Y<|Z0<|Zx<|Zq<|Zq<|Zg<|Zm Y<|Zv (Fg underlying40 Y Y)<|Z0<|Zx ?_;refine Af Y (fun hp=>?_) (fun hp=>?_)
 ·
  have hp0:p=none:=by cases p with
   |none=>rfl
   |some x=>cases hp
  have h0:Z=[]:=by
   cases Z with
   |nil=>rfl
   |cons x l=>obtain ⟨_,g,off,cur,T,zz,e9,_⟩:=hg 0 x rfl;rw [hp0]at e9;cases e9
  refine Zq<|Bd ?_;refine Zg<|Za Y<|Z0<|Zx<|A9<|Zt ?_;refine AB rfl results61 Y (by exact ⟨[],by rw [h0];exact BV 9 _,rfl⟩)
 refine AC<|Zx<|Zq<|Zg<|Ze (Gv underlying40 sizeOf49) ?_;rintro _ _ ⟨g1,rfl,rfl⟩;refine Zm Y ?_;refine Ze (LJ (by_:=120) (sz:=9) underlying40 (rfl:Tryz.prog.info? 49=some Tryz.t49) rfl rfl rfl rfl Y (Iq 9 49 g1 0 [] rfl (by decide)) Y (hcm) (by exact qG _) (by decide) Wo Wo (by exact ni _) (by omega) (by omega)) ?_;rintro _ _ ⟨sa1,hra1,rfl⟩;replace hra1:=BO hra1 (uL _) (vN _);refine Za Y<|Z0<|Zx<|A9 ?_;refine AB rfl results61 Y (by exact ⟨_,hra1,rfl⟩)
theorem JU{M:List AR}{v:Value}{Z:List Br}(hv:Du M v Z)(hb:Z.length≤1000000):CO Tryz.prog 62 #[v] [M] (fun r H'=>∃sr,BX 2 73 r Z.length (Ej Z) sr∧H'=[sr,M]):=by
 have hml:=mL;have hcm:=hv
 obtain ⟨p,cap,rfl,⟨hl,hlc⟩,hg⟩:=id hv;replace hcm:=Xf hcm;refine Se func62 ntmps62 [0] ?_;intro u R;refine Zq<|Zg<|Za Y<|Z0<|Zx<|Zq<|Zq<|Zg<|Zm Y<|Zv (Fg underlying28 Y Y)<|Z0<|Zx ?_;refine Af Y (fun hp=>?_) (fun hp=>?_)
 ·
  have hp0:p=none:=by cases p with
   |none=>rfl
   |some x=>cases hp
  have h0:Z=[]:=by
   cases Z with
   |nil=>rfl
   |cons x l=>obtain ⟨_,g,off,cur,T,zz,e9,_⟩:=hg 0 x rfl;rw [hp0]at e9;cases e9
  refine Zq<|Bd ?_;refine Zg<|Za Y<|Z0<|Zx<|A9<|Zt ?_;refine AB rfl results62 Y (by exact ⟨[],by rw [h0];exact BV 2 _,rfl⟩)
 refine AC<|Zx<|Zq<|Zg<|Ze (Gv underlying28 sizeOf73) ?_;rintro _ _ ⟨g1,rfl,rfl⟩;refine Zm Y ?_;refine Ze (LJ (by_:=32) (sz:=2) underlying28 (rfl:Tryz.prog.info? 73=some Tryz.t73) rfl rfl rfl rfl Y (Iq 2 73 g1 0 [] rfl (by decide)) Y (hcm) (by exact RX _) (by decide) Wo Wo (by exact UF _) (by omega) (by omega)) ?_;rintro _ _ ⟨sa1,hra1,rfl⟩;replace hra1:=BO hra1 (uL _) (vN _);refine Za Y<|Z0<|Zx<|A9 ?_;refine AB rfl results62 Y (by exact ⟨_,hra1,rfl⟩)
set_option maxHeartbeats 1000000 in
theorem kV{M:List AR}(q:QM)(te base:Int)(hb:-1000000000000≤base∧base≤1000000000000){pg:Option Addr}{cg:Nat}{L:List RP}(hL:Gs M (.slice pg L.length cg) L)(hLl:L.length≤1000000){r:CG}(hr:FY q L=some r){lv:Value}{l:List Br}(hl:Du M lv l)(hcs:∀x∈l,x.cs.length≤1000):CO Tryz.prog 18 #[.agg #[I4 q.kd,I4 q.tb,I4 q.cl,I4 q.lo,I4 q.hi,I4 q.bq,I4 q.ot,I4 te,I4 base,.slice pg L.length cg],lv] [M] (fun w H'=>(∃(z:GG) (s3 s1 s2:List AR),Ev q base L l=some z.a∧z.ok (s3++(s1++(s2++M)))∧w= .tuple #[.agg #[I4 z.a.q.kd,I4 z.a.q.tb,I4 z.a.q.cl,I4 z.a.q.lo,I4 z.a.q.hi,I4 z.a.q.bq,I4 z.a.q.ot,.slice z.rp z.a.res.rows.length z.rc,I4 z.a.res.val,.bool z.a.res.fnd,I4 z.a.since,I4 z.a.until_,I4 z.a.base,.slice z.gp z.a.ranges.length z.gc,.slice z.cp z.a.recs.length z.cc],.bool true]∧H'=[s3,s1,s2,M])∨(Ev q base L l=none∧w= .tuple #[.agg #[I4 0,I4 0,I4 0,I4 0,I4 0,I4 0,I4 0,.slice none 0 0,I4 0,.bool false,I4 0,I4 0,I4 0,.slice none 0 0,.slice none 0 0],.bool false]∧H'=[M])):=by
 have hml:=mL;obtain ⟨hq,hrn,hrv⟩:=gT hr;obtain ⟨pl,cl,rfl,hl1,hl2⟩:=id hl;obtain ⟨Z,hZ,hZx⟩:=id hL;have hZl:Z.length=L.length:=by rw [←hZx,tJ]
 obtain ⟨pz,cz,ez,_,hzg⟩:=id hZ;refine Se func18 ntmps18 [0,1] ?_;intro u R;refine Zq<|Zg<|Ze (Bx #[I4 q.kd,I4 q.tb,I4 q.cl,I4 q.lo,I4 q.hi,I4 q.bq,I4 q.ot,I4 te,I4 base,.slice pg L.length cg]) ?_;rintro _ _ ⟨be,rfl,rfl⟩;refine Ze (Al zeroValue53 #[_,_,_,_,_,_,_,_,_,_,_,_,_,_,_]) ?_;rintro _ _ ⟨bo,rfl,rfl⟩;refine Za Y<|Z0<|Zx<|Zq<|Zg<|Zh 0 underlying57 rfl rfl sizeOf30 Y<|Zo Wh (Pa #[_,_,_,_,_,_,_] isAgg30 sizeOf30 Y) ?_;refine Zh 9 underlying57 rfl rfl sizeOf40 Y<|Zl isAgg40 Y ?_;refine Zc [_,_] Y call23 Y rfl (lZ hL q hr) ?_;rintro _ _ ⟨_,⟨rv0,s0,rfl,h0,rfl⟩,rfl⟩;obtain ⟨p0,c0,rfl⟩:=h0.form;have hU0:=Dv h0 (by omega)
 refine Zm Y<|Zd Y rfl<|Zd Y rfl<|Ze (Al zeroValue51 #[_,_,_]) ?_;rintro _ _ ⟨bs,rfl,rfl⟩;refine Xe (Xw sizeOf51 #[.slice p0 r.rows.length c0,I4 r.val,.bool r.fnd]) ?_;refine Za Y<|Z0<|Zn [1,2,4,6,7] ?_;refine Zx<|Zq<|Zq<|Zg<|Zm Y<|Zv (Ca Y)<|Zm Y ?_;refine Ai (t:=19) Y rfl (fun hb0=>?_) (fun hb0=>?_)
 ·
  cases hb0
 refine Zf Y Y<|Yg (AV underlying28 Y)<|Yg (DJ (n:=64) Y Y)<|Zv (AA Y Y)<|Z0<|Zx ?_;refine Ao Y (fun hlen=>?_) (fun hlen=>?_)
 ·
  refine Zq<|Zg<|Zv (BK (vs:=[]) (cs:=#[_,_,_,_,_,_,_,_,_,_,_,_,_,_,_]) Y (Aa (pl:=#[(0,7),(7,3),(10,1),(11,1),(12,1),(13,1),(14,1)]) zeroValue53 underlying53 (fun _=>by kernel_rfl) rfl)) ?_;refine Xe (BN sizeOf53 Y Y (by(simp [Value.oneCell'];done)) Wu (by exact DU rfl) (by first|rfl|(simp;done)) Wb (by exact BQ _)) ?_;refine Za Y<|Z0<|Zx<|A9<|Zt ?_;refine Bb rfl results18 Y Wh (Ah isAgg53 sizeOf53 Wn (Au rfl)) Y (by exact .inr ⟨Ym (by omega),rfl,rfl⟩)
 refine AC<|Zx<|Zb [1,2,4,6] ?_;refine CW (e0:=[]) (H0:=[]) (fun e H=>∃(ba:Nat) (g1:Option Addr) (c1:Nat) (s1:List AR) (g2:Option Addr) (c2:Nat) (s2:List AR),(BX 9 49 (.slice g1 L.length c1) Z.length (Z.flatMap Gb) s1∧BX 2 73 (.slice g2 l.length c2) l.length (Ej l) s2)∧e=[(8,I5 ba)]∧H=[[(ba,.cells #[I4 q.kd,I4 q.tb,I4 q.cl,I4 q.lo,I4 q.hi,I4 q.bq,I4 q.ot,.slice none 0 0,I4 0,.bool false,I4 0,I4 (base+(l.length:Int)),I4 base,.slice g1 L.length c1,.slice g2 l.length c2] 53 (0,0))],s1,s2]) Wp ?hx_2 ?hy_2
 case hx_2=>
  refine BI (n:=17) (0::1::0::4::0::16::60::0::128::0::512::1536::0::7680::16383::0::65535::[]) 108544 (by kernel_rfl) (by kernel_rfl) rfl ?_;refine Zi 1 0 rfl (AZ (off:=0) underlying57 rfl rfl sizeOf30 Y)<|Cj (D':=3) 1 rfl rfl rfl Wh (Pa #[_,_,_,_,_,_,_] isAgg30 sizeOf30 Y) ?_;refine Zi 7 2 rfl (AZ (off:=8) underlying57 rfl rfl sizeOf3 Y)<|Zj 15 3 rfl isAgg3 Y ?_;refine Zi 31 4 rfl (AJ Y)<|Zi 63 5 rfl (AV underlying28 Y) ?_
  (refine EF (D':=127) 6 (JI Y Y (IntWalk.i64_in _ ?_)) ?_;(focus (omega)))
  refine Zi 255 7 rfl (AZ (off:=8) underlying57 rfl rfl sizeOf3 Y)<|Zj 511 8 rfl isAgg3 Y ?_;refine Zi 1023 9 rfl (AZ (off:=9) underlying57 rfl rfl sizeOf40 Y)<|Zj 2047 10 rfl isAgg40 Y ?_;refine Zi 6143 12 rfl (AJ Y)<|Zz (l:=[11,15]) ?_;refine Zy 1536 8191 [10,8,3,1] [false,true,true,true] [(8,(_,_)),(3,(_,_)),(1,(_,_))] rfl Y rfl rfl rfl rfl (Zw [_] Y call61 Y rfl (Oa hZ (by omega))) ?hk_3 D9 ?hl_3
  case hk_3=>
   rintro _ _ ⟨_,⟨s1,h1,rfl⟩,rfl⟩;refine ⟨Zk (Zk (Zk (Ad))),?_⟩;obtain ⟨g1,c1,e1⟩:=h1.form;rw [hZl]at e1;subst e1;refine Zz (l:=[13,15]) ?_;refine Zy 7680 16383 [8,3,1] [true,true,true] [(8,(_,_)),(3,(_,_)),(1,(_,_))] rfl Y rfl rfl rfl rfl (Zw [_] Y call62 Y rfl (JU hl (by omega))) ?hk_4 D9 ?hl_4
   case hk_4=>
    rintro _ _ ⟨_,⟨s2,h2,rfl⟩,rfl⟩;refine ⟨Zk (Zk (Zk (Ad))),?_⟩;obtain ⟨g2,c2,rfl⟩:=h2.form;refine Zi 32767 14 rfl (BK (vs:=[(0,.agg #[I4 q.kd,I4 q.tb,I4 q.cl,I4 q.lo,I4 q.hi,I4 q.bq,I4 q.ot]),(3,I4 (base+(l.length:Int))),(4,I4 base),(5,.slice g1 L.length c1),(6,.slice g2 l.length c2)]) (cs:=#[I4 q.kd,I4 q.tb,I4 q.cl,I4 q.lo,I4 q.hi,I4 q.bq,I4 q.ot,.slice none 0 0,I4 0,.bool false,I4 0,I4 (base+(l.length:Int)),I4 base,.slice g1 L.length c1,.slice g2 l.length c2]) Y (Aa (pl:=#[(0,7),(7,3),(10,1),(11,1),(12,1),(13,1),(14,1)]) zeroValue53 underlying53 (fun _=>by kernel_rfl) (by kernel_rfl))) ?_;refine Yz 15 0 65535 [8,3,1] [true,true,true] [(8,(_,_)),(3,(_,_)),(1,(_,_))] rfl Y rfl rfl rfl rfl (Al zeroValue53 #[_,_,_,_,_,_,_,_,_,_,_,_,_,_,_]) ?_;rintro _ _ ⟨ba,rfl,rfl⟩;refine ⟨Zk (Zk (Zk (Ad))),?_⟩;refine Yw 16 131071 rfl (Xw sizeOf53 #[I4 q.kd,I4 q.tb,I4 q.cl,I4 q.lo,I4 q.hi,I4 q.bq,I4 q.ot,.slice none 0 0,I4 0,.bool false,I4 0,I4 (base+(l.length:Int)),I4 base,.slice g1 L.length c1,.slice g2 l.length c2]) ?_;rintro _ _ ⟨rfl,rfl⟩;refine Am ?_;refine Zn [8,1,2,4,6] ?_;refine BB (e':=[(8,_)]) (by exact ⟨ba,g1,c1,s1,g2,c2,s2,⟨h1,h2⟩,rfl,rfl⟩)
   refine Zy 0 40959 [8,3,1] [true,true,true] [(8,(_,_)),(3,(_,_)),(1,(_,_))] rfl Y rfl rfl rfl rfl (Al zeroValue53 #[_,_,_,_,_,_,_,_,_,_,_,_,_,_,_]) ?hk_8 (fun _ _ h=>h.elim) ?hl_8
   case hk_8=>
    rintro _ _ ⟨ba,rfl,rfl⟩;refine ⟨Zk (Zk (Zk (Ad))),?_⟩;refine Zz (l:=[13]) ?_;refine Zy 7680 49151 [8,3,1] [true,true,true] [(8,(_,_)),(3,(_,_)),(1,(_,_))] rfl Y rfl rfl rfl rfl (Zw [_] Y call62 Y rfl (JU hl (by omega))) ?hk_9 D9 ?hl_9
    case hk_9=>
     rintro _ _ ⟨_,⟨s2,h2,rfl⟩,rfl⟩;refine ⟨Zk (Zk (Zk (Ad))),?_⟩;obtain ⟨g2,c2,rfl⟩:=h2.form;refine Zi 65535 14 rfl (BK (vs:=[(0,.agg #[I4 q.kd,I4 q.tb,I4 q.cl,I4 q.lo,I4 q.hi,I4 q.bq,I4 q.ot]),(3,I4 (base+(l.length:Int))),(4,I4 base),(5,.slice g1 L.length c1),(6,.slice g2 l.length c2)]) (cs:=#[I4 q.kd,I4 q.tb,I4 q.cl,I4 q.lo,I4 q.hi,I4 q.bq,I4 q.ot,.slice none 0 0,I4 0,.bool false,I4 0,I4 (base+(l.length:Int)),I4 base,.slice g1 L.length c1,.slice g2 l.length c2]) Y (Aa (pl:=#[(0,7),(7,3),(10,1),(11,1),(12,1),(13,1),(14,1)]) zeroValue53 underlying53 (fun _=>by kernel_rfl) (by kernel_rfl))) ?_;refine Yw 16 131071 rfl (Xw sizeOf53 #[I4 q.kd,I4 q.tb,I4 q.cl,I4 q.lo,I4 q.hi,I4 q.bq,I4 q.ot,.slice none 0 0,I4 0,.bool false,I4 0,I4 (base+(l.length:Int)),I4 base,.slice g1 L.length c1,.slice g2 l.length c2]) ?_;rintro _ _ ⟨rfl,rfl⟩;refine Am ?_;refine Zn [8,1,2,4,6] ?_;refine BB (e':=[(8,_)]) (by exact ⟨ba,g1,c1,s1,g2,c2,s2,⟨h1,h2⟩,rfl,rfl⟩)
    exact Aw
   exact Aw
  refine Zy 0 38911 [10,8,3,1] [true,true,true,true] [(10,(_,_)),(8,(_,_)),(3,(_,_)),(1,(_,_))] rfl Y rfl rfl rfl rfl (Al zeroValue53 #[_,_,_,_,_,_,_,_,_,_,_,_,_,_,_]) ?hk_12 (fun _ _ h=>h.elim) ?hl_12
  case hk_12=>
   rintro _ _ ⟨ba,rfl,rfl⟩;refine ⟨Zk (Zk (Zk (Zk (Ad)))),?_⟩;refine Zz (l:=[11]) ?_;refine Zy 1536 40959 [10,8,3,1] [false,true,true,true] [(8,(_,_)),(3,(_,_)),(1,(_,_))] rfl Y rfl rfl rfl rfl (Zw [_] Y call61 Y rfl (Oa hZ (by omega))) ?hk_13 D9 ?hl_13
   case hk_13=>
    rintro _ _ ⟨_,⟨s1,h1,rfl⟩,rfl⟩;refine ⟨Zk (Zk (Zk (Ad))),?_⟩;obtain ⟨g1,c1,e1⟩:=h1.form;rw [hZl]at e1;subst e1;refine Zz (l:=[13]) ?_;refine Zy 7680 49151 [8,3,1] [true,true,true] [(8,(_,_)),(3,(_,_)),(1,(_,_))] rfl Y rfl rfl rfl rfl (Zw [_] Y call62 Y rfl (JU hl (by omega))) ?hk_14 D9 ?hl_14
    case hk_14=>
     rintro _ _ ⟨_,⟨s2,h2,rfl⟩,rfl⟩;refine ⟨Zk (Zk (Zk (Ad))),?_⟩;obtain ⟨g2,c2,rfl⟩:=h2.form;refine Zi 65535 14 rfl (BK (vs:=[(0,.agg #[I4 q.kd,I4 q.tb,I4 q.cl,I4 q.lo,I4 q.hi,I4 q.bq,I4 q.ot]),(3,I4 (base+(l.length:Int))),(4,I4 base),(5,.slice g1 L.length c1),(6,.slice g2 l.length c2)]) (cs:=#[I4 q.kd,I4 q.tb,I4 q.cl,I4 q.lo,I4 q.hi,I4 q.bq,I4 q.ot,.slice none 0 0,I4 0,.bool false,I4 0,I4 (base+(l.length:Int)),I4 base,.slice g1 L.length c1,.slice g2 l.length c2]) Y (Aa (pl:=#[(0,7),(7,3),(10,1),(11,1),(12,1),(13,1),(14,1)]) zeroValue53 underlying53 (fun _=>by kernel_rfl) (by kernel_rfl))) ?_;refine Yw 16 131071 rfl (Xw sizeOf53 #[I4 q.kd,I4 q.tb,I4 q.cl,I4 q.lo,I4 q.hi,I4 q.bq,I4 q.ot,.slice none 0 0,I4 0,.bool false,I4 0,I4 (base+(l.length:Int)),I4 base,.slice g1 L.length c1,.slice g2 l.length c2]) ?_;rintro _ _ ⟨rfl,rfl⟩;refine Am ?_;refine Zn [8,1,2,4,6] ?_;refine BB (e':=[(8,_)]) (by exact ⟨ba,g1,c1,s1,g2,c2,s2,⟨h1,h2⟩,rfl,rfl⟩)
    exact Aw
   exact Aw
  exact Aw
 rintro _ _ ⟨ba,g1,c1,s1,g2,c2,s2,⟨h1,h2⟩,rfl,rfl⟩;refine Zq<|Zq<|Zg<|Zh 0 underlying57 rfl rfl sizeOf30 Y<|Zo Wh (Pa #[_,_,_,_,_,_,_] isAgg30 sizeOf30 Y) ?_;refine Zo Wh (Pa #[_,_,_] isAgg51 sizeOf51 Y) ?_;refine Zh 8 underlying57 rfl rfl sizeOf3 Y<|Zl isAgg3 Y ?_;refine Zm Y<|Zc [_,_,_,_] Y call36 Y rfl (VW q hq base (by omega) hl (by omega) hcs hU0 (by omega) hrv) ?_;rintro _ _ ⟨_,⟨rv3,s3,rfl,h3,rfl⟩,rfl⟩;obtain ⟨g3,c3,rfl⟩:=h3.form;refine Zm Y<|Zd Y rfl<|Zd Y rfl<|Zd Y rfl<|Zh 7 underlying53 rfl rfl sizeOf51 Y<|Xe (Xw sizeOf51 #[I4 q.kd,I4 q.tb,I4 q.cl,I4 q.lo,I4 q.hi,I4 q.bq,I4 q.ot,.slice g3 (Ce q r base l).1.rows.length c3,I4 (Ce q r base l).1.val,.bool (Ce q r base l).1.fnd,I4 0,I4 (base+(l.length:Int)),I4 base,.slice g1 L.length c1,.slice g2 l.length c2]) ?_;refine Zh 10 underlying53 rfl rfl sizeOf3 Y<|Xe (Zs sizeOf3 Y Y rfl (hc:=by exact (rfl:_=(#[I4 q.kd,I4 q.tb,I4 q.cl,I4 q.lo,I4 q.hi,I4 q.bq,I4 q.ot,.slice g3 (Ce q r base l).1.rows.length c3,I4 (Ce q r base l).1.val,.bool (Ce q r base l).1.fnd,I4 (Ce q r base l).2.1,I4 (base+(l.length:Int)),I4 base,.slice g1 L.length c1,.slice g2 l.length c2]:Array Value))) (hi:=by first|omega|decide|(simp;done))) ?_;refine Za Y<|Z0<|Zn [4,7,8] ?_;refine Zx<|Zq<|Zg<|Zm Y<|Zv (Ca Y)<|Z0<|Zx ?_;refine Af Y (fun hb3=>?_) (fun hb3=>?_)
 ·
  have hno:(Ce q r base l).2.2=false:=by simpa using hb3
  refine Zq<|Zg<|Zv (BK (vs:=[]) (cs:=#[_,_,_,_,_,_,_,_,_,_,_,_,_,_,_]) Y (Aa (pl:=#[(0,7),(7,3),(10,1),(11,1),(12,1),(13,1),(14,1)]) zeroValue53 underlying53 (fun _=>by kernel_rfl) rfl)) ?_;refine Xe (BN sizeOf53 Y Y (by(simp [Value.oneCell'];done)) Wu (by exact DU rfl) (by first|rfl|(simp;done)) Wb (by exact BQ _)) ?_;refine Za Y<|Z0<|Zx<|A9<|Zt ?_;refine Bb rfl results18 Y Wh (Ah isAgg53 sizeOf53 Wn (Au rfl)) Y (by exact .inr ⟨by rw [Jv hr (by omega),VY hno];rfl,rfl,rfl⟩)
 have hyes:(Ce q r base l).2.2=true:=by simpa using hb3
 refine AC<|Zx<|Zq ?_;have hzok:∀z∈Z,z.ok M:=fun z hz=>by obtain ⟨i,hi⟩:=uV hz;exact (hzg i z hi).1
 have hrok:∀x∈l,Dh M (.slice x.q x.cs.length x.cap) x.cs:=fun x hx=>by obtain ⟨i,hi⟩:=uV hx;obtain ⟨_,_,_,_,hg9⟩:=hl;exact (hg9 i x hi).1
 have hra:=VX hyes;have h3l:=FD h3
 have h3m:=bE h3;refine Zg<|Zo Wh (Pa #[_,_,_,_,_,_,_,_,_,_,_,_,_,_,_] isAgg53 sizeOf53 Y) ?_;refine Xe (BN sizeOf53 Y Y (by(simp [Value.oneCell'];done)) Wu (by exact DU rfl) (by first|rfl|(simp;done)) Wb (by exact BQ _)) ?_;refine Za Y<|Z0<|Zx<|A9 ?_;refine Bb rfl results18 Y Wh (Ah isAgg53 sizeOf53 Wn (Au rfl)) Y (by exact .inl ⟨⟨⟨q,(Ce q r base l).1,(Ce q r base l).2.1,base+(l.length:Int),base,L,l⟩,g3,c3,g1,c1,g2,c2⟩,s3,s1,s2,by rw [Jv hr (by omega),hra];rfl,⟨(Dv h3 h3m).mono (fun c hc=>u6 _ hc),⟨Z,(Yu h1 (by omega) hzok).mono (fun c hc=>by rcases uF.1 hc with h9|h9;exact tZ _ (u6 _ h9);exact tZ _ (tZ _ (tZ _ h9))),hZx⟩,G7 (Sg h2 (by show l.length≤maxLen;omega) hrok) (fun c hc=>tZ _ (tZ _ hc))⟩,rfl,rfl⟩)
theorem aQ{M:List AR}(q:QM)(te base:Int)(hb:-1000000000000≤base∧base≤1000000000000){pg:Option Addr}{cg:Nat}{L:List RP}(hL:Gs M (.slice pg L.length cg) L)(hLl:L.length≤1000000){r:CG}(hr:FY q L=some r){lv:Value}{l:List Br}(hl:Du M lv l)(hcs:∀x∈l,x.cs.length≤1000):CO Tryz.prog 18 #[.agg #[I4 q.kd,I4 q.tb,I4 q.cl,I4 q.lo,I4 q.hi,I4 q.bq,I4 q.ot,I4 te,I4 base,.slice pg L.length cg],lv] [M] (fun w H'=>∃(z:GG) (s:List AR) (b:Bool),((b=true∧Ev q base L l=some z.a∧z.ok (s++M))∨(b=false∧Ev q base L l=none))∧w= .tuple #[.agg #[I4 z.a.q.kd,I4 z.a.q.tb,I4 z.a.q.cl,I4 z.a.q.lo,I4 z.a.q.hi,I4 z.a.q.bq,I4 z.a.q.ot,.slice z.rp z.a.res.rows.length z.rc,I4 z.a.res.val,.bool z.a.res.fnd,I4 z.a.since,I4 z.a.until_,I4 z.a.base,.slice z.gp z.a.ranges.length z.gc,.slice z.cp z.a.recs.length z.cc],.bool b]∧H'=[s,M]):=by
 refine EB (kV q te base hb hL hLl hr hl hcs) rfl ?_;rintro w H' (⟨z,s3,s1,s2,h1,h2,rfl,rfl⟩|⟨h1,rfl,rfl⟩)
 · exact ⟨_,⟨z,s3++(s1++s2),true,.inl ⟨rfl,h1,by simpa only [tO]using h2⟩,rfl,rfl⟩,by simp⟩
 · exact ⟨_,⟨⟨⟨⟨0,0,0,0,0,0,0⟩,CG.none,0,0,0,[],[]⟩,none,0,none,0,none,0⟩,[],false,.inr ⟨rfl,h1⟩,rfl,rfl⟩,by simp⟩
def Lp.eqv(a b:Lp):Prop:=a.q=b.q∧a.since=b.since∧a.until_=b.until_∧a.base=b.base∧a.res=b.res∧a.ranges=b.ranges∧a.recs.map Br.key=b.recs.map Br.key
instance(a b:Lp):Decidable (a.eqv b):=inferInstanceAs(Decidable (_∧_))
def FO(base until_:Cm)(a:Lp):Prop:=base.p=a.base∧until_.p=a.until_∧J6 base a.recs until_∧(∀x∈a.ranges,Nh base.st x)∧∃b,Ev a.q a.base a.ranges a.recs=some b∧a.eqv b
noncomputable instance(base until_:Cm)(a:Lp):Decidable (FO base until_ a):=Classical.propDecidable _
def RP.small(x:RP):Prop:=(∀s∈x.roots,s.length≤140737488354000)∧∀l∈x.paths,l.length≤1000000
theorem Ik{a b:Lp}(h:¬a.eqv b):Value.bool false=Value.bool (decide (a.eqv b)):=congrArg Value.bool (decide_eq_false h).symm
theorem MJ{M:List AR}{x y:GG}(hx:x.ok M)(hy:y.ok M):Av Tryz.prog 28 #[.agg #[I4 x.a.q.kd,I4 x.a.q.tb,I4 x.a.q.cl,I4 x.a.q.lo,I4 x.a.q.hi,I4 x.a.q.bq,I4 x.a.q.ot,.slice x.rp x.a.res.rows.length x.rc,I4 x.a.res.val,.bool x.a.res.fnd,I4 x.a.since,I4 x.a.until_,I4 x.a.base,.slice x.gp x.a.ranges.length x.gc,.slice x.cp x.a.recs.length x.cc],.agg #[I4 y.a.q.kd,I4 y.a.q.tb,I4 y.a.q.cl,I4 y.a.q.lo,I4 y.a.q.hi,I4 y.a.q.bq,I4 y.a.q.ot,.slice y.rp y.a.res.rows.length y.rc,I4 y.a.res.val,.bool y.a.res.fnd,I4 y.a.since,I4 y.a.until_,I4 y.a.base,.slice y.gp y.a.ranges.length y.gc,.slice y.cp y.a.recs.length y.cc]] [M] (.bool (decide (x.a.eqv y.a))):=by
 refine Se func28 ntmps28 [0,1] ?_;intro u R;refine Zq<|Zg<|Ze (Bx #[I4 x.a.q.kd,I4 x.a.q.tb,I4 x.a.q.cl,I4 x.a.q.lo,I4 x.a.q.hi,I4 x.a.q.bq,I4 x.a.q.ot,.slice x.rp x.a.res.rows.length x.rc,I4 x.a.res.val,.bool x.a.res.fnd,I4 x.a.since,I4 x.a.until_,I4 x.a.base,.slice x.gp x.a.ranges.length x.gc,.slice x.cp x.a.recs.length x.cc]) ?_;rintro _ _ ⟨b1,rfl,rfl⟩;refine Ze (Bx #[I4 y.a.q.kd,I4 y.a.q.tb,I4 y.a.q.cl,I4 y.a.q.lo,I4 y.a.q.hi,I4 y.a.q.bq,I4 y.a.q.ot,.slice y.rp y.a.res.rows.length y.rc,I4 y.a.res.val,.bool y.a.res.fnd,I4 y.a.since,I4 y.a.until_,I4 y.a.base,.slice y.gp y.a.ranges.length y.gc,.slice y.cp y.a.recs.length y.cc]) ?_;rintro _ _ ⟨b2,rfl,rfl⟩;refine Za Y<|Z0<|Zx<|Zq<|Zg<|Zh 0 underlying53 rfl rfl sizeOf30 Y<|Zo Wh (Pa #[_,_,_,_,_,_,_] isAgg30 sizeOf30 Y) ?_;refine Zh 0 underlying53 rfl rfl sizeOf30 Y<|Zo Wh (Pa #[_,_,_,_,_,_,_] isAgg30 sizeOf30 Y) ?_;refine Zv (ig (by kernel_rfl) Y Y (eqQ x.a.q y.a.q)) ?_;refine Zm Y ?_;refine Aj (t:=10) Y rfl (fun h1=>?_) (fun h1=>?_)
 ·
  refine Yf 10 underlying53 rfl rfl sizeOf3 Y<|Yl isAgg3 Y ?_;refine Yf 10 underlying53 rfl rfl sizeOf3 Y<|Yl isAgg3 Y ?_;refine Yg (CF Y Y)<|Zv (AL Y Y)<|Zm Y ?_;refine Aj (t:=17) Y rfl (fun h2=>?_) (fun h2=>?_)
  ·
   refine Yf 11 underlying53 rfl rfl sizeOf3 Y<|Yl isAgg3 Y ?_;refine Yf 11 underlying53 rfl rfl sizeOf3 Y<|Yl isAgg3 Y ?_;refine Yg (CF Y Y)<|Zv (AL Y Y)<|Zm Y ?_;refine Aj (t:=24) Y rfl (fun h3=>?_) (fun h3=>?_)
   ·
    refine Yf 12 underlying53 rfl rfl sizeOf3 Y<|Yl isAgg3 Y ?_;refine Yf 12 underlying53 rfl rfl sizeOf3 Y<|Yl isAgg3 Y ?_;refine Yg (CF Y Y)<|Zv (AL Y Y)<|Zm Y ?_;refine Aj (t:=31) Y rfl (fun h4=>?_) (fun h4=>?_)
    ·
     refine Yf 7 underlying53 rfl rfl sizeOf51 Y<|DL Y Wh (Pa #[_,_,_] isAgg51 sizeOf51 Y) rfl rfl ?_;refine Yf 7 underlying53 rfl rfl sizeOf51 Y<|DL Y Wh (Pa #[_,_,_] isAgg51 sizeOf51 Y) rfl rfl ?_;refine Xr [_,_] Y call31 Y rfl (R3 hx.1 hy.1) ?_;refine Zv (AL Y Y)<|Zm Y ?_;refine Aj (t:=38) Y rfl (fun h5=>?_) (fun h5=>?_)
     ·
      refine Yf 13 underlying53 rfl rfl sizeOf40 Y<|Yl isAgg40 Y ?_;refine Yf 13 underlying53 rfl rfl sizeOf40 Y<|Yl isAgg40 Y ?_;refine Xr [_,_,_] Y call81 Y rfl (Ut hx.2.1 hy.2.1) ?_;refine Zv (AL Y Y)<|Zm Y ?_;refine Aj (t:=45) Y rfl (fun h6=>?_) (fun h6=>?_)
      ·
       refine Yf 14 underlying53 rfl rfl sizeOf28 Y<|Yl isAgg28 Y ?_;refine Yf 14 underlying53 rfl rfl sizeOf28 Y<|Yl isAgg28 Y ?_;refine Xr [_,_,_] Y call83 Y rfl (Ry hx.2.2 hy.2.2) ?_;refine Zv (AL Y Y)<|Za Y<|Z0<|Zn [4] ?_;refine Zx<|A9 ?_;refine AB rfl results28 Y (by exact ⟨by exact GU ⟨fun h9=>⟨h1,h2,h3,h4,h5,h6,h9⟩,fun h9=>h9.2.2.2.2.2.2⟩,rfl⟩)
      refine A7 Y rfl<|A7 Y rfl<|A7 Y rfl<|A7 Y rfl<|A7 Y rfl<|Zv (AA Y Y)<|Za Y<|Z0<|Zn [4] ?_;refine Zx<|A9 ?_;refine AB rfl results28 Y (by exact ⟨by exact Ik (fun e=>h6 e.2.2.2.2.2.1),rfl⟩)
     refine A7 Y rfl<|A7 Y rfl<|A7 Y rfl<|A7 Y rfl<|A7 Y rfl<|Zv (AA Y Y)<|Zm Y<|A7 Y rfl<|A7 Y rfl<|A7 Y rfl<|A7 Y rfl<|A7 Y rfl<|Zv (AA Y Y)<|Za Y<|Z0<|Zn [4] ?_;refine Zx<|A9 ?_;refine AB rfl results28 Y (by exact ⟨by exact Ik (fun e=>h5 e.2.2.2.2.1),rfl⟩)
    refine A7 Y rfl<|A7 Y rfl<|A7 Y rfl<|A7 Y rfl<|A7 Y rfl<|Zv (AA Y Y)<|Zm Y<|A7 Y rfl<|A7 Y rfl<|A7 Y rfl<|A7 Y rfl<|A7 Y rfl<|Zv (AA Y Y)<|Zm Y<|A7 Y rfl<|A7 Y rfl<|A7 Y rfl<|A7 Y rfl<|A7 Y rfl<|Zv (AA Y Y)<|Za Y<|Z0<|Zn [4] ?_;refine Zx<|A9 ?_;refine AB rfl results28 Y (by exact ⟨by exact Ik (fun e=>h4 e.2.2.2.1),rfl⟩)
   refine A7 Y rfl<|A7 Y rfl<|A7 Y rfl<|A7 Y rfl<|A7 Y rfl<|Zv (AA Y Y)<|Zm Y<|A7 Y rfl<|A7 Y rfl<|A7 Y rfl<|A7 Y rfl<|A7 Y rfl<|Zv (AA Y Y)<|Zm Y<|A7 Y rfl<|A7 Y rfl<|A7 Y rfl<|A7 Y rfl<|A7 Y rfl<|Zv (AA Y Y)<|Zm Y<|A7 Y rfl<|A7 Y rfl<|A7 Y rfl ?_;refine A7 Y rfl<|A7 Y rfl<|Zv (AA Y Y)<|Za Y<|Z0<|Zn [4] ?_;refine Zx<|A9 ?_;refine AB rfl results28 Y (by exact ⟨by exact Ik (fun e=>h3 e.2.2.1),rfl⟩)
  refine A7 Y rfl<|A7 Y rfl<|A7 Y rfl<|A7 Y rfl<|A7 Y rfl<|Zv (AA Y Y)<|Zm Y<|A7 Y rfl<|A7 Y rfl<|A7 Y rfl<|A7 Y rfl<|A7 Y rfl<|Zv (AA Y Y)<|Zm Y<|A7 Y rfl<|A7 Y rfl<|A7 Y rfl<|A7 Y rfl<|A7 Y rfl<|Zv (AA Y Y)<|Zm Y<|A7 Y rfl<|A7 Y rfl<|A7 Y rfl ?_;refine A7 Y rfl<|A7 Y rfl<|Zv (AA Y Y)<|Zm Y<|A7 Y rfl<|A7 Y rfl<|A7 Y rfl<|A7 Y rfl<|A7 Y rfl<|Zv (AA Y Y)<|Za Y<|Z0<|Zn [4] ?_;refine Zx<|A9 ?_;refine AB rfl results28 Y (by exact ⟨by exact Ik (fun e=>h2 e.2.1),rfl⟩)
 refine A7 Y rfl<|A7 Y rfl<|A7 Y rfl<|A7 Y rfl<|A7 Y rfl<|Zv (AA Y Y)<|Zm Y<|A7 Y rfl<|A7 Y rfl<|A7 Y rfl<|A7 Y rfl<|A7 Y rfl<|Zv (AA Y Y)<|Zm Y<|A7 Y rfl<|A7 Y rfl<|A7 Y rfl<|A7 Y rfl<|A7 Y rfl<|Zv (AA Y Y)<|Zm Y<|A7 Y rfl<|A7 Y rfl<|A7 Y rfl ?_;refine A7 Y rfl<|A7 Y rfl<|Zv (AA Y Y)<|Zm Y<|A7 Y rfl<|A7 Y rfl<|A7 Y rfl<|A7 Y rfl<|A7 Y rfl<|Zv (AA Y Y)<|Zm Y<|A7 Y rfl<|A7 Y rfl<|A7 Y rfl<|A7 Y rfl<|A7 Y rfl<|Zv (AA Y Y)<|Za Y<|Z0<|Zn [4] ?_;refine Zx<|A9 ?_;refine AB rfl results28 Y (by exact ⟨by exact Ik (fun e=>h1 e.1),rfl⟩)
theorem UY{M:List AR}(h:Cm){z:RPZ}(hz:z.ok M)(hs:z.x.small)(bb:Nat)(Tg:TypeId)(zg:Nat×Nat):Av Tryz.prog 77 #[.agg #[I4 z.x.tb,I4 z.x.cl,I4 z.x.lo,I4 z.x.hi,I4 z.x.ct,I4 z.x.fi,.slice z.qr z.x.rows.length z.cr,.slice z.qp z.x.paths.length z.cp,.slice z.qt z.x.roots.length z.ct],I5 bb] [[(bb,.cells #[I4 h.p,.string (str h.ch),.string (str h.st)] 67 (0,0))],[(1,.cells (Cs.map Bj).toArray Tg zg)],M] (.bool (decide (¬Nh h.st z.x))):=by
 refine Se func77 ntmps77 [0,1] ?_;intro u R;refine Zq<|Zg<|Ze (Bx #[I4 z.x.tb,I4 z.x.cl,I4 z.x.lo,I4 z.x.hi,I4 z.x.ct,I4 z.x.fi,.slice z.qr z.x.rows.length z.cr,.slice z.qp z.x.paths.length z.cp,.slice z.qt z.x.roots.length z.ct]) ?_;rintro _ _ ⟨bx,rfl,rfl⟩;refine Za Y<|Z0<|Zx<|Zq<|Zg<|Zh 2 underlying67 rfl rfl sizeOf9 Y<|Zl isAgg9 Y ?_;refine Zo Wh (AX (cs:=#[_,_,_,_,_,_,_,_,_]) isAgg49 sizeOf49 Y Wb (by exact Au rfl)) ?_;refine Xr [_,_] Y call41 Y rfl (Tz hz.rp hs.1 hs.2 h.st Tg zg) ?_;refine Zv (CB Y)<|Za Y<|Z0<|Zx<|A9 ?_;refine AB rfl results77 Y (by exact ⟨rfl,rfl⟩)
theorem Rt{M:List AR}(h:Cm){v:Value}{L:List RP}(hL:Gs M v L)(hs:∀x∈L,x.small)(bb:Nat)(Tg:TypeId)(zg:Nat×Nat):CO Tryz.prog 151 #[v,.func (.func 77) #[] #[I5 bb]] [[(bb,.cells #[I4 h.p,.string (str h.ch),.string (str h.st)] 67 (0,0))],[(1,.cells (Cs.map Bj).toArray Tg zg)],M] (fun w H'=>∃z:Int,w=I4 z∧(0≤z↔¬∀x∈L,Nh h.st x)∧H'=[[(bb,.cells #[I4 h.p,.string (str h.ch),.string (str h.st)] 67 (0,0))],[(1,.cells (Cs.map Bj).toArray Tg zg)],M]):=by
 have hml:=mL;obtain ⟨pa,ca,rfl,hla,hlca⟩:=hL.form;refine Se func151 ntmps151 [0,1] ?_;intro u R;refine Zq<|Zg<|Za Y<|Z0<|Zx<|Zq<|Zq<|Zg<|Zm Y<|Zv (AV underlying40 Y)<|Zm Y<|Z0<|Zx<|AQ<|Zb [8,0,1,7] ?_;refine Az (e0:=[(8,_)]) (fun m e H=>∃(i:Nat),m=L.length -i∧(i≤L.length∧∀(j:Nat) (y:RP),j<i→L[j]?=some y→Nh h.st y)∧e=[(8,I4 (i:Int))]∧H=[]) (by exact ⟨0,rfl,⟨tX _,by intro j y hj;omega⟩,rfl,rfl⟩) Wp ?_;rintro _ _ _ ⟨i,rfl,⟨hi,hall⟩,rfl,rfl⟩;refine Zq<|Zg<|Zv (Aq Y Y)<|Z0<|Zx<|Zq ?_;refine Ao Y (fun hlt=>?_) (fun hlt=>?_)
 ·
  obtain ⟨x9,hx⟩:∃x,L[i]?=some x:=⟨_,tF (by omega)⟩;obtain ⟨x,hx9,hu1,g1,off1,cur1,T1,zz1,rfl,hm1,hsz1,hex1⟩:=hL.at hx;subst hx9;have hxs:=hs x.x (tV hx)
  refine AC<|Zx<|Zq<|AQ<|Zq<|Zg<|Zm Y<|Za Y<|Z0<|Zx<|Zq<|Zg<|Zm Y<|Zm Y<|Zm Y ?_;refine BM (AU underlying40 sizeOf49 Y Y (by omega)) ?_;refine Cf (cs:=[(g1,.cells cur1 T1 zz1)]) (by simp [hm1]) (AX (cs:=#[I4 x.x.tb,I4 x.x.cl,I4 x.x.lo,I4 x.x.hi,I4 x.x.ct,I4 x.x.fi,.slice x.qr x.x.rows.length x.cr,.slice x.qp x.x.paths.length x.cp,.slice x.qt x.x.roots.length x.ct]) isAgg49 sizeOf49 Y (by omega) hex1) rfl rfl ?_;refine Xr [_] Y call77 Y rfl (UY h hu1 hxs bb Tg zg) ?_;refine Z0<|Zx ?_;refine Ao Y (fun hv=>?_) (fun hv=>?_)
  ·
   refine Zq<|Zg<|Zm Y<|Za Y<|Z0<|Zx<|A9<|AY<|Zt<|Zt<|AY<|Zt ?_;refine AB rfl results151 Y (by exact ⟨_,rfl,⟨fun _ h9=>hv (h9 _ (tV hx)),fun _=>by omega⟩,rfl⟩)
  refine AC<|A8<|Zx<|Zg<|Ya (n:=1) Y Y<|Zm Y<|Z0<|Zn [8,0,1,7] ?_;refine Ab (e':=[(8,_)]) (by exact ⟨i+1,rfl,⟨by omega,fun j y hj hy=>by rcases uJ j i with h9|h9;exact hall j y h9 hy;obtain rfl:j=i:=(by omega);rw [hx]at hy;injection hy with hy;rw [←hy];exact uH.1 hv⟩,rfl,rfl⟩)
 have hfin:∀x∈L,Nh h.st x:=fun x hx=>by obtain ⟨j,hj⟩:=uV hx;exact hall j x (by have:=(tH.1 hj).1;omega) hj
 refine Ar<|Zt<|Zt<|AO<|Zx<|Zq<|Zg<|Za Y<|Z0<|Zx<|A9 ?_;refine AB rfl results151 Y (by exact ⟨_,rfl,⟨fun h9=>absurd h9 (by decide),fun h9=>absurd hfin h9⟩,rfl⟩)
theorem kg{M:List AR}(h:Cm){v:Value}{L:List RP}(hL:Gs M v L)(hs:∀x∈L,x.small)(bb:Nat)(Tg:TypeId)(zg:Nat×Nat):CO Tryz.prog 78 #[v,.func (.func 77) #[] #[I5 bb]] [[(bb,.cells #[I4 h.p,.string (str h.ch),.string (str h.st)] 67 (0,0))],[(1,.cells (Cs.map Bj).toArray Tg zg)],M] (fun w H'=>∃b:Bool,w= .bool b∧(b=true↔¬∀x∈L,Nh h.st x)∧H'=[[(bb,.cells #[I4 h.p,.string (str h.ch),.string (str h.st)] 67 (0,0))],[(1,.cells (Cs.map Bj).toArray Tg zg)],M]):=by
 refine Se func78 ntmps78 [0,1] ?_;intro u R;refine Zq<|Zg<|Za Y<|Z0<|Zx<|Zq<|Zg<|Zm Y<|Zm Y<|Zc [_,_] Y call151 Y rfl (Rt h hL hs bb Tg zg) ?_;rintro _ _ ⟨_,⟨z,rfl,hz,rfl⟩,rfl⟩;refine Zv (GZ Y Y)<|Za Y<|Z0<|Zx<|A9 ?_;refine AB rfl results78 Y (by exact ⟨_,rfl,by rw [←hz];simp,rfl⟩)
theorem bQ{A M:List AR}{x y:GG}(hx:x.ok M)(hy:y.ok (A++M)):Av Tryz.prog 28 #[.agg #[I4 x.a.q.kd,I4 x.a.q.tb,I4 x.a.q.cl,I4 x.a.q.lo,I4 x.a.q.hi,I4 x.a.q.bq,I4 x.a.q.ot,.slice x.rp x.a.res.rows.length x.rc,I4 x.a.res.val,.bool x.a.res.fnd,I4 x.a.since,I4 x.a.until_,I4 x.a.base,.slice x.gp x.a.ranges.length x.gc,.slice x.cp x.a.recs.length x.cc],.agg #[I4 y.a.q.kd,I4 y.a.q.tb,I4 y.a.q.cl,I4 y.a.q.lo,I4 y.a.q.hi,I4 y.a.q.bq,I4 y.a.q.ot,.slice y.rp y.a.res.rows.length y.rc,I4 y.a.res.val,.bool y.a.res.fnd,I4 y.a.since,I4 y.a.until_,I4 y.a.base,.slice y.gp y.a.ranges.length y.gc,.slice y.cp y.a.recs.length y.cc]] [A,M] (.bool (decide (x.a.eqv y.a))):=by
 refine EB (MJ (hx.mono (fun c hc=>tZ A hc)) hy) (by simp) ?_;rintro r H' ⟨rfl,rfl⟩;exact ⟨_,⟨rfl,rfl⟩,by simp⟩
set_option maxHeartbeats 1000000 in
theorem aO(base until_:Cm){M:List AR}{z:GG}(hz:z.ok M)(hs:∀x∈z.a.ranges,x.small)(hrl:z.a.ranges.length≤1000000)(hb:-1000000000000≤z.a.base∧z.a.base≤1000000000000)(hcs:∀x∈z.a.recs,x.cs.length≤1000){r:CG}(hr:FY z.a.q z.a.ranges=some r)(Tg:TypeId)(zg:Nat×Nat):Av Tryz.prog 26 #[.agg #[I4 base.p,.string (str base.ch),.string (str base.st)],.agg #[I4 until_.p,.string (str until_.ch),.string (str until_.st)],.agg #[I4 z.a.q.kd,I4 z.a.q.tb,I4 z.a.q.cl,I4 z.a.q.lo,I4 z.a.q.hi,I4 z.a.q.bq,I4 z.a.q.ot,.slice z.rp z.a.res.rows.length z.rc,I4 z.a.res.val,.bool z.a.res.fnd,I4 z.a.since,I4 z.a.until_,I4 z.a.base,.slice z.gp z.a.ranges.length z.gc,.slice z.cp z.a.recs.length z.cc]] [[(1,.cells (Cs.map Bj).toArray Tg zg)],M] (.bool (decide (FO base until_ z.a))):=by
 have hml:=mL;refine Se func26 ntmps26 [0,1,2] ?_;intro u R;refine Zq<|Zg<|Ze (Bx #[_,_,_]) ?_;rintro _ _ ⟨b1,rfl,rfl⟩;refine Ze (Bx #[_,_,_]) ?_;rintro _ _ ⟨b2,rfl,rfl⟩;refine Ze (Bx #[I4 z.a.q.kd,I4 z.a.q.tb,I4 z.a.q.cl,I4 z.a.q.lo,I4 z.a.q.hi,I4 z.a.q.bq,I4 z.a.q.ot,.slice z.rp z.a.res.rows.length z.rc,I4 z.a.res.val,.bool z.a.res.fnd,I4 z.a.since,I4 z.a.until_,I4 z.a.base,.slice z.gp z.a.ranges.length z.gc,.slice z.cp z.a.recs.length z.cc]) ?_;rintro _ _ ⟨b3,rfl,rfl⟩;refine Za Y<|Z0<|Zx<|Zq<|Zq<|Zg<|Zh 0 underlying67 rfl rfl sizeOf3 Y<|Zl isAgg3 Y ?_;refine Zh 12 underlying53 rfl rfl sizeOf3 Y<|Zl isAgg3 Y ?_;refine Zv (IL Y Y)<|Zm Y ?_;refine Aj (t:=15) Y rfl (fun h1=>?_) (fun h1=>?_)
 ·
  refine A7 Y rfl<|A7 Y rfl<|A7 Y rfl<|A7 Y rfl<|A7 Y rfl<|Zv (AL Y Y)<|Zm Y<|A7 Y rfl<|A7 Y rfl<|A7 Y rfl<|A7 Y rfl<|A7 Y rfl<|A7 Y rfl<|Zv (AL Y Y)<|Z0<|Zn [3,5,29] ?_;refine Zx<|CE Y<|Zq<|Zg<|Za Y<|Z0<|Zx<|A9<|Zt ?_;refine AB rfl results26 Y (by exact ⟨congrArg Value.bool (decide_eq_false (fun h9:FO base until_ z.a=>by exact h1 h9.1)).symm,rfl⟩)
 refine Yf 0 underlying67 rfl rfl sizeOf3 Y<|Yl isAgg3 Y ?_;refine Yf 11 underlying53 rfl rfl sizeOf3 Y<|Yl isAgg3 Y ?_;refine Yg (IL Y Y)<|Zv (AA Y Y)<|Zm Y ?_;refine Aj (t:=22) Y rfl (fun h2=>?_) (fun h2=>?_)
 ·
  refine A7 Y rfl<|A7 Y rfl<|A7 Y rfl<|A7 Y rfl<|A7 Y rfl<|A7 Y rfl<|Zv (AL Y Y)<|Z0<|Zn [3,5,29] ?_;refine Zx<|CE Y<|Zq<|Zg<|Za Y<|Z0<|Zx<|A9<|Zt ?_;refine AB rfl results26 Y (by exact ⟨congrArg Value.bool (decide_eq_false (fun h9:FO base until_ z.a=>by exact h2 h9.2.1)).symm,rfl⟩)
 refine DL Y Wh (AX (cs:=#[_,_,_]) isAgg67 sizeOf67 Y Wb (by exact Au rfl)) rfl rfl ?_;refine Yf 14 underlying53 rfl rfl sizeOf28 Y<|Yl isAgg28 Y ?_;refine DL Y Wh (AX (cs:=#[_,_,_]) isAgg67 sizeOf67 Y Wb (by exact Au rfl)) rfl rfl ?_;refine Xr [_,_,_] Y call76 Y rfl (eG base until_ hz.2.2 Tg zg) ?_;refine Yg (CB Y)<|Zv (AA Y Y)<|Z0<|Zn [3,5,29] ?_;refine Zx ?_;refine Ao Y (fun h3=>?_) (fun h3=>?_)
 ·
  refine Zq<|Zg<|Za Y<|Z0<|Zx<|A9<|Zt ?_;refine AB rfl results26 Y (by exact ⟨congrArg Value.bool (decide_eq_false (fun h9:FO base until_ z.a=>by exact h3 h9.2.2.1)).symm,rfl⟩)
 have h11:=uH.1 h1;have h22:=uH.1 h2
 have h33:=uH.1 h3;refine AC<|Zx<|Zq<|Zg<|Zv (Bt (vs:=[]) (us:=[_]) Y Y) ?_;refine Za Y<|Z0<|Zx<|Zq<|Zq<|Zg<|Zh 13 underlying53 rfl rfl sizeOf40 Y<|Zl isAgg40 Y ?_;refine Zm Y<|Zc [_,_] Y call78 Y rfl (kg base hz.2.1 hs b1 Tg zg) ?_;rintro _ _ ⟨_,⟨bf,rfl,hbf,rfl⟩,rfl⟩;refine Z0<|Zx ?_;refine Af Y (fun h4=>?_) (fun h4=>?_)
 ·
  refine Zq<|Zg<|Za Y<|Z0<|Zx<|A9<|Zt ?_;refine AB rfl results26 Y (by exact ⟨congrArg Value.bool (decide_eq_false (fun h9:FO base until_ z.a=>(hbf.1 h4) h9.2.2.2.1)).symm,rfl⟩)
 have h5:∀x∈z.a.ranges,Nh base.st x:=uH.1 fun h9=>by have:=hbf.2 h9;rw [h4]at this;cases this
 refine AC<|Zx<|Zq<|Zg<|Zh 0 underlying53 rfl rfl sizeOf30 Y<|Zo Wh (Pa #[_,_,_,_,_,_,_] isAgg30 sizeOf30 Y) ?_;refine Zh 12 underlying53 rfl rfl sizeOf3 Y<|Zl isAgg3 Y ?_;refine Zh 13 underlying53 rfl rfl sizeOf40 Y<|Zl isAgg40 Y ?_;refine Zv (BK (vs:=[(0,.agg #[I4 z.a.q.kd,I4 z.a.q.tb,I4 z.a.q.cl,I4 z.a.q.lo,I4 z.a.q.hi,I4 z.a.q.bq,I4 z.a.q.ot]),(2,I4 z.a.base),(3,.slice z.gp z.a.ranges.length z.gc)]) (cs:=#[I4 z.a.q.kd,I4 z.a.q.tb,I4 z.a.q.cl,I4 z.a.q.lo,I4 z.a.q.hi,I4 z.a.q.bq,I4 z.a.q.ot,I4 0,I4 z.a.base,.slice z.gp z.a.ranges.length z.gc]) Y (Aa (pl:=#[(0,7),(7,1),(8,1),(9,1)]) zeroValue57 underlying57 (fun _=>by kernel_rfl) (by kernel_rfl))) ?_;refine Zh 14 underlying53 rfl rfl sizeOf28 Y<|Zl isAgg28 Y ?_;refine Zc [_,_] Y call18 Y rfl (aQ z.a.q 0 z.a.base hb hz.2.1 hrl hr hz.2.2 hcs) ?_;rintro _ _ ⟨_,⟨y,s9,ok9,hc9,rfl,rfl⟩,rfl⟩;refine Zm Y<|Zd Y rfl<|Zd Y rfl<|Ze (Al zeroValue53 #[_,_,_,_,_,_,_,_,_,_,_,_,_,_,_]) ?_;rintro _ _ ⟨b4,rfl,rfl⟩;refine Xe (Xw sizeOf53 #[I4 y.a.q.kd,I4 y.a.q.tb,I4 y.a.q.cl,I4 y.a.q.lo,I4 y.a.q.hi,I4 y.a.q.bq,I4 y.a.q.ot,.slice y.rp y.a.res.rows.length y.rc,I4 y.a.res.val,.bool y.a.res.fnd,I4 y.a.since,I4 y.a.until_,I4 y.a.base,.slice y.gp y.a.ranges.length y.gc,.slice y.cp y.a.recs.length y.cc]) ?_;refine Za Y<|Z0<|Zn [5,8,9] ?_;refine Zx<|Zq<|Zg<|Zm Y<|Zm Y ?_;refine Ai (t:=49) Y rfl (fun h6=>?_) (fun h6=>?_)
 ·
  obtain ⟨hby,hyo⟩:Ev z.a.q z.a.base z.a.ranges z.a.recs=some y.a∧y.ok (s9++M):=by rcases hc9 with⟨_,h9⟩|⟨h9,_⟩;exact h9;rw [h6]at h9;cases h9
  refine DL Y Wh (AX (cs:=#[_,_,_,_,_,_,_,_,_,_,_,_,_,_,_]) isAgg53 sizeOf53 Y Wb (by exact Au rfl)) rfl rfl ?_;refine DL Y Wh (AX (cs:=#[_,_,_,_,_,_,_,_,_,_,_,_,_,_,_]) isAgg53 sizeOf53 Y Wb (by exact Au rfl)) rfl rfl ?_;refine Xr [_,_] Y call28 Y rfl (bQ hz hyo) ?_;refine Zv (AL Y Y)<|Za Y<|Z0<|Zx<|A9 ?_;refine AB rfl results26 Y (by exact ⟨by exact GU ⟨fun h9=>⟨h11,h22,h33,h5,y.a,hby,h9⟩,fun h9=>by obtain ⟨b,hb1,hb2⟩:=h9.2.2.2.2;rw [hby]at hb1;injection hb1 with hb1;rw [hb1];exact hb2⟩,rfl⟩)
 have hby:Ev z.a.q z.a.base z.a.ranges z.a.recs=none:=by rcases hc9 with⟨h9,_⟩|⟨_,h9⟩;rw [h6]at h9;cases h9;exact h9
 refine A7 Y rfl<|A7 Y rfl<|A7 Y rfl<|Zv (AA Y Y)<|Za Y<|Z0<|Zx<|A9 ?_;refine AB rfl results26 Y (by exact ⟨by exact congrArg Value.bool (decide_eq_false (fun h9:FO base until_ z.a=>by obtain ⟨b,hb1,_⟩:=h9.2.2.2.2;rw [hby]at hb1;cases hb1)).symm,rfl⟩)
end Go.Proofs.YtkdgffcfmgmemaaGreatDoor
