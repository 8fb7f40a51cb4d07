/- slices.Clone of proofs and records; proof.Build. -/
import Derived.Test.YtfhjaegddfehhabGreatDoorPy3
set_option linter.unusedVariables false
set_option linter.unusedSimpArgs false
namespace Go.Proofs.YtfhjaegddfehhabGreatDoor
open Go.Proofs.Tryz
open Go Go.RowKit Gw
set_option maxRecDepth 100000
attribute [local irreducible] Gw.At Gw.Nx Gw.Ops
variable{M:List A9}{p:B6}
theorem O7{α:Type}(f:α->List A3)(sz:Nat)(X:∀a,(f a).length=sz)(h0:0<sz){l:List α}(Z:∀(i:Nat) (a:α),l[i]?=some a->∃g off cur T zz,p=some ⟨g,off,none⟩/\(g,Obj.cells cur T zz)∈M/\off+i*sz+sz<=cur.size/\cur.extract (off+i*sz) (off+i*sz+sz)=(f a).toArray):FP M p (l.flatMap f):=by
 intro j u J;have B:(l.flatMap f).length=l.length*sz:=by
  clear Z J;induction l with
  |nil=>simp
  |cons a l ih=>rw [HW,BW,ih,X,Dd,LO];omega
 have m:=(C4.1 J).1;rw [B]at m;have hd:=Nat.div_add_mod j sz
 have hm:=bm j h0;have hi:j/sz<l.length:=pA (by rw [nm];exact m)
 obtain ⟨a,W⟩:∃a,l[j/sz]?=some a:=⟨_,B7 hi⟩;obtain ⟨g,off,cur,T,zz,rfl,G,O,I⟩:=Z (j/sz) a W;refine ⟨g,off,cur,T,zz,V,G,?_⟩;have h1:=Pd I O (j%sz) hm
 have h2:=J7 f sz X l (j/sz) a W;have e1:j/sz*sz+j%sz=j:=by rw [nm];exact hd
 have U:(l.flatMap f)[j/sz*sz+j%sz]?=(f a)[j%sz]?:=by rw [<-h2,HJ,Ax hm,Q2]
 rw [e1,J]at U;rw [show off+j=off+j/sz*sz+j%sz by omega,h1,j8];exact U.symm
variable{cap n:Nat}
theorem kW{Z:List RPZ}(h:ZsU M (.slice p n cap) Z):FP M p (Z.flatMap Eh):=by
 obtain ⟨B,g,e,_,m⟩:=h;injection e with e1 e2 e3
 subst e1;exact O7 _ 9 (fun _=>rfl) AW fun i z hz=>(m i z hz).2
theorem ed{l:List BP}(h:EE M (.slice p n cap) l):FP M p (Du l):=by
 obtain ⟨B,g,e,_,m⟩:=h;injection e with e1 e2 e3
 subst e1;exact O7 _ 2 (fun _=>rfl) AW fun i z hz=>(m i z hz).2
theorem Uj(l:List BP):(Du l).length=l.length*2:=by
 induction l with
 |nil=>rfl
 |cons a l ih=>unfold Du at*;rw [HW,BW,ih];simp only [Dd,LI];omega
theorem XQ(l:List BP):∀u∈Du l,u.oneCell'=true:=by
 intro u g;obtain ⟨z,_,h⟩:=SM.1 g;simp only [DB,RR,PF]at h;rcases h with rfl|rfl<;>rfl
structure YM where
 q:QM
 res:CB
 since:Int
 until_:Int
 base:Int
 ranges:List RP
 recs:List BP
structure Ri where
 a:YM
 rp:B6
 rc:Nat
 gp:B6
 gc:Nat
 cp:B6
 cc:Nat
abbrev Ri.A99(c:Ri):Array Go.Value:=#[I4 c.a.q.kd,I4 c.a.q.tb,I4 c.a.q.cl,I4 c.a.q.lo,I4 c.a.q.hi,I4 c.a.q.bq,I4 c.a.q.ot,.slice c.rp c.a.res.rows.length c.rc,I4 c.a.res.val,.bool c.a.res.fnd,I4 c.a.since,I4 c.a.until_,I4 c.a.base,.slice c.gp c.a.ranges.length c.gc,.slice c.cp c.a.recs.length c.cc]
def Ri.ok(M:List A9)(z:Ri):Prop:=DW M (.slice z.rp z.a.res.rows.length z.rc) z.a.res.rows/\FW M (.slice z.gp z.a.ranges.length z.gc) z.a.ranges/\EE M (.slice z.cp z.a.recs.length z.cc) z.a.recs
variable{M':List A9}{v:A3}
theorem M3{l:List BP}(h:EE M v l)(O:∀c∈M,c∈M'):EE M' v l:=by
 obtain ⟨p,cap,e,W,U⟩:=h;refine ⟨p,cap,e,W,fun i r X=>?_⟩;obtain ⟨⟨Z,cap2,e2,J,I⟩,g,off,cur,T,zz,m,B,G⟩:=U i r X;refine ⟨⟨Z,cap2,e2,J,fun j c hc=>?_⟩,g,off,cur,T,zz,m,O _ B,G⟩;obtain ⟨g,off,cur,T,zz,m,B,G⟩:=I j c hc;exact ⟨g,off,cur,T,zz,m,O _ B,G⟩
theorem Ri.ok.mono{z:Ri}(h:z.ok M)(g:∀c∈M,c∈M'):z.ok M':=⟨h.1.mono g,h.2.1.mono g,M3 h.2.2 g⟩
noncomputable def K5(q:QM)(base:Int)(L:List RP)(recs:List BP):Option YM:=(Ea q L).bind fun r=>if recs.length<=64 then(GK q base 0 (r,base) recs).map fun st=>⟨q,st.1,st.2,base+(recs.length:Int),base,L,recs⟩else none
variable{q:QM}{base:Int}{L:List RP}
theorem j6{recs:List BP}(h:¬recs.length<=64):K5 q base L recs=none:=by
 unfold K5;cases Ea q L with
 |none=>rfl
 |some r=>rw [KK,An h]
variable{r:CB}
theorem Ql{recs:List BP}(g:Ea q L=some r)(h:recs.length<=64):K5 q base L recs=(GK q base 0 (r,base) recs).map fun st=>⟨q,st.1,st.2,base+(recs.length:Int),base,L,recs⟩:=by
 unfold K5;rw [g,KK,Ax h]
theorem M0{l:List BP}(h:(BD q r base l).2.2=true):GK q base 0 (r,base) l=some ((BD q r base l).1,(BD q r base l).2.1):=by
 unfold BD at*;split at h;· rename_i st h9;rw [h9]
 · cases h
theorem Z5{l:List BP}(h:(BD q r base l).2.2=false):GK q base 0 (r,base) l=none:=by
 unfold BD at*;split at h;· cases h
 · rename_i h9;exact h9
theorem kK(hq:BF q){rows g:List AX}(hl:rows.length<=100)(I:∀r∈rows,r.ok):(FV q rows g).rows.length<=200/\-1000000000000000000<=(FV q rows g).val/\(FV q rows g).val<=1000000000000000000:=by
 have G:=jq (q:=q) (rows:=rows) (fun r hr=>X6 (I r hr) q.bq);have B:(Cu q rows).length<=1000000000:=by rw [KT];omega
 have hj:=Tt q rows g;have hx:∀(lt:Int->Int->Bool) (hlt:∀a b c,lt b a=false->lt c b=false->lt c a=false) (hirr:∀a,lt a a=false) (hasy:∀a b,lt a b=true->lt b a=false),(EX lt (Cu q rows)).rows.length<=200/\-1000000000000000000<=(EX lt (Cu q rows)).val/\(EX lt (Cu q rows)).val<=1000000000000000000:=fun lt U W X=>by
  cases hms:Cu q rows with
  |nil=>exact ⟨C5 _,by show(_:Int)<=0;decide,by show(0:Int)<=_;decide⟩
  |cons z ms=>
   obtain ⟨x,J,_,O⟩:=KY lt U W X z ms;rw [O];rw [hms]at G;have:=G x J
   exact ⟨C5 _,by show _<=x;omega,by show x<=_;omega⟩
 have m:=jV G B (Cu q rows).length;rw [GS]at m;unfold FV;split;· exact ⟨C5 _,by simp only;omega,by simp only;omega⟩
 · split
   · exact ⟨C5 _,m⟩
   · split
     · exact hx _ (fun a b c Z h2=>by simp only [N5]at*;omega) (fun a=>by simp) (fun a b h=>by simp only [G3,N5]at*;omega)
     · split
       · exact hx _ (fun a b c Z h2=>by simp only [N5]at*;omega) (fun a=>by simp) (fun a b h=>by simp only [G3,N5]at*;omega)
       · split
         · exact ⟨by simp only;omega,by simp only;decide,by simp only;decide⟩
         · exact ⟨by simp only;omega,by simp only;decide,by simp only;decide⟩
variable{sz:Nat}{e:AK}{xs:List A3}{s:List A9}
theorem Mj(h:Bd sz e v n xs s):n<=maxLen:=by
 obtain ⟨_,⟨_,h0,_⟩|⟨_,_,_,_,_,_,g,h2,_⟩⟩:=h;· omega
 · omega
theorem Lp(h:Ea q L=some r):BF q/\r.rows.length<=200/\-1000000000000000000<=r.val/\r.val<=1000000000000000000:=by
 obtain ⟨x,G,_,g,_,hc,m,B⟩:=Qq h;refine ⟨g,?_⟩;rcases B with⟨_,_,rfl⟩|⟨_,o,_,rfl⟩
 · exact kK g m (Ov hc).2
 · exact kK g m (Ov hc).2
theorem Le{Z:List RPZ}(hv:ZsU M v Z)(hb:Z.length<=1000000):BZ prog 111 #[v] [M] (fun r H'=>∃O,Bd 9 146 r Z.length (Z.flatMap Eh) O/\H'=[O,M]):=by
 have af:=mL;have B:=hv
 obtain ⟨p,cap,rfl,⟨hl,X⟩,W⟩:=id hv;replace B:=kW B;refine Se func111 ntmps111 [0] ?_;intro u R;refine A0<|A4 Y<|Zq<|A0<|Zm Y<|Zv (Dq O2 Y Y)<|A5<|AU Y (fun J=>?_) (fun J=>?_);·
  have G:p=none:=by cases p with
   |none=>rfl
   |some x=>cases J
  have h0:Z=[]:=by
   cases Z with
   |nil=>rfl
   |cons x l=>obtain ⟨_,g,off,cur,T,zz,I,_⟩:=W 0 x rfl;rw [G]at I;cases I
  refine Zq<|BX<|Zg<|A4 Y<|AJ<|Zt<|AO rfl results111 Y (by exact ⟨[],by rw [h0];exact Bf 9 _,rfl⟩)
 refine AC<|Zx<|A0<|Ze (ER O2 HN)<|AG fun U=>Zm Y<|Ze (Hm (by_:=120) (sz:=9) O2 (V:Tryz.prog.info? 146=some Tryz.t146) V rfl V rfl Y (IZ 9 146 U 0 [] V AW) Y (B) (by exact vh _) AW Wo Wo (by exact zP _) A1 A1) ?_;rintro _ _ ⟨ax,m,rfl⟩;replace m:=BS m (DM _) (Ln _);refine A4 Y<|AJ<|AO V results111 Y (by exact ⟨_,m,V⟩)
theorem IK{Z:List BP}(hv:EE M v Z)(hb:Z.length<=1000000):BZ prog 46 #[v] [M] (fun r H'=>∃O,Bd 2 50 r Z.length (Du Z) O/\H'=[O,M]):=by
 have af:=mL;have B:=hv
 obtain ⟨p,cap,rfl,⟨hl,X⟩,W⟩:=id hv;replace B:=ed B;refine Se func46 ntmps46 [0] ?_;intro u R;refine A0<|A4 Y<|Zq<|A0<|Zm Y<|Zv (Dq GO Y Y)<|A5<|AU Y (fun J=>?_) (fun J=>?_);·
  have G:p=none:=by cases p with
   |none=>rfl
   |some x=>cases J
  have h0:Z=[]:=by
   cases Z with
   |nil=>rfl
   |cons x l=>obtain ⟨_,g,off,cur,T,zz,I,_⟩:=W 0 x rfl;rw [G]at I;cases I
  refine Zq<|BX<|Zg<|A4 Y<|AJ<|Zt<|AO rfl results46 Y (by exact ⟨[],by rw [h0];exact Bf 2 _,rfl⟩)
 refine AC<|Zx<|A0<|Ze (ER GO F1)<|AG fun U=>Zm Y<|Ze (Hm (by_:=32) (sz:=2) GO (V:Tryz.prog.info? 50=some Tryz.t50) V rfl V rfl Y (IZ 2 50 U 0 [] V AW) Y (B) (by exact Uj _) AW Wo Wo (by exact XQ _) A1 A1) ?_;rintro _ _ ⟨ax,m,rfl⟩;replace m:=BS m (DM _) (Ln _);refine A4 Y<|AJ<|AO V results46 Y (by exact ⟨_,m,V⟩)
variable{pg:B6}{cg:Nat}{lv:A3}
set_option maxHeartbeats 1000000 in
theorem vg(q:QM)(te base:Int)(hb:-1000000000000<=base/\base<=1000000000000)(hL:FW M (.slice pg L.length cg) L)(l5:L.length<=1000000)(hr:Ea q L=some r){l:List BP}(U:EE M lv l)(gm:∀x∈l,x.cs.length<=1000):BZ prog 56 #[.agg #[I4 q.kd,I4 q.tb,I4 q.cl,I4 q.lo,I4 q.hi,I4 q.bq,I4 q.ot,I4 te,I4 base,.slice pg L.length cg],lv] [M] (fun w H'=>(∃(z:Ri) (s3 s1 s2:List A9),K5 q base L l=some z.a/\z.ok (s3++(s1++(s2++M)))/\w= .tuple #[.agg z.A99,.bool true]/\H'=[s3,s1,s2,M])\/(K5 q base L l=none/\w= .tuple #[.agg #[I4 0,I4 0,I4 0,I4 0,I4 0,I4 0,I4 0,.slice none 0 0,I4 0,.bool false,I4 0,I4 0,I4 0,.slice none 0 0,.slice none 0 0],.bool false]/\H'=[M])):=by
 have o8:=mL;obtain ⟨hq,o9,j3⟩:=Lp hr;obtain ⟨pl,cl,rfl,l8,l9⟩:=id U;obtain ⟨Z,hZ,X⟩:=id hL;have W:Z.length=L.length:=by rw [<-X,B8]
 obtain ⟨pz,cz,ez,_,j5⟩:=id hZ;refine Se func56 ntmps56 [0,1] ?_;intro u R;refine A0<|Ze (Bx #[I4 q.kd,I4 q.tb,I4 q.cl,I4 q.lo,I4 q.hi,I4 q.bq,I4 q.ot,I4 te,I4 base,.slice pg L.length cg])<|AG fun be=>Ze (Al Ks #[_,_,_,_,_,_,_,_,_,_,_,_,_,_,_])<|AG fun bo=>A4 Y<|A0<|Zh 0 G4 V rfl CN Y<|Zo Wh (AA (cs:=#[_,_,_,_,_,_,_]) F2 CN Y B1 As) ?_;refine Zh 9 G4 V rfl MD Y<|Zl PC Y ?_;refine Zc [_,_] Y call69 Y V (XA hL q hr) ?_;rintro _ _ ⟨_,⟨p8,s0,rfl,h0,rfl⟩,rfl⟩;obtain ⟨p0,c0,rfl⟩:=h0.form;have ek:=DY h0 A1
 refine Zm Y<|Zd Y V<|Zd Y V<|Ze (Al Gk #[_,_,_])<|AG fun bs=>Xe (Xw B2 #[.slice p0 r.rows.length c0,I4 r.val,.bool r.fnd]) ?_;refine AN Y<|Zn [1,2,4,6,7] ?_;refine Zx<|Zq<|A0<|Zm Y<|Zv (Br Y)<|Zm Y<|Ae (t:=19) Y V (fun af=>by cases af)<|fun af=>Zf Y Y<|Yg (AY GO Y)<|Yg (DK (n:=64) Y Y)<|Zv (AL Y Y)<|A5<|Aq Y (fun ax=>?_) (fun ax=>?_);·
  refine A0<|Zv (BL (vs:=[]) (cs:=#[_,_,_,_,_,_,_,_,_,_,_,_,_,_,_]) Y (AZ (pl:=#[(0,7),(7,3),(10,1),(11,1),(12,1),(13,1),(14,1)]) Ks HF (fun _=>by kernel_rfl) rfl))<|Xe (BM Hx Y Y HT Wu (by exact Dx rfl) Fc AW (by exact BC _)) ?_;refine A4 Y<|AJ<|Zt<|Bj V results56 Y Wh (Am ZD Hx Wn (BK V)) Y (by exact .inr ⟨j6 A1,V,V⟩)
 refine AC<|Zx<|Zb [1,2,4,6] ?_;refine DL (e0:=[]) (H0:=[]) (fun e H=>∃(I:Nat) (G:B6) (B:Nat) (s1:List A9) (m:B6) (g:Nat) (s2:List A9),(Bd 9 146 (.slice G L.length B) Z.length (Z.flatMap Eh) s1/\Bd 2 50 (.slice m l.length g) l.length (Du l) s2)/\e=[(8,I5 I)]/\H=[[(I,.cells #[I4 q.kd,I4 q.tb,I4 q.cl,I4 q.lo,I4 q.hi,I4 q.bq,I4 q.ot,.slice none 0 0,I4 0,.bool false,I4 0,I4 (base+(l.length:Int)),I4 base,.slice G L.length B,.slice m l.length g] 56 (0,0))],s1,s2]) Wp ?hx_2 ?hy_2
 case hx_2=>
  refine Az (n:=17) (0::1::0::4::0::16::60::0::128::0::512::1536::0::7680::16383::0::65535::[]) 108544 AE AE V<|A2 0 V (AB (off:=0) G4 V rfl CN Y)<|Fk 1 V Wh (AA (cs:=#[_,_,_,_,_,_,_]) F2 CN Y B1 As) ?_;refine A2 2 V (AB (off:=8) G4 V rfl A6 Y)<|B9 3 V AF Y ?_;refine A2 4 V (AP Y)<|A2 5 V (AY GO Y) ?_
  (refine Dr (D':=127) 6 (Hg Y Y (IntWalk.i64_in _ ?_)) ?_;(focus (omega)))
  refine A2 7 V (AB (off:=8) G4 V rfl A6 Y)<|B9 8 V AF Y ?_;refine A2 9 V (AB (off:=9) G4 V rfl MD Y)<|B9 10 V PC Y ?_;refine A2 12 V (AP Y)<|Zz (l:=[11,15])<|B5 [false,true,true,true] [(8,(_,_)),(3,(_,_)),(1,(_,_))] V rfl (Zw [_] Y call111 Y V (Le hZ A1)) ?_ Bw ?_;·
   rintro _ _ ⟨_,⟨s1,J,rfl⟩,rfl⟩;refine ⟨Zk (Zk (Zk (Aa))),?_⟩;obtain ⟨G,B,e1⟩:=J.form;rw [W]at e1;subst e1;refine Zz (l:=[13,15])<|B5 [true,true,true] [(8,(_,_)),(3,(_,_)),(1,(_,_))] V rfl (Zw [_] Y call46 Y V (IK U A1)) ?_ Bw ?_;·
    rintro _ _ ⟨_,⟨s2,h2,rfl⟩,rfl⟩;refine ⟨Zk (Zk (Zk (Aa))),?_⟩;obtain ⟨m,g,rfl⟩:=h2.form;refine A2 14 V (BL (vs:=[(0,.agg q.A98),(3,I4 (base+(l.length:Int))),(4,I4 base),(5,.slice G L.length B),(6,.slice m l.length g)]) (cs:=#[I4 q.kd,I4 q.tb,I4 q.cl,I4 q.lo,I4 q.hi,I4 q.bq,I4 q.ot,.slice none 0 0,I4 0,.bool false,I4 0,I4 (base+(l.length:Int)),I4 base,.slice G L.length B,.slice m l.length g]) Y (AZ (pl:=#[(0,7),(7,3),(10,1),(11,1),(12,1),(13,1),(14,1)]) Ks HF (fun _=>by kernel_rfl) AE))<|Yz 15 0 65535 [8,3,1] [true,true,true] [(8,(_,_)),(3,(_,_)),(1,(_,_))] V Y V rfl V rfl (Al Ks #[_,_,_,_,_,_,_,_,_,_,_,_,_,_,_])<|AG fun I=>BT<|Yw 16 131071 V (Xw Hx #[I4 q.kd,I4 q.tb,I4 q.cl,I4 q.lo,I4 q.hi,I4 q.bq,I4 q.ot,.slice none 0 0,I4 0,.bool false,I4 0,I4 (base+(l.length:Int)),I4 base,.slice G L.length B,.slice m l.length g])<|D4<|Ag<|Zn [8,1,2,4,6] ?_;refine BN (e':=[(8,_)]) (by exact ⟨I,G,B,s1,m,g,s2,⟨J,h2⟩,V,V⟩)
   refine B5 [true,true,true] [(8,(_,_)),(3,(_,_)),(1,(_,_))] V rfl (Al Ks #[_,_,_,_,_,_,_,_,_,_,_,_,_,_,_]) ?_ (fun _ _ h=>h.elim) Ah;rintro _ _ ⟨I,rfl,rfl⟩;refine BT<|Zz (l:=[13])<|B5 [true,true,true] [(8,(_,_)),(3,(_,_)),(1,(_,_))] V rfl (Zw [_] Y call46 Y V (IK U A1)) ?_ Bw Ah;rintro _ _ ⟨_,⟨s2,h2,rfl⟩,rfl⟩;refine ⟨Zk (Zk (Zk (Aa))),?_⟩;obtain ⟨m,g,rfl⟩:=h2.form;refine A2 14 V (BL (vs:=[(0,.agg q.A98),(3,I4 (base+(l.length:Int))),(4,I4 base),(5,.slice G L.length B),(6,.slice m l.length g)]) (cs:=#[I4 q.kd,I4 q.tb,I4 q.cl,I4 q.lo,I4 q.hi,I4 q.bq,I4 q.ot,.slice none 0 0,I4 0,.bool false,I4 0,I4 (base+(l.length:Int)),I4 base,.slice G L.length B,.slice m l.length g]) Y (AZ (pl:=#[(0,7),(7,3),(10,1),(11,1),(12,1),(13,1),(14,1)]) Ks HF (fun _=>by kernel_rfl) AE))<|Yw 16 131071 V (Xw Hx #[I4 q.kd,I4 q.tb,I4 q.cl,I4 q.lo,I4 q.hi,I4 q.bq,I4 q.ot,.slice none 0 0,I4 0,.bool false,I4 0,I4 (base+(l.length:Int)),I4 base,.slice G L.length B,.slice m l.length g])<|D4<|Ag<|Zn [8,1,2,4,6] ?_;refine BN (e':=[(8,_)]) (by exact ⟨I,G,B,s1,m,g,s2,⟨J,h2⟩,V,V⟩)
  refine B5 [true,true,true,true] [(10,(_,_)),(8,(_,_)),(3,(_,_)),(1,(_,_))] V rfl (Al Ks #[_,_,_,_,_,_,_,_,_,_,_,_,_,_,_]) ?_ (fun _ _ h=>h.elim) Ah;rintro _ _ ⟨I,rfl,rfl⟩;refine BT<|Zz (l:=[11])<|B5 [false,true,true,true] [(8,(_,_)),(3,(_,_)),(1,(_,_))] V rfl (Zw [_] Y call111 Y V (Le hZ A1)) ?_ Bw Ah;rintro _ _ ⟨_,⟨s1,J,rfl⟩,rfl⟩;refine ⟨Zk (Zk (Zk (Aa))),?_⟩;obtain ⟨G,B,e1⟩:=J.form;rw [W]at e1;subst e1;refine Zz (l:=[13])<|B5 [true,true,true] [(8,(_,_)),(3,(_,_)),(1,(_,_))] V rfl (Zw [_] Y call46 Y V (IK U A1)) ?_ Bw Ah;rintro _ _ ⟨_,⟨s2,h2,rfl⟩,rfl⟩;refine ⟨Zk (Zk (Zk (Aa))),?_⟩;obtain ⟨m,g,rfl⟩:=h2.form;refine A2 14 V (BL (vs:=[(0,.agg q.A98),(3,I4 (base+(l.length:Int))),(4,I4 base),(5,.slice G L.length B),(6,.slice m l.length g)]) (cs:=#[I4 q.kd,I4 q.tb,I4 q.cl,I4 q.lo,I4 q.hi,I4 q.bq,I4 q.ot,.slice none 0 0,I4 0,.bool false,I4 0,I4 (base+(l.length:Int)),I4 base,.slice G L.length B,.slice m l.length g]) Y (AZ (pl:=#[(0,7),(7,3),(10,1),(11,1),(12,1),(13,1),(14,1)]) Ks HF (fun _=>by kernel_rfl) AE))<|Yw 16 131071 V (Xw Hx #[I4 q.kd,I4 q.tb,I4 q.cl,I4 q.lo,I4 q.hi,I4 q.bq,I4 q.ot,.slice none 0 0,I4 0,.bool false,I4 0,I4 (base+(l.length:Int)),I4 base,.slice G L.length B,.slice m l.length g])<|D4<|Ag<|Zn [8,1,2,4,6] ?_;refine BN (e':=[(8,_)]) (by exact ⟨I,G,B,s1,m,g,s2,⟨J,h2⟩,V,V⟩)
 rintro _ _ ⟨I,G,B,s1,m,g,s2,⟨J,h2⟩,rfl,rfl⟩;refine Zq<|A0<|Zh 0 G4 V rfl CN Y<|Zo Wh (AA (cs:=#[_,_,_,_,_,_,_]) F2 CN Y B1 As) ?_;refine Zo Wh (AA (cs:=#[_,_,_]) C6 B2 Y B1 As) ?_;refine Zh 8 G4 V rfl A6 Y<|Zl AF Y ?_;refine Zm Y<|Zc [_,_,_,_] Y call70 Y V (Qw q hq base A1 U A1 gm ek A1 j3) ?_;rintro _ _ ⟨_,⟨p9,s3,rfl,h3,rfl⟩,rfl⟩;obtain ⟨g3,c3,rfl⟩:=h3.form;refine Zm Y<|Zd Y rfl<|Zd Y rfl<|Zd Y rfl<|Zh 7 HF rfl rfl B2 Y<|Xe (BM B2 Y Y HT Wu (by exact (rfl:_=(#[I4 q.kd,I4 q.tb,I4 q.cl,I4 q.lo,I4 q.hi,I4 q.bq,I4 q.ot,.slice g3 (BD q r base l).1.rows.length c3,I4 (BD q r base l).1.val,.bool (BD q r base l).1.fnd,I4 0,I4 (base+(l.length:Int)),I4 base,.slice G L.length B,.slice m l.length g]:AH))) Fc B1 (by exact BC _)) ?_;refine Zh 10 HF V rfl A6 Y<|Xe (Zs A6 Y Y V (hc:=by exact (V:_=(#[I4 q.kd,I4 q.tb,I4 q.cl,I4 q.lo,I4 q.hi,I4 q.bq,I4 q.ot,.slice g3 (BD q r base l).1.rows.length c3,I4 (BD q r base l).1.val,.bool (BD q r base l).1.fnd,I4 (BD q r base l).2.1,I4 (base+(l.length:Int)),I4 base,.slice G L.length B,.slice m l.length g]:AH))) (hi:=by(simp;done))) ?_;refine AN Y<|Zn [4,7,8] ?_;refine Zx<|A0<|Zm Y<|Zv (Br Y)<|A5<|AU Y (fun O=>?_) (fun O=>?_);·
  have gy:(BD q r base l).2.2=false:=by simpa using O
  refine A0<|Zv (BL (vs:=[]) (cs:=#[_,_,_,_,_,_,_,_,_,_,_,_,_,_,_]) Y (AZ (pl:=#[(0,7),(7,3),(10,1),(11,1),(12,1),(13,1),(14,1)]) Ks HF (fun _=>by kernel_rfl) rfl))<|Xe (BM Hx Y Y HT Wu (by exact Dx rfl) Fc AW (by exact BC _)) ?_;refine A4 Y<|AJ<|Zt<|Bj rfl results56 Y Wh (Am ZD Hx Wn (BK rfl)) Y (by exact .inr ⟨by rw [Ql hr A1,Z5 gy];rfl,rfl,rfl⟩)
 have cu:(BD q r base l).2.2=true:=by simpa using O
 refine AC<|Zx<|Zq ?_;have cO:∀z∈Z,z.ok M:=fun z hz=>by obtain ⟨i,hi⟩:=HE hz;exact (j5 i z hi).1
 have bn:∀x∈l,Cf M (.slice x.q x.cs.length x.cap) x.cs:=fun x hx=>by obtain ⟨i,hi⟩:=HE hx;obtain ⟨_,_,_,_,gq⟩:=U;exact (gq i x hi).1
 have ic:=M0 cu;have kv:=Ew h3
 have d9:=Mj h3;refine Zg<|Zo Wh (AA (cs:=#[_,_,_,_,_,_,_,_,_,_,_,_,_,_,_]) ZD Hx Y B1 As) ?_;refine Xe (BM Hx Y Y HT Wu (by exact Dx rfl) Fc AW (by exact BC _)) ?_;refine A4 Y<|AJ<|Bj rfl results56 Y Wh (Am ZD Hx Wn (BK rfl)) Y (by exact .inl ⟨⟨⟨q,(BD q r base l).1,(BD q r base l).2.1,base+(l.length:Int),base,L,l⟩,g3,c3,G,B,m,g⟩,s3,s1,s2,by rw [Ql hr A1,ic];rfl,⟨(DY h3 d9).mono (fun c hc=>E7 _ hc),⟨Z,(Wv J A1 cO).mono (fun c hc=>by rcases Bm.1 hc with h9|h9;exact GB _ (E7 _ h9);exact GB _ (GB _ (GB _ h9))),X⟩,M3 (KI h2 (by show l.length<=maxLen;omega) bn) (fun c hc=>GB _ (GB _ hc))⟩,rfl,rfl⟩)
theorem zA(q:QM)(te base:Int)(G:-1000000000000<=base/\base<=1000000000000)(B:FW M (.slice pg L.length cg) L)(g:L.length<=1000000)(J:Ea q L=some r){l:List BP}(I:EE M lv l)(m:∀x∈l,x.cs.length<=1000):BZ prog 56 #[.agg #[I4 q.kd,I4 q.tb,I4 q.cl,I4 q.lo,I4 q.hi,I4 q.bq,I4 q.ot,I4 te,I4 base,.slice pg L.length cg],lv] [M] (fun w H'=>∃(z:Ri) (s:List A9) (b:Bool),((b=true/\K5 q base L l=some z.a/\z.ok (s++M))\/(b=false/\K5 q base L l=none))/\w= .tuple #[.agg z.A99,.bool b]/\H'=[s,M]):=by
 refine H6 (vg q te base G B g J I m) V ?_;rintro w H' (⟨z,s3,s1,s2,h1,h2,rfl,rfl⟩|⟨h1,rfl,rfl⟩);· exact ⟨_,⟨z,s3++(s1++s2),true,.inl ⟨rfl,h1,by simpa only [D3]using h2⟩,rfl,rfl⟩,by simp⟩
 · exact ⟨_,⟨⟨⟨⟨0,0,0,0,0,0,0⟩,CB.none,0,0,0,[],[]⟩,none,0,none,0,none,0⟩,[],false,.inr ⟨rfl,h1⟩,rfl,rfl⟩,by simp⟩
def fl1(c:Chg):Int:=if c.had then 1 else 0
def vs1(c:Chg):List Int:=if c.had then [c.o.a,c.o.b,c.o.c]else []
def fl2(c:Chg):Int:=if c.has then fl1 c+2 else fl1 c
def vs2(c:Chg):List Int:=if c.has then vs1 c++[c.n.a,c.n.b,c.n.c]else vs1 c
def zH(c:Chg):List UInt8:=Hz [c.t,c.k,fl2 c]++Hz (vs2 c)
def ue(p:Int)(cs:List Chg):List UInt8:=Hz [p,(cs.length:Int)]++cs.flatMap zH
variable{cs:List Chg}
theorem EM.mem{p:Int}(h:EM p cs):∀c∈cs,c.ok:=fun c hc=>by
 obtain ⟨i,hi⟩:=HE hc;exact h.all i c hi
theorem Mk{g:Nat}{cur:AH}{z:Nat×Nat}(h:Bd sz e (I6 g n cap) n xs [(g,.cells cur e z)]){j:Nat}{u:A3}(G:xs[j]?=some u):cur[j]?=some u:=by
 obtain ⟨W,⟨m,_⟩|⟨O,I,J,X,m,h2,_,_,_,B,_⟩⟩:=h;· cases m
 · injection m with m _ h3
   injection h2 with h2 _
   injection h2 with h4 h5
   injection h5 with h5 _ _
   subst h5;have U:=(C4.1 G).1
   rw [<-B,HJ,Ax A1]at G;simpa using G
theorem ja(h:Bd sz e (.slice p n cap) n xs s)(h0:0<n):∃g cur z,p=some ⟨g,0,none⟩/\s=[(g,.cells cur e z)]/\Ik z cur.size/\cur.size=cap*sz/\n<=cap/\cap<=maxLen:=by
 obtain ⟨U,⟨m,h2,_⟩|⟨g,B,cur,z,m,rfl,h2,G,I,O,J⟩⟩:=h;· omega
 · injection m with m _ h7
   subst h7;exact ⟨g,cur,z,m,V,J,I,h2,G⟩
theorem il(h:Cf M (.slice p n cap) cs):FP M p (Cj cs):=by
 obtain ⟨B,g,e,_,m⟩:=h;injection e with e1 e2 e3
 subst e1;exact O7 _ 10 (fun _=>rfl) AW fun i z hz=>m i z hz
theorem dZ{ls:List Bs}(h:EL M (.slice p n cap) ls):FP M p (ls.map GJ):=by
 obtain ⟨G,m,e,_,B⟩:=h;injection e with e1 e2 e3
 subst e1;intro j u g;rw [E0]at g;cases hs:ls[j]?with
 |none=>rw [hs]at g;cases g
 |some s=>rw [hs]at g;injection g with g;subst g;exact B j s hs
theorem qO(ls:List Bs):∀u∈ls.map GJ,u.oneCell'=true:=by
 intro u g;obtain ⟨z,_,rfl⟩:=C3.1 g;rfl
variable{ps:List (List Bs)}
theorem fJ(h:Ir M (.slice p n cap) ps):∃m,K6 M m ps/\FP M p m/\∀u∈m,u.oneCell'=true:=by
 obtain ⟨p',af,e,_,hg⟩:=h;injection e with e1 e2 e3
 subst e1;have key:∀k,k<=ps.length->∃m:List A3,m.length=k/\∀(i:Nat) (l:List Bs),i<k->ps[i]?=some l->∃q c,m[i]?=some (.slice q l.length c)/\EL M (.slice q l.length c) l/\∃g off cur T zz,p=some ⟨g,off,none⟩/\(g,Obj.cells cur T zz)∈M/\cur[off+i]?=some (.slice q l.length c):=by
  intro k;induction k with
  |zero=>intro _;exact ⟨[],rfl,fun i l h=>absurd h (cX i)⟩
  |succ k ih=>
   intro hk;obtain ⟨m,U,h2⟩:=ih A1;obtain ⟨l,G⟩:∃l,ps[k]?=some l:=⟨_,B7 A1⟩;obtain ⟨q,c,I,X⟩:=hg k l G;refine ⟨m++[.slice q l.length c],by rw [BW,U];rfl,fun i l' hi B=>?_⟩;rcases E4 i k with W|W
   · obtain ⟨q',c',Z,h7⟩:=h2 i l' W B
     exact ⟨q',c',by rw [cP A1];exact Z,h7⟩
   · obtain rfl:i=k:=by omega
     rw [G]at B;injection B with B;subst B
     exact ⟨q,c,by rw [T0 A1,U];simp,I,X⟩
 obtain ⟨m,U,h2⟩:=key ps.length (D2 _);refine ⟨m,⟨U,fun i v l hv G=>?_⟩,fun j u J=>?_,fun u J=>?_⟩
 · obtain ⟨q,c,I,X,_⟩:=h2 i l (C4.1 G).1 G
   rw [I]at hv;injection hv with hv;subst hv;exact X
 · have O:=(C4.1 J).1
   obtain ⟨l,G⟩:∃l,ps[j]?=some l:=⟨_,B7 A1⟩;obtain ⟨q,c,I,_,g,off,cur,T,zz,W,Z,h7⟩:=h2 j l A1 G;rw [I]at J;injection J with J;subst J
   exact ⟨g,off,cur,T,zz,W,Z,h7⟩
 · obtain ⟨j,O⟩:=HE J
   have ax:=(C4.1 O).1;obtain ⟨l,G⟩:∃l,ps[j]?=some l:=⟨_,B7 A1⟩;obtain ⟨q,c,I,_⟩:=h2 j l A1 G;rw [I]at O;injection O with O;subst O;rfl
def RP.fits(x:RP):Prop:=x.rows.length<=1000000/\x.paths.length<=1000000/\x.roots.length<=1000000/\∀l∈x.paths,l.length<=1000000
theorem Ww(Z:List RPZ):(Z.flatMap Eh).length=Z.length*9:=by
 induction Z with
 |nil=>rfl
 |cons a l ih=>rw [HW,BW,ih];show 9+_=_;rw [Dd];omega
variable{i:Nat}
theorem dJ{A B:List RPZ}{z:RPZ}(g:A.length=i)(k:Nat)(m:k<9):((A++z::B).flatMap Eh)[i*9+k]?=(Eh z)[k]?:=by
 rw [Pu,HW,T0 (by rw [Ww];omega),Ww,g,show i*9+k -i*9=k by omega,cP m]
theorem sX{A B:List RPZ}{z:RPZ}(G:A.length=i)(a b c:B6)(g m c':Nat):
 ((((A++z::B).flatMap Eh).set (i*9+6) (.slice a z.x.rows.length g)).set (i*9+8) (.slice b z.x.roots.length m)).set (i*9+7) (.slice c z.x.paths.length c')=(A++[(⟨z.x,a,g,c,c',b,m⟩:RPZ)]++B).flatMap Eh:=by
 have e:∀(l:List A3) (k:Nat) (v:A3),(A.flatMap Eh++l).set (i*9+k) v=A.flatMap Eh++l.set k v:=fun l k v=>by
  rw [mB _ _ (by rw [Ww];omega),Ww,G,show i*9+k -i*9=k by omega]
 rw [D3,Pu,Pu,HW,e,e,e];rfl
theorem Uz(hv:Cf M v cs)(hb:cs.length<=1000000):BZ prog 98 #[v] [M] (fun r H'=>∃O,Bd 10 64 r cs.length (Cj cs) O/\H'=[O,M]):=by
 have X:=mL;have B:=hv
 obtain ⟨p,cap,rfl,hl,W⟩:=id hv;replace B:=il B;refine Se func98 ntmps98 [0] ?_;intro u R;refine A0<|A4 Y<|Zq<|A0<|Zm Y<|Zv (Dq GF Y Y)<|A5<|AU Y (fun J=>?_) (fun J=>?_);·
  have G:p=none:=by cases p with
   |none=>rfl
   |some x=>cases J
  have h0:cs=[]:=by
   cases cs with
   |nil=>rfl
   |cons x l=>obtain ⟨g,off,cur,T,zz,I,_⟩:=W 0 x rfl;rw [G]at I;cases I
  refine Zq<|BX<|Zg<|A4 Y<|AJ<|Zt<|AO rfl results98 Y (by exact ⟨[],by rw [h0];exact Bf 10 _,rfl⟩)
 refine AC<|Zx<|A0<|Ze (ER GF C7)<|AG fun U=>Zm Y<|Ze (Hm (by_:=80) (sz:=10) GF (V:Tryz.prog.info? 64=some Tryz.t64) V rfl V rfl Y (IZ 10 64 U 0 [] V AW) Y (B) (by exact G9 _) AW Wo Wo (by exact Pj _) A1 A1) ?_;rintro _ _ ⟨Z,m,rfl⟩;replace m:=BS m (DM _) (Ln _);refine A4 Y<|AJ<|AO V results98 Y (by exact ⟨_,m,V⟩)
theorem NQ{ls:List Bs}(hv:EL M v ls)(hb:ls.length<=1000000):BZ prog 127 #[v] [M] (fun r H'=>∃O,Bd 1 9 r ls.length (ls.map GJ) O/\H'=[O,M]):=by
 have X:=mL;have B:=hv
 obtain ⟨p,cap,rfl,hl,W⟩:=id hv;replace B:=dZ B;refine Se func127 ntmps127 [0] ?_;intro u R;refine A0<|A4 Y<|Zq<|A0<|Zm Y<|Zv (Dq DA Y Y)<|A5<|AU Y (fun J=>?_) (fun J=>?_);·
  have G:p=none:=by cases p with
   |none=>rfl
   |some x=>cases J
  have h0:ls=[]:=by
   cases ls with
   |nil=>rfl
   |cons x l=>obtain ⟨g,off,cur,T,zz,I,_⟩:=W 0 x rfl;rw [G]at I;cases I
  refine Zq<|BX<|Zg<|A4 Y<|AJ<|Zt<|AO rfl results127 Y (by exact ⟨[],by rw [h0];exact Bf 1 _,rfl⟩)
 refine AC<|Zx<|A0<|Ze (ER DA Fo)<|AG fun U=>Zm Y<|Ze (Hm (by_:=16) (sz:=1) DA (V:Tryz.prog.info? 9=some Tryz.t9) V rfl V rfl Y (IZ 1 9 U 0 [] V AW) Y (B) (by(rw [B8,Mz])) AW Wo Wo (by exact qO _) A1 A1) ?_;rintro _ _ ⟨Z,m,rfl⟩;replace m:=BS m (DM _) (Ln _);refine A4 Y<|AJ<|AO V results127 Y (by exact ⟨_,m,V⟩)
theorem TI(hv:Ir M v ps)(hb:ps.length<=1000000):BZ prog 128 #[v] [M] (fun r H'=>∃Z B,K6 M B ps/\Bd 1 45 r ps.length B Z/\H'=[Z,M]):=by
 have ax:=mL;have G:=hv
 obtain ⟨p,cap,rfl,⟨hl,af⟩,hg⟩:=id hv;obtain ⟨B,J,G,I⟩:=fJ G;have U:=J.1
 refine Se func128 ntmps128 [0] ?_;intro u R;refine A0<|A4 Y<|Zq<|A0<|Zm Y<|Zv (Dq It Y Y)<|A5<|AU Y (fun X=>?_) (fun X=>?_);·
  have O:p=none:=by cases p with
   |none=>rfl
   |some x=>cases X
  have h0:ps=[]:=by
   cases ps with
   |nil=>rfl
   |cons x l=>obtain ⟨_,_,_,g,off,cur,T,zz,W,_⟩:=hg 0 x rfl;rw [O]at W;cases W
  refine Zq<|BX<|Zg<|A4 Y<|AJ<|Zt<|AO rfl results128 Y (by exact ⟨[],[],by rw [h0];exact QO _,by rw [h0];exact Bf 1 _,rfl⟩)
 refine AC<|Zx<|A0<|Ze (ER It HI)<|AG fun g1=>Zm Y<|Ze (Hm (by_:=24) (sz:=1) It (V:Tryz.prog.info? 45=some Tryz.t45) V rfl V rfl Y (IZ 1 45 g1 0 [] V AW) Y (G) (by(rw [Mz];exact U)) AW Wo Wo I A1 A1) ?_;rintro _ _ ⟨bn,m,rfl⟩;replace m:=BS m (DM _) (Ln _);refine A4 Y<|AJ<|AO V results128 Y (by exact ⟨_,B,J,m,V⟩)
theorem fK{I:List A9}{m:List A3}{k:Nat}{U:A3}{O:List Bs}(h:∀(j:Nat) (v:A3) (l:List Bs),m[j]?=some v->ps[j]?=some l->if j<k then EL I v l else EL M v l)(Z:m.length=ps.length)(hk:k<ps.length)(X:ps[k]?=some O)(W:EL s U O):
 ∀(j:Nat) (v:A3) (l:List Bs),(m.set k U)[j]?=some v->ps[j]?=some l->if j<k+1 then EL (s++I) v l else EL M v l:=by
 intro j v l hv g;rw [Th]at hv;by_cases J:k=j
 · subst J
   rw [Ax rfl,Ax A1]at hv;injection hv with hv
   rw [X]at g;injection g with g
   subst hv g;rw [Ax A1];exact W.mono fun c hc=>E7 _ hc
 · rw [An J]at hv
   have G:=h j v l hv g;by_cases B:j<k
   · rw [Ax B]at G
     rw [Ax A1];exact G.mono fun c hc=>GB _ hc
   · rw [An B]at G
     rw [An A1];exact G
theorem oQ{α:Type}{l:List α}{x:α}(h:l[i]?=some x):l.drop i=x::l.drop (i+1):=by
 obtain ⟨g,h2⟩:=C4.1 h;rw [S8 g,h2]
theorem R7(p:Int)(hv:Cf M v cs)(I:cs.length<=1000000):BZ prog 45 #[.agg #[I4 p,v]] [M] (fun r H'=>∃q cap s,r= .agg #[I4 p,.slice q cs.length cap]/\Cf s (.slice q cs.length cap) cs/\H'=[s,M]):=by
 have O:=mL;obtain ⟨U,g,rfl,J,_⟩:=id hv;refine Se func45 ntmps45 [0] ?_;intro u R;refine A0<|Ze (Bx #[I4 p,.slice U cs.length g])<|AG fun X=>Ze (Al S2 #[_,_])<|AG fun W=>A5<|A0<|Zh 1 Ge V rfl Lq Y<|Zl N4 Y ?_;refine Zc [_] Y call98 Y V (Uz hv I) ?_;rintro _ _ ⟨_,⟨s1,G,rfl⟩,rfl⟩;obtain ⟨B,m,rfl⟩:=G.form;refine Zh 1 Ge V rfl Lq Y<|Xe (Zs Lq Y Y V (hi:=by(simp;done))) ?_;refine A5<|A0<|Zo Wh (AA (cs:=#[I4 p,.slice B cs.length m]) HP F1 Y B1 (by exact BK V)) ?_;refine Xe (BM F1 Y Y HT Wu (by exact Dx rfl) Fc AW (by exact BC _)) ?_;refine A5<|AJ<|Cs V results45 Y Wh (Am HP F1 Wn (BK V)) (by exact ⟨B,m,s1,V,Qk G A1,V⟩)
set_option maxHeartbeats 1000000 in
theorem R8(q:QM)(te base:Int)(hL:FW M (.slice pg L.length cg) L)(wo:L.length<=1000000)(l5:∀x∈L,x.fits):BZ prog 71 #[.agg #[I4 q.kd,I4 q.tb,I4 q.cl,I4 q.lo,I4 q.hi,I4 q.bq,I4 q.ot,I4 te,I4 base,.slice pg L.length cg]] [M] (fun r H'=>∃pz cz s,r= .agg #[I4 q.kd,I4 q.tb,I4 q.cl,I4 q.lo,I4 q.hi,I4 q.bq,I4 q.ot,I4 te,I4 base,.slice pz L.length cz]/\FW s (.slice pz L.length cz) L/\H'=[s,M]):=by
 have zf:=mL;obtain ⟨Z,hZ,d9⟩:=id hL;have kv:Z.length=L.length:=by rw [<-d9,B8]
 obtain ⟨p9,vw,e9,_,sw⟩:=id hZ;injection e9 with e91 e92 e93
 subst e91 e93;have q9:∀(i:Nat) (z:RPZ),Z[i]?=some z->z.ok M/\z.x.fits:=fun i z hz=>⟨(sw i z hz).1,l5 _ (by rw [<-d9];exact DS (Dg hz))⟩
 refine Se func71 ntmps71 [0] ?_;intro u R;refine A0<|Ze (Bx #[I4 q.kd,I4 q.tb,I4 q.cl,I4 q.lo,I4 q.hi,I4 q.bq,I4 q.ot,I4 te,I4 base,.slice pg L.length cg])<|AG fun be=>Ze (EZ cD (cs:=#[I4 0,I4 0,I4 0,I4 0,I4 0,I4 0,I4 0,I4 0,I4 0,.slice none 0 0]) AE)<|AG fun bo=>A5<|A0<|Zh 9 G4 V rfl MD Y<|Zl PC Y ?_;refine Zc [_] Y call111 Y V (Le hZ A1) ?_;rintro _ _ ⟨_,⟨s1,h1,rfl⟩,rfl⟩;obtain ⟨pz,cz,rfl⟩:=h1.form;refine Zh 9 G4 V rfl MD Y<|Xe (Zs MD Y Y V (hi:=by(simp;done))) ?_;refine A5<|Zq<|Zq<|BX<|Zg<|Zh 9 G4 V rfl MD Y<|Zl PC Y ?_;refine Zv (AY O2 Y)<|Zm Y<|A5<|AQ<|Zb [13,1,2,12] ?_;refine BA (e0:=[(13,_)]) (fun m e H=>∃(i:Nat) (X:List RPZ) (sz MM:List A9),m=Z.length -i/\((i<=Z.length/\X.length=i)/\Bd 9 146 (.slice pz Z.length cz) Z.length ((X++Z.drop i).flatMap Eh) sz/\(∀z∈X,z.ok MM)/\X.map RPZ.x=(Z.take i).map RPZ.x)/\e=[(13,I4 (i:Int))]/\H=[sz,MM]) (by exact ⟨0,[],s1,[],V,⟨⟨C5 _,V⟩,h1,fun z hz=>absurd hz B4,V⟩,V,V⟩) Wp ?_;rintro _ _ _ ⟨i,X,sz,MM,rfl,⟨⟨hi,O⟩,G,ax,gq⟩,rfl,rfl⟩;refine Zq<|BX<|Zg<|Zv (Au Y Y)<|A5<|Zq<|Aq Y (fun sj=>?_) (fun sj=>?_);·
  obtain ⟨z,hz⟩:∃z,Z[i]?=some z:=⟨_,B7 A1⟩;obtain ⟨⟨sM,sJ,sO⟩,y5,qa,qb,qj⟩:=q9 i z hz;rw [oQ hz]at G;obtain ⟨g,cur,zz,rfl,rfl,ek,x9,yt,wz⟩:=ja G A1;have y9:i*9+9<=cur.size:=by omega
  have qo:=Mk G (dJ (B:=Z.drop (i+1)) O 6 AW);have qw:=Mk G (dJ (B:=Z.drop (i+1)) O 7 AW)
  have qx:=Mk G (dJ (B:=Z.drop (i+1)) O 8 AW);refine AC<|Zx<|Zq<|AQ<|Zq<|BX<|Zg<|Zm Y<|A4 Y<|A0<|Zh 9 G4 V rfl MD Y<|Zl PC Y ?_;refine Zm Y<|BV (Ad O2 HN Y Y A1)<|A4 Y<|Zq<|Az (n:=27) (0::0::0::0::8::24::56::120::0::256::768::1792::4088::0::8192::24576::57344::131064::262137::524281::1048569::2097147::4194299::8388603::16777215::33554431::67108863::[]) 76681344 AE AE rfl<|A2 0 rfl (AP Y)<|A2 1 rfl (AP Y)<|A2 2 rfl (AP Y)<|A2 3 rfl (AP Y)<|A2 4 rfl (Ap Y rfl)<|A2 5 rfl (Ar (off:=6) Cl rfl rfl CI Y)<|B9 6 rfl Fm Y (hv:=by exact (by rw [DM];exact qo)) ?_;refine A2 8 rfl (AP Y)<|A2 9 rfl (Ap Y rfl)<|A2 10 rfl (Ar (off:=8) Cl rfl rfl HI Y)<|B9 11 rfl I3 Y (hv:=by exact (by rw [DM];exact qx)) ?_;refine A2 13 rfl (AP Y)<|A2 14 rfl (Ap Y rfl)<|A2 15 rfl (Ar (off:=7) Cl rfl rfl JT Y)<|B9 16 rfl cH Y (hv:=by exact (by rw [DM];exact qw)) ?_;refine Zz (l:=[7])<|B5 [true,true,false] [(16,(_,_)),(11,(_,_))] V rfl (Zw [_] Y call99 Y V (Gp sM A1)) ?_ Bw Ah;rintro _ _ ⟨_,⟨sr,o9,rfl⟩,rfl⟩;refine ⟨Zk (Zk (Aa)),?_⟩;obtain ⟨qr,cr,rfl⟩:=o9.form;refine Zz (l:=[12])<|B5 [true,false] [(16,(_,_))] V rfl (Zw [_] Y call127 Y V (NQ sO qb)) ?_ Bw Ah;rintro _ _ ⟨_,⟨st,p8,rfl⟩,rfl⟩;refine ⟨Zk (Aa),?_⟩;obtain ⟨qt,ct,rfl⟩:=p8.form;refine Zz (l:=[17])<|B5 [false] [] V rfl (Zw [_] Y call128 Y V (TI sJ qa)) ?_ Bw Ah;rintro _ _ ⟨_,⟨vo,ve,bn,cu,rfl⟩,rfl⟩;refine ⟨Aa,?_⟩;obtain ⟨qp,cp,rfl⟩:=cu.form;refine A2 18 V (Ap Y V)<|A2 19 V (Ar (off:=6) Cl V rfl CI Y)<|Zz (l:=[20])<|B5 [] [] V rfl (Zs CI Y Y V (hi:=by omega) (hz:=by exact ek)) ?_ (fun _ _ h=>h.elim) Ah;rintro _ _ ⟨rfl,rfl⟩;refine BT<|A2 21 V (Ap Y V)<|A2 22 V (Ar (off:=8) Cl V rfl HI Y)<|Zz (l:=[23])<|B5 [] [] V rfl (Zs HI Y Y V (hi:=by(simp;omega)) (hz:=by(simp only [T5];exact ek))) ?_ (fun _ _ h=>h.elim) Ah;rintro _ _ ⟨rfl,rfl⟩
  refine BT<|A2 24 V (Ap Y V)<|A2 25 V (Ar (off:=7) Cl V rfl JT Y)<|Zz (l:=[26])<|B5 [] [] V rfl (Zs JT Y Y V (hi:=by(simp;omega)) (hz:=by(simp only [T5];exact ek))) ?_ (fun _ _ h=>h.elim) Ah;rintro _ _ ⟨rfl,rfl⟩;refine BT<|Ag<|Zn [1,2,4,12,13] ?_;refine Zx<|Zq ?_;have h7:(((cur.setIfInBounds (0+i*9+6) (.slice qr z.x.rows.length cr)).setIfInBounds (0+i*9+8) (.slice qt z.x.roots.length ct)).setIfInBounds (0+i*9+7) (.slice qp z.x.paths.length cp))[0+i*9+7]?=some (.slice qp z.x.paths.length cp):=by
   rw [iv,Ax rfl,Ax (by simp only [T5];omega)]
  obtain ⟨j3,I⟩:∃c,c=(((cur.setIfInBounds (0+i*9+6) (.slice qr z.x.rows.length cr)).setIfInBounds (0+i*9+8) (.slice qt z.x.roots.length ct)).setIfInBounds (0+i*9+7) (.slice qp z.x.paths.length cp)):=⟨_,rfl⟩;rw [<-I]at h7⊢;refine Zg<|Zm Y<|Zp Y V<|Zv (Ar (off:=7) Cl V rfl JT Y)<|Zl cH Y (hv:=by exact h7) ?_;refine Zv (AY It Y)<|Zm Y<|A5<|AQ<|BX<|Zb [49,1,2,4,12,13,48] ?_;refine BA (e0:=[(49,_)]) (fun m e H=>∃(k:Nat) (U:List A3) (sp W:List A9),m=z.x.paths.length -k/\((k<=z.x.paths.length/\U.length=z.x.paths.length)/\Bd 1 45 (.slice qp z.x.paths.length cp) z.x.paths.length U sp/\(∀(j:Nat) (v:A3) (l:List Bs),U[j]?=some v->z.x.paths[j]?=some l->if j<k then EL W v l else EL M v l))/\e=[(49,I4 (k:Int))]/\H=[sp,W]) (by exact ⟨0,ve,vo,[],rfl,⟨⟨C5 _,bn.1⟩,cu,fun j v l hv hl=>by rw [An (cX j)];exact bn.2 j v l hv hl⟩,rfl,rfl⟩) Wp ?_;rintro _ _ _ ⟨k,U,sp,W,rfl,⟨⟨hk,gy⟩,af,ic⟩,rfl,rfl⟩;refine A0<|Zv (Au Y Y)<|A5<|Zq<|Aq Y (fun gm=>?_) (fun gm=>?_);·
   obtain ⟨l,hl⟩:∃l,z.x.paths[k]?=some l:=⟨_,B7 gm⟩;have r9:=qj l (Dg hl)
   obtain ⟨v0,pq⟩:∃v,U[k]?=some v:=⟨_,B7 A1⟩;obtain ⟨gp,j5,zp,rfl,rfl,l8,w9,wh,vz⟩:=ja af A1;have qz:=Mk af pq
   have cO:=ic k v0 l pq hl;rw [An (Nat.lt_irrefl k)]at cO;refine AC<|Zx<|Zq<|AQ<|A0<|Zm Y<|A4 Y<|Az (n:=15) (0::1::3::7::0::0::32::96::224::0::992::2016::4064::8191::16383::[]) 20480 AE AE V<|A2 0 V (AP Y)<|A2 1 V (Ap Y V)<|A2 2 V (Ar (off:=7) Cl V rfl JT Y)<|B9 3 V cH Y (hv:=by exact h7) ?_;refine A2 4 V (AP Y)<|A2 5 V (AP Y)<|A2 6 V (Ap Y V)<|A2 7 V (Ar (off:=7) Cl V rfl JT Y)<|B9 8 V cH Y (hv:=by exact h7) ?_;refine A2 9 rfl (AP Y)<|A2 10 rfl (BU It HI Y Y (by first|omega|(simp;omega)))<|B9 11 rfl I3 Y (hv:=by exact (by exact qz)) ?_;refine Zz (l:=[12])<|B5 [false,false,true] [(3,(_,_))] V rfl (Zw [_] Y call127 Y V (NQ cO r9)) ?_ Bw Ah;rintro _ _ ⟨_,⟨sl,o8,rfl⟩,rfl⟩;refine ⟨Zk (Aa),?_⟩;obtain ⟨ql,cl,rfl⟩:=o8.form;refine A2 13 rfl (BU It HI Y Y (by first|omega|(simp;omega)))<|Yw 14 32767 rfl (Zs HI Y Y rfl (hi:=by omega) (hz:=by exact l8))<|D4<|Ag<|Zn [1,2,4,12,13,48,49] ?_;refine A8<|Zx<|CP (s1:=sl) (s2:=W) Wo Wo ?_;refine Zg<|Ya (n:=1) Y Y<|Zm Y<|Z0<|Zn [49,1,2,4,12,13,48] ?_;refine Ab (e':=[(49,_)]) (by exact ⟨k+1,U.set k (.slice ql l.length cl),[(gp,.cells (j5.setIfInBounds k (.slice ql l.length cl)) 45 zp)],sl++W,rfl,⟨⟨by omega,by rw [eI];exact gy⟩,Ow af k _,fK ic gy gm hl (Gj o8 A1)⟩,rfl,rfl⟩)
  obtain rfl:k=z.x.paths.length:=by omega
  refine Ay<|Zt<|Zt<|AR<|A8<|Zx<|CP (s1:=W) (s2:=st) Wo Wo ?_;refine CP (s1:=sp) (s2:=(W++st)) Wo Wo ?_;refine CP (s1:=sr) (s2:=(sp++(W++st))) Wo Wo ?_;refine CP (s1:=(sr++(sp++(W++st)))) (s2:=MM) Wo Wo ?_;have l9:RPZ.ok (sr++(sp++(W++st))) ⟨z.x,qr,cr,qp,cp,qt,ct⟩:=⟨(DY o9 A1).mono (fun c hc=>E7 _ hc),(Vn af ⟨gy,fun j v l hv hl=>by
   have h9:=ic j v l hv hl;rwa [Ax (C4.1 hl).1]at h9⟩ A1).mono (fun c hc=>by rcases Bm.1 hc with h9|h9<;>simp [h9]),(Gj p8 A1).mono (fun c hc=>by simp [hc])⟩
  have J:=Ow (Ow (Ow G (i*9+6) (.slice qr z.x.rows.length cr)) (i*9+8) (.slice qt z.x.roots.length ct)) (i*9+7) (.slice qp z.x.paths.length cp);rw [sX O]at J;simp only [DM]at I;rw [<-I]at J;refine Zg<|Ya (n:=1) Y Y<|Zm Y<|Z0<|Zn [13,1,2,12] ?_;refine Ab (e':=[(13,_)]) (by
   exact ⟨i+1,X++[⟨z.x,qr,cr,qp,cp,qt,ct⟩],[(g,.cells j3 146 zz)],sr++(sp++(W++st))++MM,rfl,⟨⟨by omega,by rw [BW,O];rfl⟩,J,fun y hy=>by
    rcases Bm.1 hy with hy|hy
    · exact (ax y hy).mono (fun c hc=>GB _ hc)
    · rw [C1.1 hy];exact l9.mono (fun c hc=>E7 _ hc),by rw [C2,gq,Bn hz,C2];rfl⟩,rfl,rfl⟩)
 obtain rfl:i=Z.length:=by omega
 refine Ay<|Zt<|Zt<|AR<|Zx<|Zq ?_;rw [show X++Z.drop Z.length=X by rw [k8,DG]]at G;rw [GS]at gq;refine CP (s1:=sz) (s2:=MM) Wo Wo ?_;refine Zg<|Zo Wh (AA (cs:=#[I4 q.kd,I4 q.tb,I4 q.cl,I4 q.lo,I4 q.hi,I4 q.bq,I4 q.ot,I4 te,I4 base,.slice pz Z.length cz]) S5 HH Y B1 (by exact BK V)) ?_;refine Xe (BM HH Y Y HT Wu (by exact Dx rfl) Fc AW (by exact BC _)) ?_;refine A5<|AJ<|Cs rfl results71 Y Wh (Am S5 HH Wn (BK rfl)) (by exact ⟨pz,cz,sz++MM,by rw [kv],⟨X,Wv (by rw [O,<-kv];exact G) A1 ax,by rw [gq];exact d9⟩,rfl⟩)
structure Eg(qs:List (Int×QM))(es:Array MapEntry)(ck:Nat)(lm:List (Int×A3)):Prop where
 map:Cm (fun n:Int=>Value.int .i64 n) es ck lm
 mem:∀p,p∈lm↔∃x∈qs,p=(x.1,(.agg #[I4 x.2.kd,I4 x.2.tb,I4 x.2.cl,I4 x.2.lo,I4 x.2.hi,I4 x.2.bq,I4 x.2.ot]:A3))
 ids:(qs.map (·.1)).Nodup
theorem OY{β:Type}(p:β×A3)(k:β)(v v0:A3){A:Prop}:(p=(k,v)\/((p=(k,v0)\/(A/\p.1≠k))/\p.1≠k))↔(p=(k,v)\/(A/\p.1≠k)):=by
 constructor
 · rintro (h|⟨h|⟨h,_⟩,hn⟩)
   · exact .inl h
   · exact absurd (by rw [h]) hn
   · exact .inr ⟨h,hn⟩
 · rintro (h|⟨h,hn⟩)
   · exact .inl h
   · exact .inr ⟨.inr ⟨h,hn⟩,hn⟩
theorem ni:Eg [] #[] 0 []:=⟨EW _,fun p=>by simp,nf⟩
theorem Eg.none{qs:List (Int×QM)}{es:Array MapEntry}{ck:Nat}{lm:List (Int×A3)}(h:Eg qs es ck lm){id:Int}(hn:∀x∈qs,x.1≠id):EK id lm=none:=Da fun p g=>by
 obtain ⟨x,hx,rfl⟩:=(h.mem p).1 g;exact hn x hx
variable{qs:List (Int×QM)}{es:Array MapEntry}{ck:Nat}{lm:List (Int×A3)}
theorem Eg.get(h:Eg qs es ck lm){x:Int×QM}(hx:x∈qs):EK x.1 lm=some (.agg #[I4 x.2.kd,I4 x.2.tb,I4 x.2.cl,I4 x.2.lo,I4 x.2.hi,I4 x.2.bq,I4 x.2.ot]:A3):=Cy h.map.keys ((h.mem _).2 ⟨x,hx,rfl⟩)
theorem Eg.len(h:Eg qs es ck lm):lm.length=qs.length:=by
 have m:(lm.map (·.1)).Perm (qs.map (·.1)):=(S7 h.map.keys h.ids).2 fun a=>by
  constructor
  · intro g
    obtain ⟨p,B,rfl⟩:=C3.1 g;obtain ⟨x,hx,rfl⟩:=(h.mem p).1 B;exact DS hx
  · intro g
    obtain ⟨x,hx,rfl⟩:=C3.1 g;exact C3.2 ⟨_,(h.mem _).2 ⟨x,hx,V⟩,V⟩
 have:=m.length_eq;simpa using this
theorem nu(h:Eg qs es ck lm){id:Int}(hn:∀x∈qs,x.1≠id){B:Array MapEntry}{m:Nat}{g:List (Int×A3)}(J:Cm (fun n:Int=>Value.int .i64 n) B m g)
 (O:∀p,p∈g↔p=(id,(.agg q.A98:A3))\/(p∈lm/\p.1≠id)):Eg (qs++[(id,q)]) B m g:=by
 refine ⟨J,fun p=>?_,?_⟩
 · rw [O,h.mem]
   constructor
   · rintro (rfl|⟨⟨x,hx,rfl⟩,_⟩)
     · exact ⟨(id,q),by simp,rfl⟩
     · exact ⟨x,E7 _ hx,rfl⟩
   · rintro ⟨x,hx,rfl⟩
     rcases Bm.1 hx with hx|hx
     · exact .inr ⟨⟨x,hx,rfl⟩,hn x hx⟩
     · rw [C1.1 hx];exact .inl rfl
 · rw [C2,HA]
   refine ⟨h.ids,by simp,fun a G b I=>?_⟩;obtain ⟨x,hx,rfl⟩:=C3.1 G;obtain rfl:=C1.1 I;exact hn x hx
theorem nk(h:Eg qs es ck lm)(id:Int){B:Array MapEntry}{m:Nat}{g:List (Int×A3)}(I:Cm (fun n:Int=>Value.int .i64 n) B m g)(J:∀p,p∈g↔p∈lm/\p.1≠id):Eg (qs.filter fun x=>x.1≠id) B m g:=by
 refine ⟨I,fun p=>?_,(h.ids.sublist ((Up).map _))⟩;rw [J,h.mem];constructor
 · rintro ⟨⟨x,hx,rfl⟩,hn⟩
   exact ⟨x,FF.2 ⟨hx,by simpa using hn⟩,V⟩
 · rintro ⟨x,hx,rfl⟩
   obtain ⟨G,h2⟩:=FF.1 hx;exact ⟨⟨x,G,V⟩,by simpa using h2⟩
theorem kX:BZ prog 27 #[] [] (fun r H'=>∃g mq,r=I5 g/\H'=[[(g,.cells #[.map (some mq),.pointer none] 163 (0,0))],[(mq,.map #[] 0)]]):=by
 refine Se func27 ntmps27 [] ?_;intro u R;refine A0<|A4 Y<|A0<|Ze (DX)<|AG fun mq=>Zv (BL (vs:=[(0,_)]) (cs:=#[_,_]) Y (AZ (pl:=#[(0,1),(1,1)]) zeroValue163 S0 (fun _=>by kernel_rfl) V))<|Ze (Bx #[_,_])<|AG fun g=>A4 Y<|AJ<|AO V results27 Y (by exact ⟨g,mq,V,V⟩)
theorem Wx{I mq:Nat}(g:Eg qs es ck lm){x:Int×QM}(hx:x∈qs):BZ prog 78 #[I5 I,I4 x.1] [[(I,.cells #[.map (some mq),lv] 163 (0,0))],[(mq,.map es ck)]] (fun r H'=>∃B m X,r= .bool true/\Eg (qs.filter fun y=>y.1≠x.1) B m X/\H'=[[(I,.cells #[.map (some mq),.pointer none] 163 (0,0))],[(mq,.map B m)]]):=by
 have hg:=g.get hx;refine Se func78 ntmps78 [0,1] ?_;intro u R;refine A0<|A4 Y<|Zq<|A0<|Zm Y<|Zv (Be underlying82 Y Y)<|A5<|AU Y (fun G=>by cases G)<|fun G=>AC<|Zx<|A0<|Zm Y<|Zp Y rfl<|Zh 0 S0 rfl rfl dq Y<|Zl dv Y<|Zm Y<|Zo Wh (EC (CY CM (D:=fun _=>True)) eN N2 g.map (fun _ _=>trivial) (trivial) (⟨by rw [hg];first|done|rfl,by rw [hg];first|done|rfl⟩) Y Y)<|Zm Y<|Zd Y rfl<|Zd Y rfl<|Ze (Al N2 #[_,_,_,_,_,_,_])<|AG fun b1=>Xe (Xw CN _)<|AN Y<|Zn [0,1,6] ?_;refine Zx<|A0<|Zm Y<|Zp Y V<|Zh 0 S0 V rfl dq Y<|Zl dv Y<|Zm Y<|Ze (Lh (CY CM (D:=fun _=>True)) eN g.map (fun _ _=>trivial) (trivial) Y Y Wo) ?_;rintro _ _ ⟨rfl,O,J,Z,U,W,rfl⟩;refine A5<|A0<|Zm Y<|Zp Y V<|Zh 1 S0 V rfl cE Y<|Xe (Zs cE Y Y V)<|A5<|A0<|Zm Y<|A4 Y<|AJ<|AO V results78 Y (by exact ⟨O,J,Z,V,nk g _ U W,V⟩)
theorem kY{J mq:Nat}(g:Eg qs es ck lm){id:Int}(I:∀x∈qs,x.1≠id)(hq:BF q)(hl:qs.length<500):BZ prog 79 #[I5 J,I4 id,(.agg q.A98:A3)] [[(J,.cells #[.map (some mq),lv] 163 (0,0))],[(mq,.map es ck)]] (fun r H'=>∃B m cO,r=I4 0/\Eg (qs++[(id,q)]) B m cO/\H'=[[(J,.cells #[.map (some mq),.pointer none] 163 (0,0))],[(mq,.map B m)]]):=by
 have X:=g.none I;have gq:=g.len
 refine Se func79 ntmps79 [0,1,2] ?_;intro u R;refine A0<|Ze (Bx #[_,_,_,_,_,_,_])<|AG fun b1=>A4 Y<|Zq<|A0<|Zm Y<|Zv (Be underlying82 Y Y)<|A5<|AU Y (fun G=>by cases G)<|fun G=>AC<|Zx<|Zq<|A0<|Zm Y<|Zp Y rfl<|Zh 0 S0 rfl rfl dq Y<|Zl dv Y<|Zm Y<|Zo Wh (EC (CY CM (D:=fun _=>True)) eN N2 g.map (fun _ _=>trivial) (trivial) (⟨by rw [X];first|done|rfl,by rw [X];first|done|rfl⟩) Y Y)<|Zm Y<|Zd Y rfl<|Zd Y rfl<|Ze (Al N2 #[_,_,_,_,_,_,_])<|AG fun b2=>Xe (Xw CN _)<|AN Y<|Zn [0,1,5,8] ?_;refine Zx<|A0<|Zm Y<|Zm Y<|Ae (t:=21) Y V (fun g1=>by cases g1)<|fun g1=>Db Y Wh (Pa #[_,_,_,_,_,_,_] F2 CN Y) V rfl<|Xr [_] Y call35 Y V (Jg q) ?_;rw [DE hq];refine Yg (Br Y)<|Zv (AL Y Y)<|Zm Y<|Ae (t:=26) Y V (fun g2=>by cases g2)<|fun g2=>Zf Y Y<|Yg (Ap Y V)<|Yf 0 S0 V rfl dq Y<|Yl dv Y<|Db Y Wh (QU eN g.map Y) V rfl<|Yg (G6 (n:=500) Y Y)<|Zv (AL Y Y)<|Z0<|Zn [0,1,5,33] ?_;refine Zx<|Aq Y (fun h8=>by omega)<|fun h8=>AC<|Zx<|Zq<|Az (n:=13) (0::1::3::7::0::0::0::31::159::479::1023::2047::4095::[]) 4736 AE AE rfl<|A2 0 rfl (AP Y)<|A2 1 rfl (Ap Y rfl)<|A2 2 rfl (AB (off:=0) S0 rfl rfl dq Y)<|B9 3 rfl dv Y<|A2 4 rfl (AP Y)<|A2 5 rfl (AP Y)<|Fk 6 rfl Wh (Pa #[_,_,_,_,_,_,_] F2 CN Y)<|Yz 7 31 255 [6,3] [true,false] [(6,(_,_))] rfl Y rfl rfl rfl rfl (Kk (CY CM (D:=fun _=>True)) eN N2 g.map (fun _ _=>trivial) (trivial) (by rw [X];first|done|rfl) Y Y Wo) ?_;rintro _ _ ⟨gm,ek,gy,j3,ic,rfl,af,Z,W,bn,rfl⟩;refine BT<|A2 8 V (C8 Y V)<|Zz (l:=[9])<|B5 [false] [] V rfl (J4 af Z W Y Y Y Wo) ?_ (fun _ _ h=>h.elim) Ah;rintro _ _ ⟨rfl,U,O,d9,ax,cu,rfl⟩;refine BT<|A2 10 V (Ap Y V)<|A2 11 V (AB (off:=1) S0 V rfl cE Y)<|Zz (l:=[12])<|B5 [] [] V rfl (Zs cE Y Y V) ?_ (fun _ _ h=>h.elim) Ah;rintro _ _ ⟨rfl,rfl⟩;refine BT<|Ag<|Zn [] ?_;refine Zx<|A0<|A4 Y<|AJ<|AO rfl results79 Y (by exact ⟨U,O,d9,rfl,nu g I ax (fun p=>by rw [cu,bn];exact OY _ _ _ _),rfl⟩)
structure IvM where
 lo:Int
 hi:Int
 rc:Int
 id:Int
deriving Inhabited
def Ub(M:List A9)(v:A3)(l:List IvM):Prop:=∃p cap,v= .slice p l.length cap/\(l.length<=maxLen/\l.length<=cap)/\∀(i:Nat) (x:IvM),l[i]?=some x->∃g off cur T zz,p=some ⟨g,off,none⟩/\(g,Obj.cells cur T zz)∈M/\off+i*4+4<=cur.size/\cur.extract (off+i*4) (off+i*4+4)=#[I4 x.lo,I4 x.hi,I4 x.rc,I4 x.id]
variable{l:List IvM}
theorem Ub.mono(h:Ub M v l)(J:∀c∈M,c∈M'):Ub M' v l:=by
 obtain ⟨p,cap,e,I,G⟩:=h;refine ⟨p,cap,e,I,fun i x hx=>?_⟩;obtain ⟨g,off,cur,T,zz,m,h2,B⟩:=G i x hx;exact ⟨g,off,cur,T,zz,m,J _ h2,B⟩
theorem Ub.take(h:Ub M (.slice p l.length cap) l){k:Nat}(B:k<=l.length):Ub M (.slice p k cap) (l.take k):=by
 obtain ⟨I,g,e,G,m⟩:=h;injection e with e1 e2 e3
 subst e1 e3;refine ⟨p,cap,by rw [CC,RT B],by rw [CC];omega,fun i x hx=>m i x ?_⟩;rw [HJ]at hx;split at hx;· exact hx
 · cases hx
def iY(a b:Int):Int:=if a<b then-1 else if b<a then 1 else 0
theorem bU(a b:Int):iY a b<0↔a<b:=by
 unfold iY;split;· exact ⟨fun _=>by assumption,fun _=>by decide⟩
 · split
   · exact ⟨fun h=>absurd h AW,fun h=>by omega⟩
   · exact ⟨fun h=>absurd h AW,fun h=>by omega⟩
theorem Oa{α:Type}(p:α->Bool):∀{l:List α} {e:Nat},e<=l.length->(∀(k:Nat) (x:α),k<e->l[k]?=some x->p x=true)->(∀(k:Nat) (x:α),e<=k->l[k]?=some x->p x=false)->l.takeWhile p=l.take e
 |[],e,_,_,_=>by simp
 |x::l,0,_,_,h2=>by rw [Q1,An (by rw [h2 0 x (D2 _) rfl];decide),Kd]
 |x::l,e+1,he,h1,h2=>by
  rw [Q1,Ax (h1 0 x A1 rfl),mc,Oa p (by simpa using he) (fun k y g hy=>h1 (k+1) y A1 hy) (fun k y g hy=>h2 (k+1) y A1 hy)]
def Iz(v:Int)(l:List IvM):List Int:=(((l.takeWhile fun x=>decide (x.lo<=v)).reverse.takeWhile fun x=>decide (v<=x.rc)).filter fun x=>decide (v<=x.hi)).map (·.id)
def NT(v:Int)(l:List (Nat×IvM)):List Int:=((l.map (·.2)).filter fun x=>decide (v<=x.hi)).map (·.id)
theorem TH(v:Int)(l:List (Nat×IvM))(x:Nat×IvM):NT v (l++[x])=NT v l++(if v<=x.2.hi then [x.2.id]else []):=by
 unfold NT;rw [C2,IH,C2];congr 1;by_cases h:v<=x.2.hi;· rw [Ax h];simp [h]
 · rw [An h];simp [h]
theorem NP{α:Type}(p:α->Bool):∀{l:List α},(∀x∈l,p x=true)->l.takeWhile p=l
 |[],_=>rfl
 |x::l,h=>by rw [Q1,Ax (h x (EV ..)),NP p fun y hy=>h y (FA _ hy)]
theorem Lj{α:Type}(p:α->Bool){x:α}(hx:p x=false)(m:List α):∀{l:List α},(∀y∈l,p y=true)->(l++x::m).takeWhile p=l
 |[],_=>by rw [Ln,Q1,An (by rw [hx];decide)]
 |y::l,h=>by rw [RM,Q1,Ax (h y (EV ..)),Lj p hx m fun z hz=>h z (FA _ hz)]
theorem vS{v:Int}{e:Nat}(g:l.takeWhile (fun x=>decide (x.lo<=v))=l.take e)(h:∀y∈bwd (l.take e),v<=y.2.rc):NT v (bwd (l.take e))=Iz v l:=by
 unfold NT Iz;rw [g,NF,NP];intro x hx;rw [<-NF]at hx;obtain ⟨y,hy,rfl⟩:=C3.1 hx;exact DE (h y hy)
theorem oh{v:Int}{e:Nat}(B:l.takeWhile (fun x=>decide (x.lo<=v))=l.take e){pre g:List (Nat×IvM)}{x:Nat×IvM}(m:bwd (l.take e)=pre++x::g)(h:∀y∈pre,v<=y.2.rc)(hx:x.2.rc<v):NT v pre=Iz v l:=by
 unfold NT Iz;rw [B,<-NF,m,C2,Ek,Lj _ (by simpa using hx)];intro z hz;obtain ⟨y,hy,rfl⟩:=C3.1 hz;exact DE (h y hy)
theorem iX{v:Int}{e:Nat}(O:l.takeWhile (fun x=>decide (x.lo<=v))=l.take e){pre g:List (Nat×IvM)}{x:Nat×IvM}(J:bwd (l.take e)=pre++x::g)(h:∀y∈pre++[x],v<=y.2.rc)(hx:v<=x.2.hi):∃m,Iz v l=NT v pre++x.2.id::m:=by
 unfold NT Iz;have I:∀{A:List IvM} {B:List IvM},(∀y∈A,decide (v<=y.rc)=true)->∃C,(A++B).takeWhile (fun x=>decide (v<=x.rc))=A++C:=fun{A B} hA=>by
  induction A with
  |nil=>exact ⟨_,rfl⟩
  |cons a A ih=>
   obtain ⟨C,G⟩:=ih fun y hy=>hA y (FA _ hy);exact ⟨C,by rw [RM,Q1,Ax (hA a (EV ..)),G,RM]⟩
 rw [O,<-NF,J,show pre++x::g=(pre++[x])++g by simp,C2];obtain ⟨C,G⟩:=I (A:=(pre++[x]).map Prod.snd) (B:=g.map Prod.snd) fun z hz=>by
  obtain ⟨y,hy,rfl⟩:=C3.1 hz;exact DE (h y hy)
 rw [G,C2,IH,IH,C2,C2];refine ⟨(C.filter fun x=>decide (v<=x.hi)).map (·.id),?_⟩;simp [hx]
theorem Tx(x:Int):BB prog 250 #[I4 x] [] (.bool false):=by
 refine Se func250 ntmps250 [0] ?_;intro u R;refine A0<|A4 Y<|A0<|Zm Y<|Zm Y<|Zv (LZ Y Y)<|A4 Y<|AJ<|AO V results250 Y (by exact ⟨by simp,V⟩)
theorem Y3(a b:Int):BB prog 201 #[I4 a,I4 b] [] (I4 (iY a b)):=by
 refine Se func201 ntmps201 [0,1] ?_;intro u R;refine A0<|A4 Y<|A0<|Zm Y<|Xr [_] Y call250 Y V (Tx _)<|A4 Y<|A0<|Zm Y<|Xr [_] Y call250 Y V (Tx _)<|A4 Y<|Zq<|A0<|Zm Y<|A5<|AU Y (fun g=>by cases g)<|fun g=>AC<|Zx<|Zq<|A0<|Zm Y<|A5<|AU Y (fun h2=>by cases h2)<|fun h2=>AC<|Zx<|Zq<|A0<|Zm Y<|Zm Y<|Zv (Dw Y Y)<|A5<|Aq Y (fun m=>?_) (fun m=>?_);·
  refine A0<|AN Y<|Zn [4] ?_;refine Zx<|AJ<|Zt<|AO V results201 Y (by exact ⟨by unfold iY;simp [*],V⟩)
 refine AC<|Zx<|Zq<|A0<|Zm Y<|Zm Y<|Zv (Et Y Y)<|Z0<|Zn [19] ?_;refine Zx<|Aq Y (fun B=>?_) (fun B=>?_);·
  refine A0<|A4 Y<|AJ<|Zt<|AO V results201 Y (by exact ⟨by unfold iY;simp [*],V⟩)
 refine AC<|Zx<|A0<|A4 Y<|AJ<|AO V results201 Y (by exact ⟨by unfold iY;simp [*],V⟩)
theorem ZZ(x:IvM)(t:Int):BB prog 228 #[.agg #[I4 x.lo,I4 x.hi,I4 x.rc,I4 x.id],I4 t] [] (I4 (iY x.lo t)):=by
 refine Se func228 ntmps228 [0,1] ?_;intro u R;refine A0<|Ze (Bx #[_,_,_,_])<|AG fun g=>A4 Y<|A0<|Zh 0 XS V rfl A6 Y<|Zl AF Y<|Zm Y<|Xr [_,_] Y call201 Y V (Y3 _ _)<|A4 Y<|AJ<|AO V results228 Y (by exact ⟨V,V⟩)
theorem Y7(hv:Ub M v l)(hn:l.length<=1000000)(hs:l.Pairwise fun a b=>a.lo<=b.lo)(t:Int):BZ prog 227 #[v,I4 t,.func (.func 228) #[] #[]] [M] (fun r H'=>∃(e:Nat) (b:Bool),r= .tuple #[I4 (e:Int),.bool b]/\e<=l.length/\(∀(k:Nat) (x:IvM),k<e->l[k]?=some x->x.lo<t)/\(∀(k:Nat) (x:IvM),e<=k->l[k]?=some x->t<=x.lo)/\H'=[M]):=by
 have cu:=mL;obtain ⟨p,cap,rfl,⟨hl,bn⟩,hg⟩:=id hv;have G:∀(i j:Nat) (x y:IvM),i<=j->l[i]?=some x->l[j]?=some y->x.lo<=y.lo:=fun i j x y Z hx hy=>by
  rcases E4 i j with h|h
  · obtain ⟨h1,rfl⟩:=C4.1 hx
    obtain ⟨h2,rfl⟩:=C4.1 hy;exact fS.1 hs i j h1 h2 h
  · obtain rfl:i=j:=by omega
    rw [hx]at hy;injection hy with hy;rw [hy];exact Wg _
 refine Se func227 ntmps227 [0,1,2] ?_;intro u R;refine A0<|Za Y<|A4 Y<|A0<|Zm Y<|Zv (AY fx Y)<|A4 Y<|A0<|Zm Y<|Za Y<|A4 Y<|Zq<|AQ<|Zb [9,10,0,1,2,8] ?_;refine BA (e0:=[(9,_),(10,_)]) (fun m e H=>∃(i j:Nat),m=j -i/\((i<=j/\j<=l.length)/\(∀(k:Nat) (x:IvM),k<i->l[k]?=some x->x.lo<t)/\(∀(k:Nat) (x:IvM),j<=k->l[k]?=some x->t<=x.lo))/\e=[(9,I4 (i:Int)),(10,I4 (j:Int))]/\H=[]) (by exact ⟨0,l.length,rfl,⟨⟨C5 _,D2 _⟩,fun k x h=>absurd h (cX k),fun k x h hx=>by rw [MY h]at hx;cases hx⟩,rfl,rfl⟩) Wp ?_;rintro _ _ _ ⟨i,j,rfl,⟨⟨Z,U⟩,J,I⟩,rfl,rfl⟩;refine Zq<|A0<|Zm Y<|Zm Y<|Zv (Au Y Y)<|A5<|Aq Y (fun af=>?_) (fun af=>?_);·
  refine AC<|Zx<|AQ<|A0<|Zm Y<|Zm Y<|Ya Y Y ?_;refine BV (M8 CM Wk Y A1)<|BV (QQ (n:=1) Y Y (by first|decide|(simp [IntKind.bits];done)|(simp [IntKind.bits];omega)))<|BV (TW Wk CM Y A1)<|A4 Y<|Zq ?_;obtain ⟨h,hh⟩:∃h,h=(i+j)/2^1:=⟨_,rfl⟩;rw [<-hh];have ax:i<=h/\h<j:=by rw [hh];omega
  obtain ⟨x,hx⟩:∃x,l[h]?=some x:=⟨_,B7 A1⟩;obtain ⟨g,off,cur,T,zz,rfl,O,W,B⟩:=hg _ _ hx;refine Zg<|Zm Y<|Zm Y<|Zm Y<|BV (Ad fx P0 Y Y A1)<|CG (Gd Wo (O)) (AA (cs:=#[_,_,_,_]) isAgg273 P0 Y A1 B) V rfl<|Zm Y<|Xr [_,_] Y call228 Y V (ZZ x t)<|Zv (Dw Y Y)<|Z0<|Zn [0,1,2,8,9,10,11,31] ?_;refine Zx<|Aq Y (fun X=>?_) (fun X=>?_);·
   refine Zg<|Zm Y<|Ya (n:=1) Y Y<|AN Y<|A8<|Zn [9,10,0,1,2,8] ?_;refine Ab (e':=[(9,_),(10,_)]) (by exact ⟨h+1,j,V,⟨⟨by omega,by omega⟩,fun k y hk hy=>by have:=G k h y x A1 hy hx;have:=(bU _ _).1 X;omega,I⟩,V,V⟩)
  refine Zg<|Zm Y<|AN Y<|A8<|Zn [9,10,0,1,2,8] ?_;refine Ab (e':=[(9,_),(10,_)]) (by exact ⟨i,h,V,⟨⟨by omega,by omega⟩,J,fun k y hk hy=>by have:=G h k x y hk hx hy;have:=mt (bU x.lo t).2 X;omega⟩,V,V⟩)
 obtain rfl:i=j:=by omega
 refine Ay<|Zt<|Zt<|AR<|Zx<|A0<|Zm Y<|Zm Y<|Zm Y<|Zv (Au Y Y)<|Zm Y<|Aj (t:=39) Y V (fun h5=>?_) (fun h5=>?_);·
  obtain ⟨x,hx⟩:∃x,l[i]?=some x:=⟨_,B7 A1⟩;obtain ⟨g,off,cur,T,zz,rfl,O,W,B⟩:=hg _ _ hx;refine Zf Y Y<|Zf Y Y<|Zf Y Y<|Gx Y (Ad fx P0 Y Y A1) V rfl ?_;refine MF Y (Gd Wo (O)) (AA (cs:=#[_,_,_,_]) isAgg273 P0 Y A1 B) V rfl ?_;refine Zf Y Y<|Xr [_,_] Y call228 Y V (ZZ x t)<|Yg (CK Y Y)<|Zv (AV Y Y)<|Za Y<|AN Y<|Zn [6,7] ?_;refine Zx<|AJ<|Cv V results227 Y Y (by exact ⟨i,_,V,U,J,I,V⟩)
 refine A7 Y V<|A7 Y V<|A7 Y V<|A7 Y V<|A7 Y V<|A7 Y V<|A7 Y V<|A7 Y V<|Zv (AL Y Y)<|Za Y<|AN Y<|Zn [6,7] ?_;refine Zx<|AJ<|Cv V results227 Y Y (by exact ⟨i,_,V,U,J,I,V⟩)
theorem cZ(p:B6)(n c:Nat):BZ prog 229 #[.slice p n c] [] (fun r H'=>∃b,r= .func (.func 262) #[] #[I5 b]/\H'=[[(b,.cells #[.slice p n c] 274 (0,0))]]):=by
 refine Se func229 ntmps229 [0] ?_;intro u R;refine A0<|Ze (Bx #[_])<|AG fun b=>A4 Y<|A0<|Zv (Bh (vs:=[]) (us:=[_]) Y Y)<|A4 Y<|AJ<|AO V results229 Y (by exact ⟨_,V,V⟩)
theorem dA{ls:List IvM}(hv:Ub M v ls)(b:Nat)(hn:ls.length<=1000000):NI prog 262 #[I5 b] [[(b,.cells #[v] 274 (0,0))]] (fun s=>∀c∈M,c∈s) (fun x:Nat×IvM=>#[I4 ((x.1:Nat):Int),.agg #[I4 x.2.lo,I4 x.2.hi,I4 x.2.rc,I4 x.2.id]]) (bwd ls):=by
 have cu:=mL;obtain ⟨p,cap,rfl,hl,hg⟩:=hv;intro l J Jx hA hy s B;refine Se func262 ntmps262 [0,1] ?_;intro u R;refine A0<|Zl isAgg274 Y ?_;refine Zv (AY fx Y) ?_
 (refine BV (GN Y Y (IntWalk.i64_in _ ?_)) ?_;(focus (omega)))
 refine A4 Y<|AQ<|Zb [3,0,1] ?_;refine BA (e0:=[(3,_)]) (fun m e H=>∃(k:Nat) (s:List A9),m=0+k/\(k<=ls.length/\J ((bwd ls).take (ls.length -k)) s)/\e=[(3,I4 ((k:Int) -1))]/\H=[[(b,.cells #[.slice p ls.length cap] 274 (0,0))],s]) (by exact ⟨ls.length,s,rfl,⟨D2 _,by rw [Wf,Kd];exact B⟩,rfl,rfl⟩) Wp ?_;rintro _ _ _ ⟨k,s,rfl,⟨hk,B⟩,rfl,rfl⟩;refine Zq<|A0<|Zm Y<|Zv (He Y Y)<|A5<|Aq Y (fun Z=>?_) (fun Z=>?_);·
  obtain ⟨m,rfl⟩:∃m,k=m+1:=⟨k -1,by omega⟩;rw [show(((m+1:Nat):Int) -1)=((m:Nat):Int) by omega];obtain ⟨z9,U⟩:∃z9,ls[m]?=some z9:=⟨_,B7 A1⟩;have I:=j4 U
  obtain ⟨g,o,cur,T,zz,rfl,hm,bn,O⟩:=hg m z9 U;have af:=hy _ _ _ s (Od I) B
  refine AC<|Zx<|Zq<|AQ<|A0<|Zm Y<|Zm Y<|Zl isAgg274 Y ?_;refine Zm Y<|BV (Ad fx P0 Y Y A1)<|CG (Gd Wo (hA _ s B _ hm)) (AA (cs:=#[_,_,_,_]) isAgg273 P0 Y A1 O) V rfl ?_;refine Ze (Ga (vs:=[_,_]) Y Y (af) Wp) ?_;rintro _ _ ⟨_,⟨s',rfl,ax⟩,rfl⟩;rcases ax with⟨rfl,W⟩|⟨rfl,hJx⟩
  ·
   refine Zv (Br Y)<|A5<|AU Y (fun G=>by cases G)<|fun G=>AC<|A8<|Zx<|Zg<|Zm Y ?_
   (refine BV (GN Y Y (IntWalk.i64_in _ ?_)) ?_;(focus (omega)))
   refine AN Y<|Zn [3,0,1] ?_;refine Ab (e':=[(3,_)]) (by exact ⟨m,s',rfl,⟨by omega,by rw [show ls.length -m=ls.length -(m+1)+1 by omega,Bn I];exact W⟩,rfl,rfl⟩)
  refine Zv (Br Y)<|A5<|AU Y (fun G=>?_) (fun G=>?_);·
   refine AJ<|Ac<|Zt<|Zt<|Ac ?_;refine Cw V results262 (by exact ⟨s',V,.inr ⟨_,hJx⟩⟩)
  cases G
 have X:k=0:=by omega
 subst X;rw [SU,J0 (by rw [Y6];exact D2 _)]at B;refine Ay<|Zt<|Zt<|AR<|Cw V results262 (by exact ⟨s,V,.inl B⟩)
theorem Y1(hv:Ub M lv l)(hn:l.length<=1000000)(hs:l.Pairwise fun a b=>a.lo<=b.lo)(v:Int)(j5:-1000000000000<=v/\v<=1000000000000)(bl X:Nat):FD prog 226 #[I5 bl,I5 X] [[(bl,.cells #[lv] 274 (0,0))],[(X,.cells #[I4 v] 3 (0,0))]] (fun s=>∀c∈M,c∈s) (fun i:Int=>#[I4 i]) (Iz v l):=by
 have j3:=mL;obtain ⟨p,cap,rfl,⟨hl,ic⟩,hg⟩:=id hv;intro ly J hA hy s B;refine DT func226 V ntmps226 V ?_;intro u R;refine Zb [0,1,2] ?_;refine A0<|Ze (Bx #[_])<|AG fun by_=>A5<|A0<|Zl isAgg274 Y ?_;refine Zl AF Y ?_;refine Yi Y Y<|Zc [_,_,_] Y call227 Y V (Y7 (hv.mono (hA _ s B)) hn hs (v+1)) ?_;rintro _ _ ⟨_,⟨e,fb,rfl,U,bn,cu,rfl⟩,rfl⟩;have O:l.takeWhile (fun x=>decide (x.lo<=v))=l.take e:=Oa _ U (fun k x hk hx=>DE (by have:=bn k x hk hx;omega)) (fun k x hk hx=>Cd (by have:=cu k x hk hx;omega))
 refine Zm Y<|Zd Y V<|Zd Y V<|Za Y<|A4 Y<|A0<|Zl isAgg274 Y ?_;refine Zm Y<|BV (Bu fx P0 Y Y A1)<|Zc [_] Y call229 Y V (cZ _ _ _) ?_;rintro _ _ ⟨_,⟨bb,rfl,rfl⟩,rfl⟩;refine Z0<|Zn [2,3,18] ?_;refine Zx<|AQ<|Zb [2,3,18] ?_;refine YB (Ix:=(fun(_:List (Nat×IvM)) H=>∃s,J (Iz v l) s/\H=[[(X,.cells #[I4 v] 3 (0,0))],[(by_,.cells #[.func (.yield ly) #[] #[]] 78 (0,0))],s])) (H0:=_) (R:=_) (I:=(fun(pre:List (Nat×IvM)) H=>∃s,(J (NT v pre) s/\∀y∈pre,v<=y.2.rc)/\H=[[(X,.cells #[I4 v] 3 (0,0))],[(by_,.cells #[.func (.yield ly) #[] #[]] 78 (0,0))],s])) (E:=fun x e Hn=>∃bx,e=[(7,I5 bx),(20,.agg #[I4 x.2.lo,I4 x.2.hi,I4 x.2.rc,I4 x.2.id]),(19,I4 ((x.1:Nat):Int))]/\Hn=[[(bx,.cells #[I4 x.2.lo,I4 x.2.hi,I4 x.2.rc,I4 x.2.id] 273 (0,0))]]) rfl Y call262 (dA (hv.take U) bb (by rw [CC];omega)) (by rintro pre _ c d ⟨s,Z,rfl⟩;intro q hq;have:=hA _ s Z.1 q hq;simp [this]) Y rfl Wp (⟨s,⟨B,fun y hy=>by simp at hy⟩,rfl⟩) ?ha_2 ?hbd_2 ?hk_2 ?hkx_2
 case ha_2=>
  intro _ x _ _;refine Zg<|Ze (Al zeroValue273 #[_,_,_,_])<|AG fun b2=>Xe (Xw P0 _) ?_;refine Z0<|MG (e:=[(7,_),(20,_),(19,_)]) (Hn:=[[(_,_)]]) ?_;exact ⟨_,V,V⟩
 case hbd_2=>
  intro l pre x gm u e9 gy H1 R1 r9 W hI af;obtain ⟨bx,rfl,rfl⟩:=af;obtain ⟨s,⟨B,m⟩,rfl⟩:=hI;refine AQ<|Zq<|A0<|Zh 2 XS V rfl A6 Y<|Zl AF Y ?_;refine Zl AF Y ?_;refine Zv (Dw Y Y)<|A5<|Aq Y (fun Z=>?_) (fun Z=>?_);·
   refine AJ<|Zt<|Ac ?_;refine mY rfl (by exact ⟨s,by rw [<-oh O W m Z];exact B,rfl⟩)
  have g:∀y∈pre++[x],v<=y.2.rc:=fun y hy=>(Bm.1 hy).elim (m y) (fun h=>by rw [C1.1 h];omega);refine AC<|Zx<|A0<|Zh 1 XS V rfl A6 Y<|Zl AF Y ?_;refine Zl AF Y ?_;refine Zv (He Y Y)<|Zm Y<|Aj (t:=29) Y V (fun h2=>?_) (fun h2=>?_);·
   obtain ⟨ek,cO⟩:=iX O W g h2;have d9:=hy _ _ _ s cO B
   refine Yl isAgg78 Y ?_;refine Yf 3 XS V rfl A6 Y<|Yl AF Y ?_;refine Ze (Ga (vs:=[_]) Y Y (d9) Wp) ?_;rintro _ _ ⟨_,⟨s',rfl,rfl,ax⟩,rfl⟩;refine Yg (Br Y)<|Zv (AV Y Y)<|Z0<|Zn [35] ?_;refine Zx<|AU Y (fun hb=>by cases hb)<|fun hb=>AC<|A8<|Vw rfl (by exact ⟨s',⟨by rw [TH,Ax h2];exact ax,g⟩,rfl⟩)
  refine A7 Y V<|A7 Y V<|A7 Y V<|A7 Y V<|A7 Y V<|Zv (AL Y Y)<|Z0<|Zn [35] ?_;refine Zx<|D9 Y<|AC<|A8<|Vw rfl (by exact ⟨s,⟨by rw [TH,An h2,DG];exact B,g⟩,rfl⟩)
 case hk_2=>
  intro D1 H2 G;obtain ⟨s,⟨B,m⟩,rfl⟩:=G;rw [vS O m]at B;refine Zn [] ?_;refine A8<|GR V (o4 results226) Wo (by exact ⟨s,V,B⟩)
 intro D1 gq H2 G;obtain ⟨s,B,rfl⟩:=G;refine Ac ?_;refine GR V (o4 results226) Wo (by exact ⟨s,V,B⟩)
end Go.Proofs.YtfhjaegddfehhabGreatDoor
