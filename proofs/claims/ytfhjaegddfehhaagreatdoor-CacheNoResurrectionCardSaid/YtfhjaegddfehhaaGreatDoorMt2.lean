/- slices.Clone of proofs and records; proof.Build. -/
import Derived.Test.YtfhjaegddfehhaaGreatDoorPy3
set_option linter.unusedVariables false
set_option linter.unusedSimpArgs false
namespace Go.Proofs.YtfhjaegddfehhaaGreatDoor
open Go.Proofs.Tryz
open Go Go.RowKit Gw
set_option maxRecDepth 100000
attribute [local irreducible] Gw.At Gw.Nx Gw.Ops
variable{M:List AA}{p:Option Addr}
theorem Nw{α:Type}(f:α->List Value)(sz:Nat)(W:∀a,(f a).length=sz)(h0:0<sz){l:List α}(X:∀(i:Nat) (a:α),l[i]?=some a->∃g off cur T zz,p=some ⟨g,off,none⟩/\(g,Obj.cells cur T zz)∈M/\off+i*sz+sz<=cur.size/\cur.extract (off+i*sz) (off+i*sz+sz)=(f a).toArray):FN M p (l.flatMap f):=by
 intro j u J;have B:(l.flatMap f).length=l.length*sz:=by
  clear X J;induction l with
  |nil=>simp
  |cons a l ih=>rw [HL,B7,ih,W,DG,Ks];omega
 have m:=(BE.1 J).1;rw [B]at m;have hd:=Nat.div_add_mod j sz
 have Z:=er j h0;have hi:j/sz<l.length:=nv (by rw [mA];exact m)
 obtain ⟨a,U⟩:∃a,l[j/sz]?=some a:=⟨_,B3 hi⟩;obtain ⟨g,off,cur,T,zz,rfl,G,K,I⟩:=X (j/sz) a U;refine ⟨g,off,cur,T,zz,V,G,?_⟩;have h1:=PN I K (j%sz) Z
 have h2:=IM f sz W l (j/sz) a U;have e1:j/sz*sz+j%sz=j:=by rw [mA];exact hd
 have O:(l.flatMap f)[j/sz*sz+j%sz]?=(f a)[j%sz]?:=by rw [<-h2,HC,AM Z,NO]
 rw [e1,J]at O;rw [show off+j=off+j/sz*sz+j%sz by omega,h1,gx];exact O.symm
variable{cap n:Nat}
theorem jc{Z:List RPZ}(h:ZsU M (.slice p n cap) Z):FN M p (Z.flatMap Ej):=by
 obtain ⟨B,g,e,_,m⟩:=h;injection e with e1 e2 e3
 subst e1;exact Nw _ 9 (fun _=>rfl) AH fun i z hz=>(m i z hz).2
theorem dN{l:List BN}(h:EZ M (.slice p n cap) l):FN M p (Du l):=by
 obtain ⟨B,g,e,_,m⟩:=h;injection e with e1 e2 e3
 subst e1;exact Nw _ 2 (fun _=>rfl) AH fun i z hz=>(m i z hz).2
theorem UR(l:List BN):(Du l).length=l.length*2:=by
 induction l with
 |nil=>rfl
 |cons a l ih=>unfold Du at*;rw [HL,B7,ih];simp only [DG,KK];omega
theorem X8(l:List BN):∀u∈Du l,u.oneCell'=true:=by
 intro u g;obtain ⟨z,_,h⟩:=S0.1 g;simp only [D4,RW,RC]at h;rcases h with rfl|rfl<;>rfl
structure bH where
 q:QM
 res:CE
 since:Int
 until_:Int
 base:Int
 ranges:List RP
 recs:List BN
structure Jv where
 a:bH
 rp:Option Addr
 rc:Nat
 gp:Option Addr
 gc:Nat
 cp:Option Addr
 cc:Nat
abbrev Jv.A60(c:Jv):Array Go.Value:=#[I4 c.a.q.kd,I4 c.a.q.tb,I4 c.a.q.cl,I4 c.a.q.lo,I4 c.a.q.hi,I4 c.a.q.bq,I4 c.a.q.ot,.slice c.rp c.a.res.rows.length c.rc,I4 c.a.res.val,.bool c.a.res.fnd,I4 c.a.since,I4 c.a.until_,I4 c.a.base,.slice c.gp c.a.ranges.length c.gc,.slice c.cp c.a.recs.length c.cc]
def Jv.ok(M:List AA)(z:Jv):Prop:=Db M (.slice z.rp z.a.res.rows.length z.rc) z.a.res.rows/\Fu M (.slice z.gp z.a.ranges.length z.gc) z.a.ranges/\EZ M (.slice z.cp z.a.recs.length z.cc) z.a.recs
variable{M':List AA}{v:Value}
theorem Ll{l:List BN}(h:EZ M v l)(K:∀c∈M,c∈M'):EZ M' v l:=by
 obtain ⟨p,cap,e,U,O⟩:=h;refine ⟨p,cap,e,U,fun i r W=>?_⟩;obtain ⟨⟨X,cap2,e2,J,I⟩,g,off,cur,T,zz,m,B,G⟩:=O i r W;refine ⟨⟨X,cap2,e2,J,fun j c hc=>?_⟩,g,off,cur,T,zz,m,K _ B,G⟩;obtain ⟨g,off,cur,T,zz,m,B,G⟩:=I j c hc;exact ⟨g,off,cur,T,zz,m,K _ B,G⟩
theorem Jv.ok.mono{z:Jv}(h:z.ok M)(g:∀c∈M,c∈M'):z.ok M':=⟨h.1.mono g,h.2.1.mono g,Ll h.2.2 g⟩
noncomputable def Jt(q:QM)(base:Int)(L:List RP)(recs:List BN):Option bH:=(Eb q L).bind fun r=>if recs.length<=64 then(FY q base 0 (r,base) recs).map fun st=>⟨q,st.1,st.2,base+(recs.length:Int),base,L,recs⟩else none
variable{q:QM}{base:Int}{L:List RP}
theorem iB{recs:List BN}(h:¬recs.length<=64):Jt q base L recs=none:=by
 unfold Jt;cases Eb q L with
 |none=>rfl
 |some r=>rw [I3,AK h]
variable{r:CE}
theorem QR{recs:List BN}(g:Eb q L=some r)(h:recs.length<=64):Jt q base L recs=(FY q base 0 (r,base) recs).map fun st=>⟨q,st.1,st.2,base+(recs.length:Int),base,L,recs⟩:=by
 unfold Jt;rw [g,I3,AM h]
theorem Lj{l:List BN}(h:(BC q r base l).2.2=true):FY q base 0 (r,base) l=some ((BC q r base l).1,(BC q r base l).2.1):=by
 unfold BC at*;split at h;· rename_i st h9;rw [h9]
 · cases h
theorem YU{l:List BN}(h:(BC q r base l).2.2=false):FY q base 0 (r,base) l=none:=by
 unfold BC at*;split at h;· cases h
 · rename_i h9;exact h9
theorem jR(hq:BJ q){rows g:List AV}(hl:rows.length<=100)(I:∀r∈rows,r.ok):(FQ q rows g).rows.length<=200/\-1000000000000000000<=(FQ q rows g).val/\(FQ q rows g).val<=1000000000000000000:=by
 have G:=jG (q:=q) (rows:=rows) (fun r Z=>Wd (I r Z) q.bq);have B:(Ct q rows).length<=1000000000:=by rw [KI];omega
 have hj:=TS q rows g;have hx:∀(lt:Int->Int->Bool) (hlt:∀a b c,lt b a=false->lt c b=false->lt c a=false) (hirr:∀a,lt a a=false) (hasy:∀a b,lt a b=true->lt b a=false),(EW lt (Ct q rows)).rows.length<=200/\-1000000000000000000<=(EW lt (Ct q rows)).val/\(EW lt (Ct q rows)).val<=1000000000000000000:=fun lt O U W=>by
  cases hms:Ct q rows with
  |nil=>exact ⟨C0 _,by show(_:Int)<=0;decide,by show(0:Int)<=_;decide⟩
  |cons z ms=>
   obtain ⟨x,J,_,K⟩:=KO lt O U W z ms;rw [K];rw [hms]at G;have:=G x J
   exact ⟨C0 _,by show _<=x;omega,by show x<=_;omega⟩
 have m:=iV G B (Ct q rows).length;rw [GB]at m;unfold FQ;split;· exact ⟨C0 _,by simp only;omega,by simp only;omega⟩
 · split
   · exact ⟨C0 _,m⟩
   · split
     · exact hx _ (fun a b c X h2=>by simp only [Mu]at*;omega) (fun a=>by simp) (fun a b h=>by simp only [Fl,Mu]at*;omega)
     · split
       · exact hx _ (fun a b c X h2=>by simp only [Mu]at*;omega) (fun a=>by simp) (fun a b h=>by simp only [Fl,Mu]at*;omega)
       · split
         · exact ⟨by simp only;omega,by simp only;decide,by simp only;decide⟩
         · exact ⟨by simp only;omega,by simp only;decide,by simp only;decide⟩
variable{sz:Nat}{e:TypeId}{xs:List Value}{s:List AA}
theorem Ma(h:Bc sz e v n xs s):n<=maxLen:=by
 obtain ⟨_,⟨_,h0,_⟩|⟨_,_,_,_,_,_,g,h2,_⟩⟩:=h;· omega
 · omega
theorem Lb(h:Eb q L=some r):BJ q/\r.rows.length<=200/\-1000000000000000000<=r.val/\r.val<=1000000000000000000:=by
 obtain ⟨x,G,_,g,_,hc,m,B⟩:=QU h;refine ⟨g,?_⟩;rcases B with⟨_,_,rfl⟩|⟨_,o,_,rfl⟩
 · exact jR g m (Oe hc).2
 · exact jR g m (Oe hc).2
theorem LM{Z:List RPZ}(hv:ZsU M v Z)(hb:Z.length<=1000000):Ba prog 101 #[v] [M] (fun r H'=>∃K,Bc 9 143 r Z.length (Z.flatMap Ej) K/\H'=[K,M]):=by
 have X:=mL;have B:=hv
 obtain ⟨p,cap,rfl,⟨hl,W⟩,U⟩:=id hv;replace B:=jc B;refine Se func101 ntmps101 [0] ?_;intro u R;refine A0<|A3 Y<|Zq<|A0<|Zm Y<|Zv (Dq N4 Y Y)<|A5<|AX Y (fun J=>?_) (fun J=>?_);·
  have G:p=none:=by cases p with
   |none=>rfl
   |some x=>cases J
  have h0:Z=[]:=by
   cases Z with
   |nil=>rfl
   |cons x l=>obtain ⟨_,g,off,cur,T,zz,I,_⟩:=U 0 x rfl;rw [G]at I;cases I
  refine Zq<|BU<|Zg<|A3 Y<|AJ<|Zt<|AO rfl results101 Y (by exact ⟨[],by rw [h0];exact Bf 9 _,rfl⟩)
 refine AC<|Zx<|A0<|Ze (EP N4 Hv)<|AE fun O=>Zm Y<|Ze (Hl (by_:=120) (sz:=9) N4 (V:Tryz.prog.info? 143=some Tryz.t143) V rfl V rfl Y (IW 9 143 O 0 [] V AH) Y (B) (by exact sE _) AH Wo Wo (by exact yS _) A1 A1) ?_;rintro _ _ ⟨af,m,rfl⟩;replace m:=BS m (D0 _) (LN _);refine A3 Y<|AJ<|AO V results101 Y (by exact ⟨_,m,V⟩)
theorem IJ{Z:List BN}(hv:EZ M v Z)(hb:Z.length<=1000000):Ba prog 41 #[v] [M] (fun r H'=>∃K,Bc 2 50 r Z.length (Du Z) K/\H'=[K,M]):=by
 have X:=mL;have B:=hv
 obtain ⟨p,cap,rfl,⟨hl,W⟩,U⟩:=id hv;replace B:=dN B;refine Se func41 ntmps41 [0] ?_;intro u R;refine A0<|A3 Y<|Zq<|A0<|Zm Y<|Zv (Dq Fo Y Y)<|A5<|AX Y (fun J=>?_) (fun J=>?_);·
  have G:p=none:=by cases p with
   |none=>rfl
   |some x=>cases J
  have h0:Z=[]:=by
   cases Z with
   |nil=>rfl
   |cons x l=>obtain ⟨_,g,off,cur,T,zz,I,_⟩:=U 0 x rfl;rw [G]at I;cases I
  refine Zq<|BU<|Zg<|A3 Y<|AJ<|Zt<|AO rfl results41 Y (by exact ⟨[],by rw [h0];exact Bf 2 _,rfl⟩)
 refine AC<|Zx<|A0<|Ze (EP Fo F0)<|AE fun O=>Zm Y<|Ze (Hl (by_:=32) (sz:=2) Fo (V:Tryz.prog.info? 50=some Tryz.t50) V rfl V rfl Y (IW 2 50 O 0 [] V AH) Y (B) (by exact UR _) AH Wo Wo (by exact X8 _) A1 A1) ?_;rintro _ _ ⟨af,m,rfl⟩;replace m:=BS m (D0 _) (LN _);refine A3 Y<|AJ<|AO V results41 Y (by exact ⟨_,m,V⟩)
variable{pg:Option Addr}{cg:Nat}{lv:Value}
set_option maxHeartbeats 1000000 in
theorem uj(q:QM)(te base:Int)(hb:-1000000000000<=base/\base<=1000000000000)(hL:Fu M (.slice pg L.length cg) L)(ic:L.length<=1000000)(hr:Eb q L=some r){l:List BN}(O:EZ M lv l)(d9:∀x∈l,x.cs.length<=1000):Ba prog 50 #[.agg #[I4 q.kd,I4 q.tb,I4 q.cl,I4 q.lo,I4 q.hi,I4 q.bq,I4 q.ot,I4 te,I4 base,.slice pg L.length cg],lv] [M] (fun w H'=>(∃(z:Jv) (s3 s1 s2:List AA),Jt q base L l=some z.a/\z.ok (s3++(s1++(s2++M)))/\w= .tuple #[.agg z.A60,.bool true]/\H'=[s3,s1,s2,M])\/(Jt q base L l=none/\w= .tuple #[.agg #[I4 0,I4 0,I4 0,I4 0,I4 0,I4 0,I4 0,.slice none 0 0,I4 0,.bool false,I4 0,I4 0,I4 0,.slice none 0 0,.slice none 0 0],.bool false]/\H'=[M])):=by
 have kv:=mL;obtain ⟨hq,l5,gy⟩:=Lb hr;obtain ⟨pl,cl,rfl,j3,j5⟩:=id O;obtain ⟨Z,hZ,W⟩:=id hL;have U:Z.length=L.length:=by rw [<-W,B4]
 obtain ⟨pz,cz,ez,_,gB⟩:=id hZ;refine Se func50 ntmps50 [0,1] ?_;intro u R;refine A0<|Ze (Bx #[I4 q.kd,I4 q.tb,I4 q.cl,I4 q.lo,I4 q.hi,I4 q.bq,I4 q.ot,I4 te,I4 base,.slice pg L.length cg])<|AE fun be=>Ze (Al L7 #[_,_,_,_,_,_,_,_,_,_,_,_,_,_,_])<|AE fun bo=>A3 Y<|A0<|Zh 0 Ft V rfl C7 Y<|Zo Wh (A9 (cs:=#[_,_,_,_,_,_,_]) Dd C7 Y As AN) ?_;refine Zh 9 Ft V rfl K0 Y<|Zl Lq Y ?_;refine Zc [_,_] Y call69 Y V (Wl hL q hr) ?_;rintro _ _ ⟨_,⟨l8,s0,rfl,h0,rfl⟩,rfl⟩;obtain ⟨p0,c0,rfl⟩:=h0.form;have cO:=DU h0 A1
 refine Zm Y<|Zd Y V<|Zd Y V<|Ze (Al GC #[_,_,_])<|AE fun bs=>Xe (Xw Ax #[.slice p0 r.rows.length c0,I4 r.val,.bool r.fnd]) ?_;refine AG Y<|Zn [1,2,4,6,7] ?_;refine Zx<|Zq<|A0<|Zm Y<|Zv (Br Y)<|Zm Y<|Af (t:=19) Y V (fun X=>by cases X)<|fun X=>Zf Y Y<|Yg (AY Fo Y)<|Yg (DF (n:=64) Y Y)<|Zv (AL Y Y)<|A5<|Aq Y (fun af=>?_) (fun af=>?_);·
  refine A0<|Zv (BM (vs:=[]) (cs:=#[_,_,_,_,_,_,_,_,_,_,_,_,_,_,_]) Y (AZ (pl:=#[(0,7),(7,3),(10,1),(11,1),(12,1),(13,1),(14,1)]) L7 GF (fun _=>by kernel_rfl) rfl))<|Xe (BL HJ Y Y HK Wu (by exact Dw rfl) E6 AH (by exact BB _)) ?_;refine A3 Y<|AJ<|Zt<|Bj V results50 Y Wh (Am Wr HJ Wn (BK V)) Y (by exact .inr ⟨iB A1,V,V⟩)
 refine AC<|Zx<|Zb [1,2,4,6] ?_;refine DJ (e0:=[]) (H0:=[]) (fun e H=>∃(I:Nat) (G:Option Addr) (B:Nat) (s1:List AA) (m:Option Addr) (g:Nat) (s2:List AA),(Bc 9 143 (.slice G L.length B) Z.length (Z.flatMap Ej) s1/\Bc 2 50 (.slice m l.length g) l.length (Du l) s2)/\e=[(8,I5 I)]/\H=[[(I,.cells #[I4 q.kd,I4 q.tb,I4 q.cl,I4 q.lo,I4 q.hi,I4 q.bq,I4 q.ot,.slice none 0 0,I4 0,.bool false,I4 0,I4 (base+(l.length:Int)),I4 base,.slice G L.length B,.slice m l.length g] 55 (0,0))],s1,s2]) Wp ?hx_2 ?hy_2
 case hx_2=>
  refine Az (n:=17) (0::1::0::4::0::16::60::0::128::0::512::1536::0::7680::16383::0::65535::[]) 108544 A6 A6 V<|A2 0 V (AB (off:=0) Ft V rfl C7 Y)<|E7 1 V Wh (A9 (cs:=#[_,_,_,_,_,_,_]) Dd C7 Y As AN) ?_;refine A2 2 V (AB (off:=8) Ft V rfl A4 Y)<|B2 3 V AD Y ?_;refine A2 4 V (AP Y)<|A2 5 V (AY Fo Y) ?_
  (refine Dr (D':=127) 6 (He Y Y (IntWalk.i64_in _ ?_)) ?_;(focus (omega)))
  refine A2 7 V (AB (off:=8) Ft V rfl A4 Y)<|B2 8 V AD Y ?_;refine A2 9 V (AB (off:=9) Ft V rfl K0 Y)<|B2 10 V Lq Y ?_;refine A2 12 V (AP Y)<|Zz (l:=[11,15])<|B1 [false,true,true,true] [(8,(_,_)),(3,(_,_)),(1,(_,_))] V rfl (Zw [_] Y call101 Y V (LM hZ A1)) ?_ Bv ?_;·
   rintro _ _ ⟨_,⟨s1,J,rfl⟩,rfl⟩;refine ⟨Zk (Zk (Zk (Aa))),?_⟩;obtain ⟨G,B,e1⟩:=J.form;rw [U]at e1;subst e1;refine Zz (l:=[13,15])<|B1 [true,true,true] [(8,(_,_)),(3,(_,_)),(1,(_,_))] V rfl (Zw [_] Y call41 Y V (IJ O A1)) ?_ Bv ?_;·
    rintro _ _ ⟨_,⟨s2,h2,rfl⟩,rfl⟩;refine ⟨Zk (Zk (Zk (Aa))),?_⟩;obtain ⟨m,g,rfl⟩:=h2.form;refine A2 14 V (BM (vs:=[(0,.agg q.A59),(3,I4 (base+(l.length:Int))),(4,I4 base),(5,.slice G L.length B),(6,.slice m l.length g)]) (cs:=#[I4 q.kd,I4 q.tb,I4 q.cl,I4 q.lo,I4 q.hi,I4 q.bq,I4 q.ot,.slice none 0 0,I4 0,.bool false,I4 0,I4 (base+(l.length:Int)),I4 base,.slice G L.length B,.slice m l.length g]) Y (AZ (pl:=#[(0,7),(7,3),(10,1),(11,1),(12,1),(13,1),(14,1)]) L7 GF (fun _=>by kernel_rfl) A6))<|Yz 15 0 65535 [8,3,1] [true,true,true] [(8,(_,_)),(3,(_,_)),(1,(_,_))] V Y V rfl V rfl (Al L7 #[_,_,_,_,_,_,_,_,_,_,_,_,_,_,_])<|AE fun I=>B6<|Yw 16 131071 V (Xw HJ #[I4 q.kd,I4 q.tb,I4 q.cl,I4 q.lo,I4 q.hi,I4 q.bq,I4 q.ot,.slice none 0 0,I4 0,.bool false,I4 0,I4 (base+(l.length:Int)),I4 base,.slice G L.length B,.slice m l.length g])<|CT<|Ag<|Zn [8,1,2,4,6] ?_;refine BO (e':=[(8,_)]) (by exact ⟨I,G,B,s1,m,g,s2,⟨J,h2⟩,V,V⟩)
   refine B1 [true,true,true] [(8,(_,_)),(3,(_,_)),(1,(_,_))] V rfl (Al L7 #[_,_,_,_,_,_,_,_,_,_,_,_,_,_,_]) ?_ (fun _ _ h=>h.elim) Ai;rintro _ _ ⟨I,rfl,rfl⟩;refine B6<|Zz (l:=[13])<|B1 [true,true,true] [(8,(_,_)),(3,(_,_)),(1,(_,_))] V rfl (Zw [_] Y call41 Y V (IJ O A1)) ?_ Bv Ai;rintro _ _ ⟨_,⟨s2,h2,rfl⟩,rfl⟩;refine ⟨Zk (Zk (Zk (Aa))),?_⟩;obtain ⟨m,g,rfl⟩:=h2.form;refine A2 14 V (BM (vs:=[(0,.agg q.A59),(3,I4 (base+(l.length:Int))),(4,I4 base),(5,.slice G L.length B),(6,.slice m l.length g)]) (cs:=#[I4 q.kd,I4 q.tb,I4 q.cl,I4 q.lo,I4 q.hi,I4 q.bq,I4 q.ot,.slice none 0 0,I4 0,.bool false,I4 0,I4 (base+(l.length:Int)),I4 base,.slice G L.length B,.slice m l.length g]) Y (AZ (pl:=#[(0,7),(7,3),(10,1),(11,1),(12,1),(13,1),(14,1)]) L7 GF (fun _=>by kernel_rfl) A6))<|Yw 16 131071 V (Xw HJ #[I4 q.kd,I4 q.tb,I4 q.cl,I4 q.lo,I4 q.hi,I4 q.bq,I4 q.ot,.slice none 0 0,I4 0,.bool false,I4 0,I4 (base+(l.length:Int)),I4 base,.slice G L.length B,.slice m l.length g])<|CT<|Ag<|Zn [8,1,2,4,6] ?_;refine BO (e':=[(8,_)]) (by exact ⟨I,G,B,s1,m,g,s2,⟨J,h2⟩,V,V⟩)
  refine B1 [true,true,true,true] [(10,(_,_)),(8,(_,_)),(3,(_,_)),(1,(_,_))] V rfl (Al L7 #[_,_,_,_,_,_,_,_,_,_,_,_,_,_,_]) ?_ (fun _ _ h=>h.elim) Ai;rintro _ _ ⟨I,rfl,rfl⟩;refine B6<|Zz (l:=[11])<|B1 [false,true,true,true] [(8,(_,_)),(3,(_,_)),(1,(_,_))] V rfl (Zw [_] Y call101 Y V (LM hZ A1)) ?_ Bv Ai;rintro _ _ ⟨_,⟨s1,J,rfl⟩,rfl⟩;refine ⟨Zk (Zk (Zk (Aa))),?_⟩;obtain ⟨G,B,e1⟩:=J.form;rw [U]at e1;subst e1;refine Zz (l:=[13])<|B1 [true,true,true] [(8,(_,_)),(3,(_,_)),(1,(_,_))] V rfl (Zw [_] Y call41 Y V (IJ O A1)) ?_ Bv Ai;rintro _ _ ⟨_,⟨s2,h2,rfl⟩,rfl⟩;refine ⟨Zk (Zk (Zk (Aa))),?_⟩;obtain ⟨m,g,rfl⟩:=h2.form;refine A2 14 V (BM (vs:=[(0,.agg q.A59),(3,I4 (base+(l.length:Int))),(4,I4 base),(5,.slice G L.length B),(6,.slice m l.length g)]) (cs:=#[I4 q.kd,I4 q.tb,I4 q.cl,I4 q.lo,I4 q.hi,I4 q.bq,I4 q.ot,.slice none 0 0,I4 0,.bool false,I4 0,I4 (base+(l.length:Int)),I4 base,.slice G L.length B,.slice m l.length g]) Y (AZ (pl:=#[(0,7),(7,3),(10,1),(11,1),(12,1),(13,1),(14,1)]) L7 GF (fun _=>by kernel_rfl) A6))<|Yw 16 131071 V (Xw HJ #[I4 q.kd,I4 q.tb,I4 q.cl,I4 q.lo,I4 q.hi,I4 q.bq,I4 q.ot,.slice none 0 0,I4 0,.bool false,I4 0,I4 (base+(l.length:Int)),I4 base,.slice G L.length B,.slice m l.length g])<|CT<|Ag<|Zn [8,1,2,4,6] ?_;refine BO (e':=[(8,_)]) (by exact ⟨I,G,B,s1,m,g,s2,⟨J,h2⟩,V,V⟩)
 rintro _ _ ⟨I,G,B,s1,m,g,s2,⟨J,h2⟩,rfl,rfl⟩;refine Zq<|A0<|Zh 0 Ft V rfl C7 Y<|Zo Wh (A9 (cs:=#[_,_,_,_,_,_,_]) Dd C7 Y As AN) ?_;refine Zo Wh (A9 (cs:=#[_,_,_]) Bk Ax Y As AN) ?_;refine Zh 8 Ft V rfl A4 Y<|Zl AD Y ?_;refine Zm Y<|Zc [_,_,_,_] Y call70 Y V (Qa q hq base A1 O A1 d9 cO A1 gy) ?_;rintro _ _ ⟨_,⟨l9,s3,rfl,h3,rfl⟩,rfl⟩;obtain ⟨g3,c3,rfl⟩:=h3.form;refine Zm Y<|Zd Y rfl<|Zd Y rfl<|Zd Y rfl<|Zh 7 GF rfl rfl Ax Y<|Xe (BL Ax Y Y HK Wu (by exact (rfl:_=(#[I4 q.kd,I4 q.tb,I4 q.cl,I4 q.lo,I4 q.hi,I4 q.bq,I4 q.ot,.slice g3 (BC q r base l).1.rows.length c3,I4 (BC q r base l).1.val,.bool (BC q r base l).1.fnd,I4 0,I4 (base+(l.length:Int)),I4 base,.slice G L.length B,.slice m l.length g]:Array Value))) E6 As (by exact BB _)) ?_;refine Zh 10 GF V rfl A4 Y<|Xe (Zs A4 Y Y V (hc:=by exact (V:_=(#[I4 q.kd,I4 q.tb,I4 q.cl,I4 q.lo,I4 q.hi,I4 q.bq,I4 q.ot,.slice g3 (BC q r base l).1.rows.length c3,I4 (BC q r base l).1.val,.bool (BC q r base l).1.fnd,I4 (BC q r base l).2.1,I4 (base+(l.length:Int)),I4 base,.slice G L.length B,.slice m l.length g]:Array Value))) (hi:=by(simp;done))) ?_;refine AG Y<|Zn [4,7,8] ?_;refine Zx<|A0<|Zm Y<|Zv (Br Y)<|A5<|AX Y (fun K=>?_) (fun K=>?_);·
  have gm:(BC q r base l).2.2=false:=by simpa using K
  refine A0<|Zv (BM (vs:=[]) (cs:=#[_,_,_,_,_,_,_,_,_,_,_,_,_,_,_]) Y (AZ (pl:=#[(0,7),(7,3),(10,1),(11,1),(12,1),(13,1),(14,1)]) L7 GF (fun _=>by kernel_rfl) rfl))<|Xe (BL HJ Y Y HK Wu (by exact Dw rfl) E6 AH (by exact BB _)) ?_;refine A3 Y<|AJ<|Zt<|Bj rfl results50 Y Wh (Am Wr HJ Wn (BK rfl)) Y (by exact .inr ⟨by rw [QR hr A1,YU gm];rfl,rfl,rfl⟩)
 have bg:(BC q r base l).2.2=true:=by simpa using K
 refine AC<|Zx<|Zq ?_;have bn:∀z∈Z,z.ok M:=fun z hz=>by obtain ⟨i,hi⟩:=GW hz;exact (gB i z hi).1
 have ax:∀x∈l,Ck M (.slice x.q x.cs.length x.cap) x.cs:=fun x hx=>by obtain ⟨i,hi⟩:=GW hx;obtain ⟨_,_,_,_,ek⟩:=O;exact (ek i x hi).1
 have gq:=Lj bg;have gF:=Ex h3
 have cu:=Ma h3;refine Zg<|Zo Wh (A9 (cs:=#[_,_,_,_,_,_,_,_,_,_,_,_,_,_,_]) Wr HJ Y As AN) ?_;refine Xe (BL HJ Y Y HK Wu (by exact Dw rfl) E6 AH (by exact BB _)) ?_;refine A3 Y<|AJ<|Bj rfl results50 Y Wh (Am Wr HJ Wn (BK rfl)) Y (by exact .inl ⟨⟨⟨q,(BC q r base l).1,(BC q r base l).2.1,base+(l.length:Int),base,L,l⟩,g3,c3,G,B,m,g⟩,s3,s1,s2,by rw [QR hr A1,gq];rfl,⟨(DU h3 cu).mono (fun c hc=>Dg _ hc),⟨Z,(WR J A1 bn).mono (fun c hc=>by rcases B9.1 hc with h9|h9;exact G2 _ (Dg _ h9);exact G2 _ (G2 _ (G2 _ h9))),W⟩,Ll (K6 h2 (by show l.length<=maxLen;omega) ax) (fun c hc=>G2 _ (G2 _ hc))⟩,rfl,rfl⟩)
theorem yC(q:QM)(te base:Int)(G:-1000000000000<=base/\base<=1000000000000)(B:Fu M (.slice pg L.length cg) L)(g:L.length<=1000000)(J:Eb q L=some r){l:List BN}(I:EZ M lv l)(m:∀x∈l,x.cs.length<=1000):Ba prog 50 #[.agg #[I4 q.kd,I4 q.tb,I4 q.cl,I4 q.lo,I4 q.hi,I4 q.bq,I4 q.ot,I4 te,I4 base,.slice pg L.length cg],lv] [M] (fun w H'=>∃(z:Jv) (s:List AA) (b:Bool),((b=true/\Jt q base L l=some z.a/\z.ok (s++M))\/(b=false/\Jt q base L l=none))/\w= .tuple #[.agg z.A60,.bool b]/\H'=[s,M]):=by
 refine Gy (uj q te base G B g J I m) V ?_;rintro w H' (⟨z,s3,s1,s2,h1,h2,rfl,rfl⟩|⟨h1,rfl,rfl⟩);· exact ⟨_,⟨z,s3++(s1++s2),true,.inl ⟨rfl,h1,by simpa only [Cd]using h2⟩,rfl,rfl⟩,by simp⟩
 · exact ⟨_,⟨⟨⟨⟨0,0,0,0,0,0,0⟩,CE.none,0,0,0,[],[]⟩,none,0,none,0,none,0⟩,[],false,.inr ⟨rfl,h1⟩,rfl,rfl⟩,by simp⟩
def fl1(c:Chg):Int:=if c.had then 1 else 0
def vs1(c:Chg):List Int:=if c.had then [c.o.a,c.o.b,c.o.c]else []
def fl2(c:Chg):Int:=if c.has then fl1 c+2 else fl1 c
def vs2(c:Chg):List Int:=if c.has then vs1 c++[c.n.a,c.n.b,c.n.c]else vs1 c
def wA(c:Chg):List UInt8:=Hw [c.t,c.k,fl2 c]++Hw (vs2 c)
def rS(p:Int)(cs:List Chg):List UInt8:=Hw [p,(cs.length:Int)]++cs.flatMap wA
variable{cs:List Chg}
theorem EJ.mem{p:Int}(h:EJ p cs):∀c∈cs,c.ok:=fun c hc=>by
 obtain ⟨i,hi⟩:=GW hc;exact h.all i c hi
theorem Mc{g:Nat}{cur:Array Value}{z:Nat×Nat}(h:Bc sz e (I6 g n cap) n xs [(g,.cells cur e z)]){j:Nat}{u:Value}(G:xs[j]?=some u):cur[j]?=some u:=by
 obtain ⟨U,⟨m,_⟩|⟨K,I,J,W,m,h2,_,_,_,B,_⟩⟩:=h;· cases m
 · injection m with m _ h3
   injection h2 with h2 _
   injection h2 with h4 h5
   injection h5 with h5 _ _
   subst h5;have O:=(BE.1 G).1
   rw [<-B,HC,AM A1]at G;simpa using G
theorem iZ(h:Bc sz e (.slice p n cap) n xs s)(h0:0<n):∃g cur z,p=some ⟨g,0,none⟩/\s=[(g,.cells cur e z)]/\Ih z cur.size/\cur.size=cap*sz/\n<=cap/\cap<=maxLen:=by
 obtain ⟨O,⟨m,h2,_⟩|⟨g,B,cur,z,m,rfl,h2,G,I,K,J⟩⟩:=h;· omega
 · injection m with m _ h7
   subst h7;exact ⟨g,cur,z,m,V,J,I,h2,G⟩
theorem gY(h:Ck M (.slice p n cap) cs):FN M p (Cj cs):=by
 obtain ⟨B,g,e,_,m⟩:=h;injection e with e1 e2 e3
 subst e1;exact Nw _ 10 (fun _=>rfl) AH fun i z hz=>m i z hz
theorem bX{ls:List Bs}(h:EN M (.slice p n cap) ls):FN M p (ls.map GH):=by
 obtain ⟨G,m,e,_,B⟩:=h;injection e with e1 e2 e3
 subst e1;intro j u g;rw [DO]at g;cases hs:ls[j]?with
 |none=>rw [hs]at g;cases g
 |some s=>rw [hs]at g;injection g with g;subst g;exact B j s hs
theorem og(ls:List Bs):∀u∈ls.map GH,u.oneCell'=true:=by
 intro u g;obtain ⟨z,_,rfl⟩:=Bm.1 g;rfl
variable{ps:List (List Bs)}
theorem dZ(h:MV M (.slice p n cap) ps):∃m,Ju M m ps/\FN M p m/\∀u∈m,u.oneCell'=true:=by
 obtain ⟨p',af,e,_,hg⟩:=h;injection e with e1 e2 e3
 subst e1;have key:∀k,k<=ps.length->∃m:List Value,m.length=k/\∀(i:Nat) (l:List Bs),i<k->ps[i]?=some l->∃q c,m[i]?=some (.slice q l.length c)/\EN M (.slice q l.length c) l/\∃g off cur T zz,p=some ⟨g,off,none⟩/\(g,Obj.cells cur T zz)∈M/\cur[off+i]?=some (.slice q l.length c):=by
  intro k;induction k with
  |zero=>intro _;exact ⟨[],rfl,fun i l h=>absurd h (cX i)⟩
  |succ k ih=>
   intro hk;obtain ⟨m,O,h2⟩:=ih A1;obtain ⟨l,G⟩:∃l,ps[k]?=some l:=⟨_,B3 A1⟩;obtain ⟨q,c,I,W⟩:=hg k l G;refine ⟨m++[.slice q l.length c],by rw [B7,O];rfl,fun i l' hi B=>?_⟩;rcases E0 i k with U|U
   · obtain ⟨q',c',X,Z⟩:=h2 i l' U B
     exact ⟨q',c',by rw [cC A1];exact X,Z⟩
   · obtain rfl:i=k:=by omega
     rw [G]at B;injection B with B;subst B
     exact ⟨q,c,by rw [SM A1,O];simp,I,W⟩
 obtain ⟨m,O,h2⟩:=key ps.length (CM _);refine ⟨m,⟨O,fun i v l hv G=>?_⟩,fun j u J=>?_,fun u J=>?_⟩
 · obtain ⟨q,c,I,W,_⟩:=h2 i l (BE.1 G).1 G
   rw [I]at hv;injection hv with hv;subst hv;exact W
 · have K:=(BE.1 J).1
   obtain ⟨l,G⟩:∃l,ps[j]?=some l:=⟨_,B3 A1⟩;obtain ⟨q,c,I,_,g,off,cur,T,zz,U,X,Z⟩:=h2 j l A1 G;rw [I]at J;injection J with J;subst J
   exact ⟨g,off,cur,T,zz,U,X,Z⟩
 · obtain ⟨j,K⟩:=GW J
   have ax:=(BE.1 K).1;obtain ⟨l,G⟩:∃l,ps[j]?=some l:=⟨_,B3 A1⟩;obtain ⟨q,c,I,_⟩:=h2 j l A1 G;rw [I]at K;injection K with K;subst K;rfl
def RP.fits(x:RP):Prop:=x.rows.length<=1000000/\x.paths.length<=1000000/\x.roots.length<=1000000/\∀l∈x.paths,l.length<=1000000
theorem WS(Z:List RPZ):(Z.flatMap Ej).length=Z.length*9:=by
 induction Z with
 |nil=>rfl
 |cons a l ih=>rw [HL,B7,ih];show 9+_=_;rw [DG];omega
variable{i:Nat}
theorem bI{A B:List RPZ}{z:RPZ}(g:A.length=i)(k:Nat)(m:k<9):((A++z::B).flatMap Ej)[i*9+k]?=(Ej z)[k]?:=by
 rw [N6,HL,SM (by rw [WS];omega),WS,g,show i*9+k -i*9=k by omega,cC m]
theorem yw{A B:List RPZ}{z:RPZ}(G:A.length=i)(a b c:Option Addr)(g m c':Nat):
 ((((A++z::B).flatMap Ej).set (i*9+6) (.slice a z.x.rows.length g)).set (i*9+8) (.slice b z.x.roots.length m)).set (i*9+7) (.slice c z.x.paths.length c')=(A++[(⟨z.x,a,g,c,c',b,m⟩:RPZ)]++B).flatMap Ej:=by
 have e:∀(l:List Value) (k:Nat) (v:Value),(A.flatMap Ej++l).set (i*9+k) v=A.flatMap Ej++l.set k v:=fun l k v=>by
  rw [ki _ _ (by rw [WS];omega),WS,G,show i*9+k -i*9=k by omega]
 rw [Cd,N6,N6,HL,e,e,e];rfl
theorem Uh(hv:Ck M v cs)(Z:cs.length<=1000000):Ba prog 89 #[v] [M] (fun r H'=>∃K,Bc 10 62 r cs.length (Cj cs) K/\H'=[K,M]):=by
 have W:=mL;have B:=hv
 obtain ⟨p,cap,rfl,hl,U⟩:=id hv;replace B:=gY B;refine Se func89 ntmps89 [0] ?_;intro u R;refine A0<|A3 Y<|Zq<|A0<|Zm Y<|Zv (Dq G1 Y Y)<|A5<|AX Y (fun J=>?_) (fun J=>?_);·
  have G:p=none:=by cases p with
   |none=>rfl
   |some x=>cases J
  have h0:cs=[]:=by
   cases cs with
   |nil=>rfl
   |cons x l=>obtain ⟨g,off,cur,T,zz,I,_⟩:=U 0 x rfl;rw [G]at I;cases I
  refine Zq<|BU<|Zg<|A3 Y<|AJ<|Zt<|AO rfl results89 Y (by exact ⟨[],by rw [h0];exact Bf 10 _,rfl⟩)
 refine AC<|Zx<|A0<|Ze (EP G1 C1)<|AE fun O=>Zm Y<|Ze (Hl (by_:=80) (sz:=10) G1 (V:Tryz.prog.info? 62=some Tryz.t62) V rfl V rfl Y (IW 10 62 O 0 [] V AH) Y (B) (by exact G9 _) AH Wo Wo (by exact PR _) A1 A1) ?_;rintro _ _ ⟨X,m,rfl⟩;replace m:=BS m (D0 _) (LN _);refine A3 Y<|AJ<|AO V results89 Y (by exact ⟨_,m,V⟩)
theorem NF{ls:List Bs}(hv:EN M v ls)(Z:ls.length<=1000000):Ba prog 116 #[v] [M] (fun r H'=>∃K,Bc 1 9 r ls.length (ls.map GH) K/\H'=[K,M]):=by
 have W:=mL;have B:=hv
 obtain ⟨p,cap,rfl,hl,U⟩:=id hv;replace B:=bX B;refine Se func116 ntmps116 [0] ?_;intro u R;refine A0<|A3 Y<|Zq<|A0<|Zm Y<|Zv (Dq D2 Y Y)<|A5<|AX Y (fun J=>?_) (fun J=>?_);·
  have G:p=none:=by cases p with
   |none=>rfl
   |some x=>cases J
  have h0:ls=[]:=by
   cases ls with
   |nil=>rfl
   |cons x l=>obtain ⟨g,off,cur,T,zz,I,_⟩:=U 0 x rfl;rw [G]at I;cases I
  refine Zq<|BU<|Zg<|A3 Y<|AJ<|Zt<|AO rfl results116 Y (by exact ⟨[],by rw [h0];exact Bf 1 _,rfl⟩)
 refine AC<|Zx<|A0<|Ze (EP D2 Fi)<|AE fun O=>Zm Y<|Ze (Hl (by_:=16) (sz:=1) D2 (V:Tryz.prog.info? 9=some Tryz.t9) V rfl V rfl Y (IW 1 9 O 0 [] V AH) Y (B) (by(rw [B4,N2])) AH Wo Wo (by exact og _) A1 A1) ?_;rintro _ _ ⟨X,m,rfl⟩;replace m:=BS m (D0 _) (LN _);refine A3 Y<|AJ<|AO V results116 Y (by exact ⟨_,m,V⟩)
theorem Sn(hv:MV M v ps)(hb:ps.length<=1000000):Ba prog 117 #[v] [M] (fun r H'=>∃X B,Ju M B ps/\Bc 1 45 r ps.length B X/\H'=[X,M]):=by
 have ax:=mL;have G:=hv
 obtain ⟨p,cap,rfl,⟨hl,af⟩,hg⟩:=id hv;obtain ⟨B,J,G,I⟩:=dZ G;have O:=J.1
 refine Se func117 ntmps117 [0] ?_;intro u R;refine A0<|A3 Y<|Zq<|A0<|Zm Y<|Zv (Dq Hs Y Y)<|A5<|AX Y (fun W=>?_) (fun W=>?_);·
  have K:p=none:=by cases p with
   |none=>rfl
   |some x=>cases W
  have h0:ps=[]:=by
   cases ps with
   |nil=>rfl
   |cons x l=>obtain ⟨_,_,_,g,off,cur,T,zz,U,_⟩:=hg 0 x rfl;rw [K]at U;cases U
  refine Zq<|BU<|Zg<|A3 Y<|AJ<|Zt<|AO rfl results117 Y (by exact ⟨[],[],by rw [h0];exact Q6 _,by rw [h0];exact Bf 1 _,rfl⟩)
 refine AC<|Zx<|A0<|Ze (EP Hs HB)<|AE fun Z=>Zm Y<|Ze (Hl (by_:=24) (sz:=1) Hs (V:Tryz.prog.info? 45=some Tryz.t45) V rfl V rfl Y (IW 1 45 Z 0 [] V AH) Y (G) (by(rw [N2];exact O)) AH Wo Wo I A1 A1) ?_;rintro _ _ ⟨bg,m,rfl⟩;replace m:=BS m (D0 _) (LN _);refine A3 Y<|AJ<|AO V results117 Y (by exact ⟨_,B,J,m,V⟩)
theorem df{I:List AA}{m:List Value}{k:Nat}{O:Value}{K:List Bs}(h:∀(j:Nat) (v:Value) (l:List Bs),m[j]?=some v->ps[j]?=some l->if j<k then EN I v l else EN M v l)(X:m.length=ps.length)(Z:k<ps.length)(W:ps[k]?=some K)(U:EN s O K):
 ∀(j:Nat) (v:Value) (l:List Bs),(m.set k O)[j]?=some v->ps[j]?=some l->if j<k+1 then EN (s++I) v l else EN M v l:=by
 intro j v l hv g;rw [Sf]at hv;by_cases J:k=j
 · subst J
   rw [AM rfl,AM A1]at hv;injection hv with hv
   rw [W]at g;injection g with g
   subst hv g;rw [AM A1];exact U.mono fun c hc=>Dg _ hc
 · rw [AK J]at hv
   have G:=h j v l hv g;by_cases B:j<k
   · rw [AM B]at G
     rw [AM A1];exact G.mono fun c hc=>G2 _ hc
   · rw [AK B]at G
     rw [AK A1];exact G
theorem nN{α:Type}{l:List α}{x:α}(h:l[i]?=some x):l.drop i=x::l.drop (i+1):=by
 obtain ⟨g,h2⟩:=BE.1 h;rw [RK g,h2]
theorem Qk(p:Int)(hv:Ck M v cs)(I:cs.length<=1000000):Ba prog 40 #[.agg #[I4 p,v]] [M] (fun r H'=>∃q cap s,r= .agg #[I4 p,.slice q cs.length cap]/\Ck s (.slice q cs.length cap) cs/\H'=[s,M]):=by
 have K:=mL;obtain ⟨O,g,rfl,J,_⟩:=id hv;refine Se func40 ntmps40 [0] ?_;intro u R;refine A0<|Ze (Bx #[I4 p,.slice O cs.length g])<|AE fun W=>Ze (Al Sx #[_,_])<|AE fun U=>A5<|A0<|Zh 1 G3 V rfl IH Y<|Zl LL Y ?_;refine Zc [_] Y call89 Y V (Uh hv I) ?_;rintro _ _ ⟨_,⟨s1,G,rfl⟩,rfl⟩;obtain ⟨B,m,rfl⟩:=G.form;refine Zh 1 G3 V rfl IH Y<|Xe (Zs IH Y Y V (hi:=by(simp;done))) ?_;refine A5<|A0<|Zo Wh (A9 (cs:=#[I4 p,.slice B cs.length m]) HX F0 Y As (by exact BK V)) ?_;refine Xe (BL F0 Y Y HK Wu (by exact Dw rfl) E6 AH (by exact BB _)) ?_;refine A5<|AJ<|Cu V results40 Y Wh (Am HX F0 Wn (BK V)) (by exact ⟨B,m,s1,V,QQ G A1,V⟩)
set_option maxHeartbeats 1000000 in
theorem Ql(q:QM)(te base:Int)(hL:Fu M (.slice pg L.length cg) L)(sO:L.length<=1000000)(ic:∀x∈L,x.fits):Ba prog 71 #[.agg #[I4 q.kd,I4 q.tb,I4 q.cl,I4 q.lo,I4 q.hi,I4 q.bq,I4 q.ot,I4 te,I4 base,.slice pg L.length cg]] [M] (fun r H'=>∃pz cz s,r= .agg #[I4 q.kd,I4 q.tb,I4 q.cl,I4 q.lo,I4 q.hi,I4 q.bq,I4 q.ot,I4 te,I4 base,.slice pz L.length cz]/\Fu s (.slice pz L.length cz) L/\H'=[s,M]):=by
 have wz:=mL;obtain ⟨Z,hZ,cu⟩:=id hL;have gF:Z.length=L.length:=by rw [<-cu,B4]
 obtain ⟨p9,sw,e9,_,qw⟩:=id hZ;injection e9 with e91 e92 e93
 subst e91 e93;have lw:∀(i:Nat) (z:RPZ),Z[i]?=some z->z.ok M/\z.x.fits:=fun i z hz=>⟨(qw i z hz).1,ic _ (by rw [<-cu];exact DP (DE hz))⟩
 refine Se func71 ntmps71 [0] ?_;intro u R;refine A0<|Ze (Bx #[I4 q.kd,I4 q.tb,I4 q.cl,I4 q.lo,I4 q.hi,I4 q.bq,I4 q.ot,I4 te,I4 base,.slice pg L.length cg])<|AE fun be=>Ze (Ea al (cs:=#[I4 0,I4 0,I4 0,I4 0,I4 0,I4 0,I4 0,I4 0,I4 0,.slice none 0 0]) A6)<|AE fun bo=>A5<|A0<|Zh 9 Ft V rfl K0 Y<|Zl Lq Y ?_;refine Zc [_] Y call101 Y V (LM hZ A1) ?_;rintro _ _ ⟨_,⟨s1,h1,rfl⟩,rfl⟩;obtain ⟨pz,cz,rfl⟩:=h1.form;refine Zh 9 Ft V rfl K0 Y<|Xe (Zs K0 Y Y V (hi:=by(simp;done))) ?_;refine A5<|Zq<|Zq<|BU<|Zg<|Zh 9 Ft V rfl K0 Y<|Zl Lq Y ?_;refine Zv (AY N4 Y)<|Zm Y<|A5<|AR<|Zb [13,1,2,12] ?_;refine BA (e0:=[(13,_)]) (fun m e H=>∃(i:Nat) (W:List RPZ) (sz MM:List AA),m=Z.length -i/\((i<=Z.length/\W.length=i)/\Bc 9 143 (.slice pz Z.length cz) Z.length ((W++Z.drop i).flatMap Ej) sz/\(∀z∈W,z.ok MM)/\W.map RPZ.x=(Z.take i).map RPZ.x)/\e=[(13,I4 (i:Int))]/\H=[sz,MM]) (by exact ⟨0,[],s1,[],V,⟨⟨C0 _,V⟩,h1,fun z hz=>absurd hz B0,V⟩,V,V⟩) Wp ?_;rintro _ _ _ ⟨i,W,sz,MM,rfl,⟨⟨hi,K⟩,G,af,ek⟩,rfl,rfl⟩;refine Zq<|BU<|Zg<|Zv (Au Y Y)<|A5<|Zq<|Aq Y (fun qo=>?_) (fun qo=>?_);·
  obtain ⟨z,hz⟩:∃z,Z[i]?=some z:=⟨_,B3 A1⟩;obtain ⟨⟨qy,qx,qz⟩,vw,o8,o9,p8⟩:=lw i z hz;rw [nN hz]at G;obtain ⟨g,cur,zz,rfl,rfl,cO,vo,wo,ve⟩:=iZ G A1;have vz:i*9+9<=cur.size:=by omega
  have pq:=Mc G (bI (B:=Z.drop (i+1)) K 6 AH);have q9:=Mc G (bI (B:=Z.drop (i+1)) K 7 AH)
  have qa:=Mc G (bI (B:=Z.drop (i+1)) K 8 AH);refine AC<|Zx<|Zq<|AR<|Zq<|BU<|Zg<|Zm Y<|A3 Y<|A0<|Zh 9 Ft V rfl K0 Y<|Zl Lq Y ?_;refine Zm Y<|Bb (Ac N4 Hv Y Y A1)<|A3 Y<|Zq<|Az (n:=27) (0::0::0::0::8::24::56::120::0::256::768::1792::4088::0::8192::24576::57344::131064::262137::524281::1048569::2097147::4194299::8388603::16777215::33554431::67108863::[]) 76681344 A6 A6 rfl<|A2 0 rfl (AP Y)<|A2 1 rfl (AP Y)<|A2 2 rfl (AP Y)<|A2 3 rfl (AP Y)<|A2 4 rfl (Ap Y rfl)<|A2 5 rfl (Ar (off:=6) C4 rfl rfl C6 Y)<|B2 6 rfl F1 Y (hv:=by exact (by rw [D0];exact pq)) ?_;refine A2 8 rfl (AP Y)<|A2 9 rfl (Ap Y rfl)<|A2 10 rfl (Ar (off:=8) C4 rfl rfl HB Y)<|B2 11 rfl Hc Y (hv:=by exact (by rw [D0];exact qa)) ?_;refine A2 13 rfl (AP Y)<|A2 14 rfl (Ap Y rfl)<|A2 15 rfl (Ar (off:=7) C4 rfl rfl HU Y)<|B2 16 rfl V1 Y (hv:=by exact (by rw [D0];exact q9)) ?_;refine Zz (l:=[7])<|B1 [true,true,false] [(16,(_,_)),(11,(_,_))] V rfl (Zw [_] Y call90 Y V (Gj qy A1)) ?_ Bv Ai;rintro _ _ ⟨_,⟨sr,l5,rfl⟩,rfl⟩;refine ⟨Zk (Zk (Aa)),?_⟩;obtain ⟨qr,cr,rfl⟩:=l5.form;refine Zz (l:=[12])<|B1 [true,false] [(16,(_,_))] V rfl (Zw [_] Y call116 Y V (NF qz o9)) ?_ Bv Ai;rintro _ _ ⟨_,⟨st,l8,rfl⟩,rfl⟩;refine ⟨Zk (Aa),?_⟩;obtain ⟨qt,ct,rfl⟩:=l8.form;refine Zz (l:=[17])<|B1 [false] [] V rfl (Zw [_] Y call117 Y V (Sn qx o8)) ?_ Bv Ai;rintro _ _ ⟨_,⟨sj,r9,ax,bg,rfl⟩,rfl⟩;refine ⟨Aa,?_⟩;obtain ⟨qp,cp,rfl⟩:=bg.form;refine A2 18 V (Ap Y V)<|A2 19 V (Ar (off:=6) C4 V rfl C6 Y)<|Zz (l:=[20])<|B1 [] [] V rfl (Zs C6 Y Y V (hi:=by omega) (hz:=by exact cO)) ?_ (fun _ _ h=>h.elim) Ai;rintro _ _ ⟨rfl,rfl⟩;refine B6<|A2 21 V (Ap Y V)<|A2 22 V (Ar (off:=8) C4 V rfl HB Y)<|Zz (l:=[23])<|B1 [] [] V rfl (Zs HB Y Y V (hi:=by(simp;omega)) (hz:=by(simp only [SO];exact cO))) ?_ (fun _ _ h=>h.elim) Ai;rintro _ _ ⟨rfl,rfl⟩
  refine B6<|A2 24 V (Ap Y V)<|A2 25 V (Ar (off:=7) C4 V rfl HU Y)<|Zz (l:=[26])<|B1 [] [] V rfl (Zs HU Y Y V (hi:=by(simp;omega)) (hz:=by(simp only [SO];exact cO))) ?_ (fun _ _ h=>h.elim) Ai;rintro _ _ ⟨rfl,rfl⟩;refine B6<|Ag<|Zn [1,2,4,12,13] ?_;refine Zx<|Zq ?_;have h7:(((cur.setIfInBounds (0+i*9+6) (.slice qr z.x.rows.length cr)).setIfInBounds (0+i*9+8) (.slice qt z.x.roots.length ct)).setIfInBounds (0+i*9+7) (.slice qp z.x.paths.length cp))[0+i*9+7]?=some (.slice qp z.x.paths.length cp):=by
   rw [gE,AM rfl,AM (by simp only [SO];omega)]
  obtain ⟨gy,I⟩:∃c,c=(((cur.setIfInBounds (0+i*9+6) (.slice qr z.x.rows.length cr)).setIfInBounds (0+i*9+8) (.slice qt z.x.roots.length ct)).setIfInBounds (0+i*9+7) (.slice qp z.x.paths.length cp)):=⟨_,rfl⟩;rw [<-I]at h7⊢;refine Zg<|Zm Y<|Zp Y V<|Zv (Ar (off:=7) C4 V rfl HU Y)<|Zl V1 Y (hv:=by exact h7) ?_;refine Zv (AY Hs Y)<|Zm Y<|A5<|AR<|BU<|Zb [49,1,2,4,12,13,48] ?_;refine BA (e0:=[(49,_)]) (fun m e H=>∃(k:Nat) (O:List Value) (sp U:List AA),m=z.x.paths.length -k/\((k<=z.x.paths.length/\O.length=z.x.paths.length)/\Bc 1 45 (.slice qp z.x.paths.length cp) z.x.paths.length O sp/\(∀(j:Nat) (v:Value) (l:List Bs),O[j]?=some v->z.x.paths[j]?=some l->if j<k then EN U v l else EN M v l))/\e=[(49,I4 (k:Int))]/\H=[sp,U]) (by exact ⟨0,r9,sj,[],rfl,⟨⟨C0 _,ax.1⟩,bg,fun j v l hv hl=>by rw [AK (cX j)];exact ax.2 j v l hv hl⟩,rfl,rfl⟩) Wp ?_;rintro _ _ _ ⟨k,O,sp,U,rfl,⟨⟨hk,gm⟩,X,gq⟩,rfl,rfl⟩;refine A0<|Zv (Au Y Y)<|A5<|Zq<|Aq Y (fun d9=>?_) (fun d9=>?_);·
   obtain ⟨l,hl⟩:∃l,z.x.paths[k]?=some l:=⟨_,B3 d9⟩;have qj:=p8 l (DE hl)
   obtain ⟨v0,l9⟩:∃v,O[k]?=some v:=⟨_,B3 A1⟩;obtain ⟨gp,gB,zp,rfl,rfl,j3,sJ,sM,sF⟩:=iZ X A1;have qb:=Mc X l9
   have bn:=gq k v0 l l9 hl;rw [AK (Nat.lt_irrefl k)]at bn;refine AC<|Zx<|Zq<|AR<|A0<|Zm Y<|A3 Y<|Az (n:=15) (0::1::3::7::0::0::32::96::224::0::992::2016::4064::8191::16383::[]) 20480 A6 A6 V<|A2 0 V (AP Y)<|A2 1 V (Ap Y V)<|A2 2 V (Ar (off:=7) C4 V rfl HU Y)<|B2 3 V V1 Y (hv:=by exact h7) ?_;refine A2 4 V (AP Y)<|A2 5 V (AP Y)<|A2 6 V (Ap Y V)<|A2 7 V (Ar (off:=7) C4 V rfl HU Y)<|B2 8 V V1 Y (hv:=by exact h7) ?_;refine A2 9 rfl (AP Y)<|A2 10 rfl (BV Hs HB Y Y (by first|omega|(simp;omega)))<|B2 11 rfl Hc Y (hv:=by exact (by exact qb)) ?_;refine Zz (l:=[12])<|B1 [false,false,true] [(3,(_,_))] V rfl (Zw [_] Y call116 Y V (NF bn qj)) ?_ Bv Ai;rintro _ _ ⟨_,⟨sl,kv,rfl⟩,rfl⟩;refine ⟨Zk (Aa),?_⟩;obtain ⟨ql,cl,rfl⟩:=kv.form;refine A2 13 rfl (BV Hs HB Y Y (by first|omega|(simp;omega)))<|Yw 14 32767 rfl (Zs HB Y Y rfl (hi:=by omega) (hz:=by exact j3))<|CT<|Ag<|Zn [1,2,4,12,13,48,49] ?_;refine A8<|Zx<|CK (s1:=sl) (s2:=U) Wo Wo ?_;refine Zg<|Ya (n:=1) Y Y<|Zm Y<|Z0<|Zn [49,1,2,4,12,13,48] ?_;refine Ab (e':=[(49,_)]) (by exact ⟨k+1,O.set k (.slice ql l.length cl),[(gp,.cells (gB.setIfInBounds k (.slice ql l.length cl)) 45 zp)],sl++U,rfl,⟨⟨by omega,by rw [cW];exact gm⟩,Og X k _,df gq gm d9 hl (Gg kv A1)⟩,rfl,rfl⟩)
  obtain rfl:k=z.x.paths.length:=by omega
  refine Ay<|Zt<|Zt<|AU<|A8<|Zx<|CK (s1:=U) (s2:=st) Wo Wo ?_;refine CK (s1:=sp) (s2:=(U++st)) Wo Wo ?_;refine CK (s1:=sr) (s2:=(sp++(U++st))) Wo Wo ?_;refine CK (s1:=(sr++(sp++(U++st)))) (s2:=MM) Wo Wo ?_;have j5:RPZ.ok (sr++(sp++(U++st))) ⟨z.x,qr,cr,qp,cp,qt,ct⟩:=⟨(DU l5 A1).mono (fun c hc=>Dg _ hc),(VV X ⟨gm,fun j v l hv hl=>by
   have h9:=gq j v l hv hl;rwa [AM (BE.1 hl).1]at h9⟩ A1).mono (fun c hc=>by rcases B9.1 hc with h9|h9<;>simp [h9]),(Gg l8 A1).mono (fun c hc=>by simp [hc])⟩
  have J:=Og (Og (Og G (i*9+6) (.slice qr z.x.rows.length cr)) (i*9+8) (.slice qt z.x.roots.length ct)) (i*9+7) (.slice qp z.x.paths.length cp);rw [yw K]at J;simp only [D0]at I;rw [<-I]at J;refine Zg<|Ya (n:=1) Y Y<|Zm Y<|Z0<|Zn [13,1,2,12] ?_;refine Ab (e':=[(13,_)]) (by
   exact ⟨i+1,W++[⟨z.x,qr,cr,qp,cp,qt,ct⟩],[(g,.cells gy 143 zz)],sr++(sp++(U++st))++MM,rfl,⟨⟨by omega,by rw [B7,K];rfl⟩,J,fun y hy=>by
    rcases B9.1 hy with hy|hy
    · exact (af y hy).mono (fun c hc=>G2 _ hc)
    · rw [BT.1 hy];exact j5.mono (fun c hc=>Dg _ hc),by rw [BW,ek,Bi hz,BW];rfl⟩,rfl,rfl⟩)
 obtain rfl:i=Z.length:=by omega
 refine Ay<|Zt<|Zt<|AU<|Zx<|Zq ?_;rw [show W++Z.drop Z.length=W by rw [ie,DB]]at G;rw [GB]at ek;refine CK (s1:=sz) (s2:=MM) Wo Wo ?_;refine Zg<|Zo Wh (A9 (cs:=#[I4 q.kd,I4 q.tb,I4 q.cl,I4 q.lo,I4 q.hi,I4 q.bq,I4 q.ot,I4 te,I4 base,.slice pz Z.length cz]) SJ HA Y As (by exact BK V)) ?_;refine Xe (BL HA Y Y HK Wu (by exact Dw rfl) E6 AH (by exact BB _)) ?_;refine A5<|AJ<|Cu rfl results71 Y Wh (Am SJ HA Wn (BK rfl)) (by exact ⟨pz,cz,sz++MM,by rw [gF],⟨W,WR (by rw [K,<-gF];exact G) A1 af,by rw [ek];exact cu⟩,rfl⟩)
structure Ei(qs:List (Int×QM))(es:Array MapEntry)(ck:Nat)(lm:List (Int×Value)):Prop where
 map:Co (fun n:Int=>Value.int .i64 n) es ck lm
 mem:∀p,p∈lm↔∃x∈qs,p=(x.1,(.agg #[I4 x.2.kd,I4 x.2.tb,I4 x.2.cl,I4 x.2.lo,I4 x.2.hi,I4 x.2.bq,I4 x.2.ot]:Value))
 ids:(qs.map (·.1)).Nodup
theorem OL{β:Type}(p:β×Value)(k:β)(v v0:Value){A:Prop}:(p=(k,v)\/((p=(k,v0)\/(A/\p.1≠k))/\p.1≠k))↔(p=(k,v)\/(A/\p.1≠k)):=by
 constructor
 · rintro (h|⟨h|⟨h,_⟩,hn⟩)
   · exact .inl h
   · exact absurd (by rw [h]) hn
   · exact .inr ⟨h,hn⟩
 · rintro (h|⟨h,hn⟩)
   · exact .inl h
   · exact .inr ⟨.inr ⟨h,hn⟩,hn⟩
theorem mU:Ei [] #[] 0 []:=⟨EU _,fun p=>by simp,lr⟩
theorem Ei.none{qs:List (Int×QM)}{es:Array MapEntry}{ck:Nat}{lm:List (Int×Value)}(h:Ei qs es ck lm){id:Int}(hn:∀x∈qs,x.1≠id):EI id lm=none:=DW fun p g=>by
 obtain ⟨x,hx,rfl⟩:=(h.mem p).1 g;exact hn x hx
variable{qs:List (Int×QM)}{es:Array MapEntry}{ck:Nat}{lm:List (Int×Value)}
theorem Ei.get(h:Ei qs es ck lm){x:Int×QM}(hx:x∈qs):EI x.1 lm=some (.agg #[I4 x.2.kd,I4 x.2.tb,I4 x.2.cl,I4 x.2.lo,I4 x.2.hi,I4 x.2.bq,I4 x.2.ot]:Value):=Cy h.map.keys ((h.mem _).2 ⟨x,hx,rfl⟩)
theorem Ei.len(h:Ei qs es ck lm):lm.length=qs.length:=by
 have m:(lm.map (·.1)).Perm (qs.map (·.1)):=(RE h.map.keys h.ids).2 fun a=>by
  constructor
  · intro g
    obtain ⟨p,B,rfl⟩:=Bm.1 g;obtain ⟨x,hx,rfl⟩:=(h.mem p).1 B;exact DP hx
  · intro g
    obtain ⟨x,hx,rfl⟩:=Bm.1 g;exact Bm.2 ⟨_,(h.mem _).2 ⟨x,hx,V⟩,V⟩
 have:=m.length_eq;simpa using this
theorem mW(h:Ei qs es ck lm){id:Int}(hn:∀x∈qs,x.1≠id){B:Array MapEntry}{m:Nat}{g:List (Int×Value)}(J:Co (fun n:Int=>Value.int .i64 n) B m g)
 (K:∀p,p∈g↔p=(id,(.agg q.A59:Value))\/(p∈lm/\p.1≠id)):Ei (qs++[(id,q)]) B m g:=by
 refine ⟨J,fun p=>?_,?_⟩
 · rw [K,h.mem]
   constructor
   · rintro (rfl|⟨⟨x,hx,rfl⟩,_⟩)
     · exact ⟨(id,q),by simp,rfl⟩
     · exact ⟨x,Dg _ hx,rfl⟩
   · rintro ⟨x,hx,rfl⟩
     rcases B9.1 hx with hx|hx
     · exact .inr ⟨⟨x,hx,rfl⟩,hn x hx⟩
     · rw [BT.1 hx];exact .inl rfl
 · rw [BW,H3]
   refine ⟨h.ids,by simp,fun a G b I=>?_⟩;obtain ⟨x,hx,rfl⟩:=Bm.1 G;obtain rfl:=BT.1 I;exact hn x hx
theorem mV(h:Ei qs es ck lm)(id:Int){B:Array MapEntry}{m:Nat}{g:List (Int×Value)}(I:Co (fun n:Int=>Value.int .i64 n) B m g)(J:∀p,p∈g↔p∈lm/\p.1≠id):Ei (qs.filter fun x=>x.1≠id) B m g:=by
 refine ⟨I,fun p=>?_,(h.ids.sublist ((TX).map _))⟩;rw [J,h.mem];constructor
 · rintro ⟨⟨x,hx,rfl⟩,hn⟩
   exact ⟨x,FA.2 ⟨hx,by simpa using hn⟩,V⟩
 · rintro ⟨x,hx,rfl⟩
   obtain ⟨G,h2⟩:=FA.1 hx;exact ⟨⟨x,G,V⟩,by simpa using h2⟩
theorem jd:Ba prog 31 #[] [] (fun r H'=>∃g mq,r=I5 g/\H'=[[(g,.cells #[.map (some mq),.pointer none] 163 (0,0))],[(mq,.map #[] 0)]]):=by
 refine Se func31 ntmps31 [] ?_;intro u R;refine A0<|A3 Y<|A0<|Ze (DT)<|AE fun mq=>Zv (BM (vs:=[(0,_)]) (cs:=#[_,_]) Y (AZ (pl:=#[(0,1),(1,1)]) zeroValue163 Q1 (fun _=>by kernel_rfl) V))<|Ze (Bx #[_,_])<|AE fun g=>A3 Y<|AJ<|AO V results31 Y (by exact ⟨g,mq,V,V⟩)
theorem WT{I mq:Nat}(g:Ei qs es ck lm){x:Int×QM}(hx:x∈qs):Ba prog 78 #[I5 I,I4 x.1] [[(I,.cells #[.map (some mq),lv] 163 (0,0))],[(mq,.map es ck)]] (fun r H'=>∃B m W,r= .bool true/\Ei (qs.filter fun y=>y.1≠x.1) B m W/\H'=[[(I,.cells #[.map (some mq),.pointer none] 163 (0,0))],[(mq,.map B m)]]):=by
 have Z:=g.get hx;refine Se func78 ntmps78 [0,1] ?_;intro u R;refine A0<|A3 Y<|Zq<|A0<|Zm Y<|Zv (Be underlying104 Y Y)<|A5<|AX Y (fun G=>by cases G)<|fun G=>AC<|Zx<|A0<|Zm Y<|Zp Y rfl<|Zh 0 Q1 rfl rfl du Y<|Zl cS Y<|Zm Y<|Zo Wh (EB (Cc C5 (D:=fun _=>True)) db Mn g.map (fun _ _=>trivial) (trivial) (⟨by rw [Z];first|done|rfl,by rw [Z];first|done|rfl⟩) Y Y)<|Zm Y<|Zd Y rfl<|Zd Y rfl<|Ze (Al Mn #[_,_,_,_,_,_,_])<|AE fun b1=>Xe (Xw C7 _)<|AG Y<|Zn [0,1,6] ?_;refine Zx<|A0<|Zm Y<|Zp Y V<|Zh 0 Q1 V rfl du Y<|Zl cS Y<|Zm Y<|Ze (LV (Cc C5 (D:=fun _=>True)) db g.map (fun _ _=>trivial) (trivial) Y Y Wo) ?_;rintro _ _ ⟨rfl,K,J,X,O,U,rfl⟩;refine A5<|A0<|Zm Y<|Zp Y V<|Zh 1 Q1 V rfl an Y<|Xe (Zs an Y Y V)<|A5<|A0<|Zm Y<|A3 Y<|AJ<|AO V results78 Y (by exact ⟨K,J,X,V,mV g _ O U,V⟩)
theorem je{J mq:Nat}(g:Ei qs es ck lm){id:Int}(I:∀x∈qs,x.1≠id)(hq:BJ q)(hl:qs.length<500):Ba prog 79 #[I5 J,I4 id,(.agg q.A59:Value)] [[(J,.cells #[.map (some mq),lv] 163 (0,0))],[(mq,.map es ck)]] (fun r H'=>∃B m bn,r=I4 0/\Ei (qs++[(id,q)]) B m bn/\H'=[[(J,.cells #[.map (some mq),.pointer none] 163 (0,0))],[(mq,.map B m)]]):=by
 have W:=g.none I;have ek:=g.len
 refine Se func79 ntmps79 [0,1,2] ?_;intro u R;refine A0<|Ze (Bx #[_,_,_,_,_,_,_])<|AE fun b1=>A3 Y<|Zq<|A0<|Zm Y<|Zv (Be underlying104 Y Y)<|A5<|AX Y (fun G=>by cases G)<|fun G=>AC<|Zx<|Zq<|A0<|Zm Y<|Zp Y rfl<|Zh 0 Q1 rfl rfl du Y<|Zl cS Y<|Zm Y<|Zo Wh (EB (Cc C5 (D:=fun _=>True)) db Mn g.map (fun _ _=>trivial) (trivial) (⟨by rw [W];first|done|rfl,by rw [W];first|done|rfl⟩) Y Y)<|Zm Y<|Zd Y rfl<|Zd Y rfl<|Ze (Al Mn #[_,_,_,_,_,_,_])<|AE fun b2=>Xe (Xw C7 _)<|AG Y<|Zn [0,1,5,8] ?_;refine Zx<|A0<|Zm Y<|Zm Y<|Af (t:=21) Y V (fun g1=>by cases g1)<|fun g1=>Dx Y Wh (Pa #[_,_,_,_,_,_,_] Dd C7 Y) V rfl<|Xr [_] Y call22 Y V (Jd q) ?_;rw [Cp hq];refine Yg (Br Y)<|Zv (AL Y Y)<|Zm Y<|Af (t:=26) Y V (fun g2=>by cases g2)<|fun g2=>Zf Y Y<|Yg (Ap Y V)<|Yf 0 Q1 V rfl du Y<|Yl cS Y<|Dx Y Wh (QD db g.map Y) V rfl<|Yg (G6 (n:=500) Y Y)<|Zv (AL Y Y)<|Z0<|Zn [0,1,5,33] ?_;refine Zx<|Aq Y (fun h8=>by omega)<|fun h8=>AC<|Zx<|Zq<|Az (n:=13) (0::1::3::7::0::0::0::31::159::479::1023::2047::4095::[]) 4736 A6 A6 rfl<|A2 0 rfl (AP Y)<|A2 1 rfl (Ap Y rfl)<|A2 2 rfl (AB (off:=0) Q1 rfl rfl du Y)<|B2 3 rfl cS Y<|A2 4 rfl (AP Y)<|A2 5 rfl (AP Y)<|E7 6 rfl Wh (Pa #[_,_,_,_,_,_,_] Dd C7 Y)<|Yz 7 31 255 [6,3] [true,false] [(6,(_,_))] rfl Y rfl rfl rfl rfl (KX (Cc C5 (D:=fun _=>True)) db Mn g.map (fun _ _=>trivial) (trivial) (by rw [W];first|done|rfl) Y Y Wo) ?_;rintro _ _ ⟨d9,cO,gm,j3,gq,rfl,Z,X,U,ax,rfl⟩;refine B6<|A2 8 V (Bz Y V)<|Zz (l:=[9])<|B1 [false] [] V rfl (Iy Z X U Y Y Y Wo) ?_ (fun _ _ h=>h.elim) Ai;rintro _ _ ⟨rfl,O,K,cu,af,bg,rfl⟩;refine B6<|A2 10 V (Ap Y V)<|A2 11 V (AB (off:=1) Q1 V rfl an Y)<|Zz (l:=[12])<|B1 [] [] V rfl (Zs an Y Y V) ?_ (fun _ _ h=>h.elim) Ai;rintro _ _ ⟨rfl,rfl⟩;refine B6<|Ag<|Zn [] ?_;refine Zx<|A0<|A3 Y<|AJ<|AO rfl results79 Y (by exact ⟨O,K,cu,rfl,mW g I af (fun p=>by rw [bg,ax];exact OL _ _ _ _),rfl⟩)
structure IvM where
 lo:Int
 hi:Int
 rc:Int
 id:Int
deriving Inhabited
def UH(M:List AA)(v:Value)(l:List IvM):Prop:=∃p cap,v= .slice p l.length cap/\(l.length<=maxLen/\l.length<=cap)/\∀(i:Nat) (x:IvM),l[i]?=some x->∃g off cur T zz,p=some ⟨g,off,none⟩/\(g,Obj.cells cur T zz)∈M/\off+i*4+4<=cur.size/\cur.extract (off+i*4) (off+i*4+4)=#[I4 x.lo,I4 x.hi,I4 x.rc,I4 x.id]
variable{l:List IvM}
theorem UH.mono(h:UH M v l)(J:∀c∈M,c∈M'):UH M' v l:=by
 obtain ⟨p,cap,e,I,G⟩:=h;refine ⟨p,cap,e,I,fun i x hx=>?_⟩;obtain ⟨g,off,cur,T,zz,m,h2,B⟩:=G i x hx;exact ⟨g,off,cur,T,zz,m,J _ h2,B⟩
theorem UH.take(h:UH M (.slice p l.length cap) l){k:Nat}(B:k<=l.length):UH M (.slice p k cap) (l.take k):=by
 obtain ⟨I,g,e,G,m⟩:=h;injection e with e1 e2 e3
 subst e1 e3;refine ⟨p,cap,by rw [C3,Pc B],by rw [C3];omega,fun i x hx=>m i x ?_⟩;rw [HC]at hx;split at hx;· exact hx
 · cases hx
def gU(a b:Int):Int:=if a<b then-1 else if b<a then 1 else 0
theorem ag(a b:Int):gU a b<0↔a<b:=by
 unfold gU;split;· exact ⟨fun _=>by assumption,fun _=>by decide⟩
 · split
   · exact ⟨fun h=>absurd h AH,fun h=>by omega⟩
   · exact ⟨fun h=>absurd h AH,fun h=>by omega⟩
theorem OO{α:Type}(p:α->Bool):∀{l:List α} {e:Nat},e<=l.length->(∀(k:Nat) (x:α),k<e->l[k]?=some x->p x=true)->(∀(k:Nat) (x:α),e<=k->l[k]?=some x->p x=false)->l.takeWhile p=l.take e
 |[],e,_,_,_=>by simp
 |x::l,0,_,_,h2=>by rw [PA,AK (by rw [h2 0 x (CM _) rfl];decide),ID]
 |x::l,e+1,he,h1,h2=>by
  rw [PA,AM (h1 0 x A1 rfl),kn,OO p (by simpa using he) (fun k y g hy=>h1 (k+1) y A1 hy) (fun k y g hy=>h2 (k+1) y A1 hy)]
def Ir(v:Int)(l:List IvM):List Int:=(((l.takeWhile fun x=>decide (x.lo<=v)).reverse.takeWhile fun x=>decide (v<=x.rc)).filter fun x=>decide (v<=x.hi)).map (·.id)
def NI(v:Int)(l:List (Nat×IvM)):List Int:=((l.map (·.2)).filter fun x=>decide (v<=x.hi)).map (·.id)
theorem Sm(v:Int)(l:List (Nat×IvM))(x:Nat×IvM):NI v (l++[x])=NI v l++(if v<=x.2.hi then [x.2.id]else []):=by
 unfold NI;rw [BW,Hi,BW];congr 1;by_cases h:v<=x.2.hi;· rw [AM h];simp [h]
 · rw [AK h];simp [h]
theorem NE{α:Type}(p:α->Bool):∀{l:List α},(∀x∈l,p x=true)->l.takeWhile p=l
 |[],_=>rfl
 |x::l,h=>by rw [PA,AM (h x (E4 ..)),NE p fun y hy=>h y (EV _ hy)]
theorem LY{α:Type}(p:α->Bool){x:α}(hx:p x=false)(m:List α):∀{l:List α},(∀y∈l,p y=true)->(l++x::m).takeWhile p=l
 |[],_=>by rw [LN,PA,AK (by rw [hx];decide)]
 |y::l,h=>by rw [PJ,PA,AM (h y (E4 ..)),LY p hx m fun z hz=>h z (EV _ hz)]
theorem uW{v:Int}{e:Nat}(g:l.takeWhile (fun x=>decide (x.lo<=v))=l.take e)(h:∀y∈bwd (l.take e),v<=y.2.rc):NI v (bwd (l.take e))=Ir v l:=by
 unfold NI Ir;rw [g,Mt,NE];intro x hx;rw [<-Mt]at hx;obtain ⟨y,hy,rfl⟩:=Bm.1 hx;exact Cp (h y hy)
theorem nS{v:Int}{e:Nat}(B:l.takeWhile (fun x=>decide (x.lo<=v))=l.take e){pre g:List (Nat×IvM)}{x:Nat×IvM}(m:bwd (l.take e)=pre++x::g)(h:∀y∈pre,v<=y.2.rc)(hx:x.2.rc<v):NI v pre=Ir v l:=by
 unfold NI Ir;rw [B,<-Mt,m,BW,DQ,LY _ (by simpa using hx)];intro z hz;obtain ⟨y,hy,rfl⟩:=Bm.1 hz;exact Cp (h y hy)
theorem gT{v:Int}{e:Nat}(K:l.takeWhile (fun x=>decide (x.lo<=v))=l.take e){pre g:List (Nat×IvM)}{x:Nat×IvM}(J:bwd (l.take e)=pre++x::g)(h:∀y∈pre++[x],v<=y.2.rc)(hx:v<=x.2.hi):∃m,Ir v l=NI v pre++x.2.id::m:=by
 unfold NI Ir;have I:∀{A:List IvM} {B:List IvM},(∀y∈A,decide (v<=y.rc)=true)->∃C,(A++B).takeWhile (fun x=>decide (v<=x.rc))=A++C:=fun{A B} hA=>by
  induction A with
  |nil=>exact ⟨_,rfl⟩
  |cons a A ih=>
   obtain ⟨C,G⟩:=ih fun y hy=>hA y (EV _ hy);exact ⟨C,by rw [PJ,PA,AM (hA a (E4 ..)),G,PJ]⟩
 rw [K,<-Mt,J,show pre++x::g=(pre++[x])++g by simp,BW];obtain ⟨C,G⟩:=I (A:=(pre++[x]).map Prod.snd) (B:=g.map Prod.snd) fun z hz=>by
  obtain ⟨y,hy,rfl⟩:=Bm.1 hz;exact Cp (h y hy)
 rw [G,BW,Hi,Hi,BW,BW];refine ⟨(C.filter fun x=>decide (v<=x.hi)).map (·.id),?_⟩;simp [hx]
theorem TW(x:Int):BH prog 242 #[I4 x] [] (.bool false):=by
 refine Se func242 ntmps242 [0] ?_;intro u R;refine A0<|A3 Y<|A0<|Zm Y<|Zm Y<|Zv (GG Y Y)<|A3 Y<|AJ<|AO V results242 Y (by exact ⟨by simp,V⟩)
theorem Xg(a b:Int):BH prog 193 #[I4 a,I4 b] [] (I4 (gU a b)):=by
 refine Se func193 ntmps193 [0,1] ?_;intro u R;refine A0<|A3 Y<|A0<|Zm Y<|Xr [_] Y call242 Y V (TW _)<|A3 Y<|A0<|Zm Y<|Xr [_] Y call242 Y V (TW _)<|A3 Y<|Zq<|A0<|Zm Y<|A5<|AX Y (fun g=>by cases g)<|fun g=>AC<|Zx<|Zq<|A0<|Zm Y<|A5<|AX Y (fun h2=>by cases h2)<|fun h2=>AC<|Zx<|Zq<|A0<|Zm Y<|Zm Y<|Zv (Dv Y Y)<|A5<|Aq Y (fun m=>?_) (fun m=>?_);·
  refine A0<|AG Y<|Zn [4] ?_;refine Zx<|AJ<|Zt<|AO V results193 Y (by exact ⟨by unfold gU;simp [*],V⟩)
 refine AC<|Zx<|Zq<|A0<|Zm Y<|Zm Y<|Zv (Ev Y Y)<|Z0<|Zn [19] ?_;refine Zx<|Aq Y (fun B=>?_) (fun B=>?_);·
  refine A0<|A3 Y<|AJ<|Zt<|AO V results193 Y (by exact ⟨by unfold gU;simp [*],V⟩)
 refine AC<|Zx<|A0<|A3 Y<|AJ<|AO V results193 Y (by exact ⟨by unfold gU;simp [*],V⟩)
theorem Z8(x:IvM)(t:Int):BH prog 216 #[.agg #[I4 x.lo,I4 x.hi,I4 x.rc,I4 x.id],I4 t] [] (I4 (gU x.lo t)):=by
 refine Se func216 ntmps216 [0,1] ?_;intro u R;refine A0<|Ze (Bx #[_,_,_,_])<|AE fun g=>A3 Y<|A0<|Zh 0 WD V rfl A4 Y<|Zl AD Y<|Zm Y<|Xr [_,_] Y call193 Y V (Xg _ _)<|A3 Y<|AJ<|AO V results216 Y (by exact ⟨V,V⟩)
theorem Xk(hv:UH M v l)(hn:l.length<=1000000)(hs:l.Pairwise fun a b=>a.lo<=b.lo)(t:Int):Ba prog 215 #[v,I4 t,.func (.func 216) #[] #[]] [M] (fun r H'=>∃(e:Nat) (b:Bool),r= .tuple #[I4 (e:Int),.bool b]/\e<=l.length/\(∀(k:Nat) (x:IvM),k<e->l[k]?=some x->x.lo<t)/\(∀(k:Nat) (x:IvM),e<=k->l[k]?=some x->t<=x.lo)/\H'=[M]):=by
 have bg:=mL;obtain ⟨p,cap,rfl,⟨hl,ax⟩,hg⟩:=id hv;have G:∀(i j:Nat) (x y:IvM),i<=j->l[i]?=some x->l[j]?=some y->x.lo<=y.lo:=fun i j x y X hx hy=>by
  rcases E0 i j with h|h
  · obtain ⟨h1,rfl⟩:=BE.1 hx
    obtain ⟨h2,rfl⟩:=BE.1 hy;exact eL.1 hs i j h1 h2 h
  · obtain rfl:i=j:=by omega
    rw [hx]at hy;injection hy with hy;rw [hy];exact ZS _
 refine Se func215 ntmps215 [0,1,2] ?_;intro u R;refine A0<|Za Y<|A3 Y<|A0<|Zm Y<|Zv (AY fL Y)<|A3 Y<|A0<|Zm Y<|Za Y<|A3 Y<|Zq<|AR<|Zb [9,10,0,1,2,8] ?_;refine BA (e0:=[(9,_),(10,_)]) (fun m e H=>∃(i j:Nat),m=j -i/\((i<=j/\j<=l.length)/\(∀(k:Nat) (x:IvM),k<i->l[k]?=some x->x.lo<t)/\(∀(k:Nat) (x:IvM),j<=k->l[k]?=some x->t<=x.lo))/\e=[(9,I4 (i:Int)),(10,I4 (j:Int))]/\H=[]) (by exact ⟨0,l.length,rfl,⟨⟨C0 _,CM _⟩,fun k x h=>absurd h (cX k),fun k x h hx=>by rw [Lz h]at hx;cases hx⟩,rfl,rfl⟩) Wp ?_;rintro _ _ _ ⟨i,j,rfl,⟨⟨X,O⟩,J,I⟩,rfl,rfl⟩;refine Zq<|A0<|Zm Y<|Zm Y<|Zv (Au Y Y)<|A5<|Aq Y (fun Z=>?_) (fun Z=>?_);·
  refine AC<|Zx<|AR<|A0<|Zm Y<|Zm Y<|Ya Y Y ?_;refine Bb (Ls C5 W5 Y A1)<|Bb (Q8 (n:=1) Y Y (by first|decide|(simp [IntKind.bits];done)|(simp [IntKind.bits];omega)))<|Bb (TF W5 C5 Y A1)<|A3 Y<|Zq ?_;obtain ⟨h,hh⟩:∃h,h=(i+j)/2^1:=⟨_,rfl⟩;rw [<-hh];have af:i<=h/\h<j:=by rw [hh];omega
  obtain ⟨x,hx⟩:∃x,l[h]?=some x:=⟨_,B3 A1⟩;obtain ⟨g,off,cur,T,zz,rfl,K,U,B⟩:=hg _ _ hx;refine Zg<|Zm Y<|Zm Y<|Zm Y<|Bb (Ac fL ON Y Y A1)<|CS (I1 Wo (K)) (A9 (cs:=#[_,_,_,_]) isAgg269 ON Y A1 B) V rfl<|Zm Y<|Xr [_,_] Y call216 Y V (Z8 x t)<|Zv (Dv Y Y)<|Z0<|Zn [0,1,2,8,9,10,11,31] ?_;refine Zx<|Aq Y (fun W=>?_) (fun W=>?_);·
   refine Zg<|Zm Y<|Ya (n:=1) Y Y<|AG Y<|A8<|Zn [9,10,0,1,2,8] ?_;refine Ab (e':=[(9,_),(10,_)]) (by exact ⟨h+1,j,V,⟨⟨by omega,by omega⟩,fun k y hk hy=>by have:=G k h y x A1 hy hx;have:=(ag _ _).1 W;omega,I⟩,V,V⟩)
  refine Zg<|Zm Y<|AG Y<|A8<|Zn [9,10,0,1,2,8] ?_;refine Ab (e':=[(9,_),(10,_)]) (by exact ⟨i,h,V,⟨⟨by omega,by omega⟩,J,fun k y hk hy=>by have:=G h k x y hk hx hy;have:=mt (ag x.lo t).2 W;omega⟩,V,V⟩)
 obtain rfl:i=j:=by omega
 refine Ay<|Zt<|Zt<|AU<|Zx<|A0<|Zm Y<|Zm Y<|Zm Y<|Zv (Au Y Y)<|Zm Y<|Aj (t:=39) Y V (fun h5=>?_) (fun h5=>?_);·
  obtain ⟨x,hx⟩:∃x,l[i]?=some x:=⟨_,B3 A1⟩;obtain ⟨g,off,cur,T,zz,rfl,K,U,B⟩:=hg _ _ hx;refine Zf Y Y<|Zf Y Y<|Zf Y Y<|Gu Y (Ac fL ON Y Y A1) V rfl ?_;refine Lu Y (I1 Wo (K)) (A9 (cs:=#[_,_,_,_]) isAgg269 ON Y A1 B) V rfl ?_;refine Zf Y Y<|Xr [_,_] Y call216 Y V (Z8 x t)<|Yg (CP Y Y)<|Zv (AQ Y Y)<|Za Y<|AG Y<|Zn [6,7] ?_;refine Zx<|AJ<|Cv V results215 Y Y (by exact ⟨i,_,V,O,J,I,V⟩)
 refine A7 Y V<|A7 Y V<|A7 Y V<|A7 Y V<|A7 Y V<|A7 Y V<|A7 Y V<|A7 Y V<|Zv (AL Y Y)<|Za Y<|AG Y<|Zn [6,7] ?_;refine Zx<|AJ<|Cv V results215 Y Y (by exact ⟨i,_,V,O,J,I,V⟩)
theorem bA(p:Option Addr)(n c:Nat):Ba prog 217 #[.slice p n c] [] (fun r H'=>∃b,r= .func (.func 250) #[] #[I5 b]/\H'=[[(b,.cells #[.slice p n c] 270 (0,0))]]):=by
 refine Se func217 ntmps217 [0] ?_;intro u R;refine A0<|Ze (Bx #[_])<|AE fun b=>A3 Y<|A0<|Zv (Bg (vs:=[]) (us:=[_]) Y Y)<|A3 Y<|AJ<|AO V results217 Y (by exact ⟨_,V,V⟩)
theorem bB{ls:List IvM}(hv:UH M v ls)(b:Nat)(hn:ls.length<=1000000):N7 prog 250 #[I5 b] [[(b,.cells #[v] 270 (0,0))]] (fun s=>∀c∈M,c∈s) (fun x:Nat×IvM=>#[I4 ((x.1:Nat):Int),.agg #[I4 x.2.lo,I4 x.2.hi,I4 x.2.rc,I4 x.2.id]]) (bwd ls):=by
 have bg:=mL;obtain ⟨p,cap,rfl,hl,hg⟩:=hv;intro l J Jx hA hy s B;refine Se func250 ntmps250 [0,1] ?_;intro u R;refine A0<|Zl isAgg270 Y ?_;refine Zv (AY fL Y) ?_
 (refine Bb (GL Y Y (IntWalk.i64_in _ ?_)) ?_;(focus (omega)))
 refine A3 Y<|AR<|Zb [3,0,1] ?_;refine BA (e0:=[(3,_)]) (fun m e H=>∃(k:Nat) (s:List AA),m=0+k/\(k<=ls.length/\J ((bwd ls).take (ls.length -k)) s)/\e=[(3,I4 ((k:Int) -1))]/\H=[[(b,.cells #[.slice p ls.length cap] 270 (0,0))],s]) (by exact ⟨ls.length,s,rfl,⟨CM _,by rw [W4,ID];exact B⟩,rfl,rfl⟩) Wp ?_;rintro _ _ _ ⟨k,s,rfl,⟨hk,B⟩,rfl,rfl⟩;refine Zq<|A0<|Zm Y<|Zv (Ha Y Y)<|A5<|Aq Y (fun X=>?_) (fun X=>?_);·
  obtain ⟨m,rfl⟩:∃m,k=m+1:=⟨k -1,by omega⟩;rw [show(((m+1:Nat):Int) -1)=((m:Nat):Int) by omega];obtain ⟨z9,O⟩:∃z9,ls[m]?=some z9:=⟨_,B3 A1⟩;have I:=iA O
  obtain ⟨g,o,cur,T,zz,rfl,hm,ax,K⟩:=hg m z9 O;have Z:=hy _ _ _ s (OT I) B
  refine AC<|Zx<|Zq<|AR<|A0<|Zm Y<|Zm Y<|Zl isAgg270 Y ?_;refine Zm Y<|Bb (Ac fL ON Y Y A1)<|CS (I1 Wo (hA _ s B _ hm)) (A9 (cs:=#[_,_,_,_]) isAgg269 ON Y A1 K) V rfl ?_;refine Ze (GZ (vs:=[_,_]) Y Y (Z) Wp) ?_;rintro _ _ ⟨_,⟨s',rfl,af⟩,rfl⟩;rcases af with⟨rfl,U⟩|⟨rfl,hJx⟩
  ·
   refine Zv (Br Y)<|A5<|AX Y (fun G=>by cases G)<|fun G=>AC<|A8<|Zx<|Zg<|Zm Y ?_
   (refine Bb (GL Y Y (IntWalk.i64_in _ ?_)) ?_;(focus (omega)))
   refine AG Y<|Zn [3,0,1] ?_;refine Ab (e':=[(3,_)]) (by exact ⟨m,s',rfl,⟨by omega,by rw [show ls.length -m=ls.length -(m+1)+1 by omega,Bi I];exact U⟩,rfl,rfl⟩)
  refine Zv (Br Y)<|A5<|AX Y (fun G=>?_) (fun G=>?_);·
   refine AJ<|Ad<|Zt<|Zt<|Ad ?_;refine Cw V results250 (by exact ⟨s',V,.inr ⟨_,hJx⟩⟩)
  cases G
 have W:k=0:=by omega
 subst W;rw [Sh,I2 (by rw [Xj];exact CM _)]at B;refine Ay<|Zt<|Zt<|AU<|Cw V results250 (by exact ⟨s,V,.inl B⟩)
theorem Xf(hv:UH M lv l)(hn:l.length<=1000000)(hs:l.Pairwise fun a b=>a.lo<=b.lo)(v:Int)(gF:-1000000000000<=v/\v<=1000000000000)(bl W:Nat):FC prog 214 #[I5 bl,I5 W] [[(bl,.cells #[lv] 270 (0,0))],[(W,.cells #[I4 v] 3 (0,0))]] (fun s=>∀c∈M,c∈s) (fun i:Int=>#[I4 i]) (Ir v l):=by
 have gB:=mL;obtain ⟨p,cap,rfl,⟨hl,gy⟩,hg⟩:=id hv;intro ly J hA hy s B;refine DL func214 V ntmps214 V ?_;intro u R;refine Zb [0,1,2] ?_;refine A0<|Ze (Bx #[_])<|AE fun by_=>A5<|A0<|Zl isAgg270 Y ?_;refine Zl AD Y ?_;refine Yi Y Y<|Zc [_,_,_] Y call215 Y V (Xk (hv.mono (hA _ s B)) hn hs (v+1)) ?_;rintro _ _ ⟨_,⟨e,fb,rfl,O,bg,bn,rfl⟩,rfl⟩;have K:l.takeWhile (fun x=>decide (x.lo<=v))=l.take e:=OO _ O (fun k x hk hx=>Cp (by have:=bg k x hk hx;omega)) (fun k x hk hx=>CN (by have:=bn k x hk hx;omega))
 refine Zm Y<|Zd Y V<|Zd Y V<|Za Y<|A3 Y<|A0<|Zl isAgg270 Y ?_;refine Zm Y<|Bb (Bq fL ON Y Y A1)<|Zc [_] Y call217 Y V (bA _ _ _) ?_;rintro _ _ ⟨_,⟨bb,rfl,rfl⟩,rfl⟩;refine Z0<|Zn [2,3,18] ?_;refine Zx<|AR<|Zb [2,3,18] ?_;refine Xo (Ix:=(fun(_:List (Nat×IvM)) H=>∃s,J (Ir v l) s/\H=[[(W,.cells #[I4 v] 3 (0,0))],[(by_,.cells #[.func (.yield ly) #[] #[]] 100 (0,0))],s])) (H0:=_) (R:=_) (I:=(fun(pre:List (Nat×IvM)) H=>∃s,(J (NI v pre) s/\∀y∈pre,v<=y.2.rc)/\H=[[(W,.cells #[I4 v] 3 (0,0))],[(by_,.cells #[.func (.yield ly) #[] #[]] 100 (0,0))],s])) (E:=fun x e Hn=>∃Z,e=[(7,I5 Z),(20,.agg #[I4 x.2.lo,I4 x.2.hi,I4 x.2.rc,I4 x.2.id]),(19,I4 ((x.1:Nat):Int))]/\Hn=[[(Z,.cells #[I4 x.2.lo,I4 x.2.hi,I4 x.2.rc,I4 x.2.id] 269 (0,0))]]) rfl Y call250 (bB (hv.take O) bb (by rw [C3];omega)) (by rintro pre _ c d ⟨s,X,rfl⟩;intro q hq;have:=hA _ s X.1 q hq;simp [this]) Y rfl Wp (⟨s,⟨B,fun y hy=>by simp at hy⟩,rfl⟩) ?ha_2 ?hbd_2 ?hk_2 ?hkx_2
 case ha_2=>
  intro _ x _ _;refine Zg<|Ze (Al zeroValue269 #[_,_,_,_])<|AE fun b2=>Xe (Xw ON _) ?_;refine Z0<|Lv (e:=[(7,_),(20,_),(19,_)]) (Hn:=[[(_,_)]]) ?_;exact ⟨_,V,V⟩
 case hbd_2=>
  intro l pre x ek u e9 gq H1 R1 r9 U hI af;obtain ⟨Z,rfl,rfl⟩:=af;obtain ⟨s,⟨B,m⟩,rfl⟩:=hI;refine AR<|Zq<|A0<|Zh 2 WD V rfl A4 Y<|Zl AD Y ?_;refine Zl AD Y ?_;refine Zv (Dv Y Y)<|A5<|Aq Y (fun X=>?_) (fun X=>?_);·
   refine AJ<|Zt<|Ad ?_;refine lL rfl (by exact ⟨s,by rw [<-nS K U m X];exact B,rfl⟩)
  have g:∀y∈pre++[x],v<=y.2.rc:=fun y hy=>(B9.1 hy).elim (m y) (fun h=>by rw [BT.1 h];omega);refine AC<|Zx<|A0<|Zh 1 WD V rfl A4 Y<|Zl AD Y ?_;refine Zl AD Y ?_;refine Zv (Ha Y Y)<|Zm Y<|Aj (t:=29) Y V (fun h2=>?_) (fun h2=>?_);·
   obtain ⟨d9,cu⟩:=gT K U g h2;have cO:=hy _ _ _ s cu B
   refine Yl isAgg100 Y ?_;refine Yf 3 WD V rfl A4 Y<|Yl AD Y ?_;refine Ze (GZ (vs:=[_]) Y Y (cO) Wp) ?_;rintro _ _ ⟨_,⟨s',rfl,rfl,ax⟩,rfl⟩;refine Yg (Br Y)<|Zv (AQ Y Y)<|Z0<|Zn [35] ?_;refine Zx<|AX Y (fun hb=>by cases hb)<|fun hb=>AC<|A8<|Vg rfl (by exact ⟨s',⟨by rw [Sm,AM h2];exact ax,g⟩,rfl⟩)
  refine A7 Y V<|A7 Y V<|A7 Y V<|A7 Y V<|A7 Y V<|Zv (AL Y Y)<|Z0<|Zn [35] ?_;refine Zx<|DI Y<|AC<|A8<|Vg rfl (by exact ⟨s,⟨by rw [Sm,AK h2,DB];exact B,g⟩,rfl⟩)
 case hk_2=>
  intro D1 H2 G;obtain ⟨s,⟨B,m⟩,rfl⟩:=G;rw [uW K m]at B;refine Zn [] ?_;refine A8<|GN V (zQ results214) Wo (by exact ⟨s,V,B⟩)
 intro D1 gm H2 G;obtain ⟨s,B,rfl⟩:=G;refine Ad ?_;refine GN V (zQ results214) Wo (by exact ⟨s,V,B⟩)
end Go.Proofs.YtfhjaegddfehhaaGreatDoor
