/- slices.Clone of proofs and records; proof.Build. -/
import Derived.Test.YtelliknjeemfoaaGreatDoorPy3
set_option linter.unusedVariables false
set_option linter.unusedSimpArgs false
namespace Go.Proofs.YtelliknjeemfoaaGreatDoor
open Go.Proofs.Tryz
open Go Go.RowKit Gw
set_option maxRecDepth 100000
attribute [local irreducible] Gw.At Gw.Nx Gw.Ops
variable{M:List A8}{p:B8}
theorem Ng{α:Type}(f:α->List A2)(sz:Nat)(W:∀a,(f a).length=sz)(h0:0<sz){l:List α}(X:∀(i:Nat) (a:α),l[i]?=some a->∃g off cur T zz,p=some ⟨g,off,none⟩/\(g,Obj.cells cur T zz)∈M/\off+i*sz+sz<=cur.size/\cur.extract (off+i*sz) (off+i*sz+sz)=(f a).toArray):FL M p (l.flatMap f):=by
 intro j u J;have B:(l.flatMap f).length=l.length*sz:=by
  clear X J;induction l with
  |nil=>simp
  |cons a l ih=>rw [IH,C2,ih,W,EV,N0];omega
 have m:=(C6.1 J).1;rw [B]at m;have hd:=Nat.div_add_mod j sz
 have Z:=hY j h0;have hi:j/sz<l.length:=py (by rw [oS];exact m)
 obtain ⟨a,U⟩:∃a,l[j/sz]?=some a:=⟨_,BE hi⟩;obtain ⟨g,off,cur,T,zz,rfl,G,K,I⟩:=X (j/sz) a U;refine ⟨g,off,cur,T,zz,V,G,?_⟩;have h1:=Ov I K (j%sz) Z
 have h2:=Io f sz W l (j/sz) a U;have e1:j/sz*sz+j%sz=j:=by rw [oS];exact hd
 have O:(l.flatMap f)[j/sz*sz+j%sz]?=(f a)[j%sz]?:=by rw [<-h2,HU,B0 Z,S2]
 rw [e1,J]at O;rw [show off+j=off+j/sz*sz+j%sz by omega,h1,kc];exact O.symm
variable{cap n:Nat}
theorem jW{Z:List RPZ}(h:ZsU M (.slice p n cap) Z):FL M p (Z.flatMap Em):=by
 obtain ⟨B,g,e,_,m⟩:=h;injection e with e1 e2 e3
 subst e1;exact Ng _ 9 (fun _=>rfl) An fun i z hz=>(m i z hz).2
theorem dF{l:List BJ}(h:EQ M (.slice p n cap) l):FL M p (Dy l):=by
 obtain ⟨B,g,e,_,m⟩:=h;injection e with e1 e2 e3
 subst e1;exact Ng _ 2 (fun _=>rfl) An fun i z hz=>(m i z hz).2
theorem UF(l:List BJ):(Dy l).length=l.length*2:=by
 induction l with
 |nil=>rfl
 |cons a l ih=>unfold Dy at*;rw [IH,C2,ih];simp only [EV,Mp];omega
theorem Ww(l:List BJ):∀u∈Dy l,u.oneCell'=true:=by
 intro u g;obtain ⟨z,_,h⟩:=T6.1 g;simp only [Dg,T0,Sf]at h;rcases h with rfl|rfl<;>rfl
structure az where
 q:QM
 res:C8
 since:Int
 until_:Int
 base:Int
 ranges:List RP
 recs:List BJ
structure Nw where
 a:az
 rp:B8
 rc:Nat
 gp:B8
 gc:Nat
 cp:B8
 cc:Nat
abbrev Nw.A90(c:Nw):Array Go.Value:=#[I0 c.a.q.kd,I0 c.a.q.tb,I0 c.a.q.cl,I0 c.a.q.lo,I0 c.a.q.hi,I0 c.a.q.bq,I0 c.a.q.ot,.slice c.rp c.a.res.rows.length c.rc,I0 c.a.res.val,.bool c.a.res.fnd,I0 c.a.since,I0 c.a.until_,I0 c.a.base,.slice c.gp c.a.ranges.length c.gc,.slice c.cp c.a.recs.length c.cc]
def Nw.ok(M:List A8)(z:Nw):Prop:=DV M (.slice z.rp z.a.res.rows.length z.rc) z.a.res.rows/\Ex M (.slice z.gp z.a.ranges.length z.gc) z.a.ranges/\EQ M (.slice z.cp z.a.recs.length z.cc) z.a.recs
variable{M':List A8}{v:A2}
theorem Lb{l:List BJ}(h:EQ M v l)(K:∀c∈M,c∈M'):EQ M' v l:=by
 obtain ⟨p,cap,e,U,O⟩:=h;refine ⟨p,cap,e,U,fun i r W=>?_⟩;obtain ⟨⟨X,cap2,e2,J,I⟩,g,off,cur,T,zz,m,B,G⟩:=O i r W;refine ⟨⟨X,cap2,e2,J,fun j c hc=>?_⟩,g,off,cur,T,zz,m,K _ B,G⟩;obtain ⟨g,off,cur,T,zz,m,B,G⟩:=I j c hc;exact ⟨g,off,cur,T,zz,m,K _ B,G⟩
theorem Nw.ok.mono{z:Nw}(h:z.ok M)(g:∀c∈M,c∈M'):z.ok M':=⟨h.1.mono g,h.2.1.mono g,Lb h.2.2 g⟩
noncomputable def Jo(q:QM)(base:Int)(L:List RP)(recs:List BJ):Option az:=(Eo q L).bind fun r=>if recs.length<=64 then(FX q base 0 (r,base) recs).map fun st=>⟨q,st.1,st.2,base+(recs.length:Int),base,L,recs⟩else none
variable{q:QM}{base:Int}{L:List RP}
theorem gZ{recs:List BJ}(h:¬recs.length<=64):Jo q base L recs=none:=by
 unfold Jo;cases Eo q L with
 |none=>rfl
 |some r=>rw [Lk,As h]
variable{r:C8}
theorem QA{recs:List BJ}(g:Eo q L=some r)(h:recs.length<=64):Jo q base L recs=(FX q base 0 (r,base) recs).map fun st=>⟨q,st.1,st.2,base+(recs.length:Int),base,L,recs⟩:=by
 unfold Jo;rw [g,Lk,B0 h]
theorem La{l:List BJ}(h:(BH q r base l).2.2=true):FX q base 0 (r,base) l=some ((BH q r base l).1,(BH q r base l).2.1):=by
 unfold BH at*;split at h;· rename_i st h9;rw [h9]
 · cases h
theorem YI{l:List BJ}(h:(BH q r base l).2.2=false):FX q base 0 (r,base) l=none:=by
 unfold BH at*;split at h;· cases h
 · rename_i h9;exact h9
theorem jJ(hq:BG q){rows g:List AU}(hl:rows.length<=100)(I:∀r∈rows,r.ok):(FQ q rows g).rows.length<=200/\-1000000000000000000<=(FQ q rows g).val/\(FQ q rows g).val<=1000000000000000000:=by
 have G:=jA (q:=q) (rows:=rows) (fun r Z=>WQ (I r Z) q.bq);have B:(Cu q rows).length<=1000000000:=by rw [K9];omega
 have hj:=TC q rows g;have hx:∀(lt:Int->Int->Bool) (hlt:∀a b c,lt b a=false->lt c b=false->lt c a=false) (hirr:∀a,lt a a=false) (hasy:∀a b,lt a b=true->lt b a=false),(EZ lt (Cu q rows)).rows.length<=200/\-1000000000000000000<=(EZ lt (Cu q rows)).val/\(EZ lt (Cu q rows)).val<=1000000000000000000:=fun lt O U W=>by
  cases hms:Cu q rows with
  |nil=>exact ⟨C7 _,by show(_:Int)<=0;decide,by show(0:Int)<=_;decide⟩
  |cons z ms=>
   obtain ⟨x,J,_,K⟩:=KH lt O U W z ms;rw [K];rw [hms]at G;have:=G x J
   exact ⟨C7 _,by show _<=x;omega,by show x<=_;omega⟩
 have m:=iP G B (Cu q rows).length;rw [HI]at m;unfold FQ;split;· exact ⟨C7 _,by simp only;omega,by simp only;omega⟩
 · split
   · exact ⟨C7 _,m⟩
   · split
     · exact hx _ (fun a b c X h2=>by simp only [PB]at*;omega) (fun a=>by simp) (fun a b h=>by simp only [H4,PB]at*;omega)
     · split
       · exact hx _ (fun a b c X h2=>by simp only [PB]at*;omega) (fun a=>by simp) (fun a b h=>by simp only [H4,PB]at*;omega)
       · split
         · exact ⟨by simp only;omega,by simp only;decide,by simp only;decide⟩
         · exact ⟨by simp only;omega,by simp only;decide,by simp only;decide⟩
variable{sz:Nat}{e:AK}{xs:List A2}{s:List A8}
theorem Pb(h:BX sz e v n xs s):n<=maxLen:=by
 obtain ⟨_,⟨_,h0,_⟩|⟨_,_,_,_,_,_,g,h2,_⟩⟩:=h;· omega
 · omega
theorem OB(h:Eo q L=some r):BG q/\r.rows.length<=200/\-1000000000000000000<=r.val/\r.val<=1000000000000000000:=by
 obtain ⟨x,G,_,g,_,hc,m,B⟩:=QG h;refine ⟨g,?_⟩;rcases B with⟨_,_,rfl⟩|⟨_,o,_,rfl⟩
 · exact jJ g m (OP hc).2
 · exact jJ g m (OP hc).2
theorem LA{Z:List RPZ}(hv:ZsU M v Z)(hb:Z.length<=1000000):BQ prog 107 #[v] [M] (fun r H'=>∃K,BX 9 65 r Z.length (Z.flatMap Em) K/\H'=[K,M]):=by
 have X:=mL;have B:=hv
 obtain ⟨p,cap,rfl,⟨hl,W⟩,U⟩:=id hv;replace B:=jW B;refine Se func107 ntmps107 [0] ?_;intro u R;refine A3<|AH Y<|B7 Y<|Zv (Du N2 Y Y)<|A5<|AY Y (fun J=>?_) (fun J=>?_);·
  have G:p=none:=by cases p with
   |none=>rfl
   |some x=>cases J
  have h0:Z=[]:=by
   cases Z with
   |nil=>rfl
   |cons x l=>obtain ⟨_,g,off,cur,T,zz,I,_⟩:=U 0 x rfl;rw [G]at I;cases I
  refine Zq<|Bc<|Zg<|Ax Y<|Zt<|AX rfl results107 Y (by exact ⟨[],by rw [h0];exact Bi 9 _,rfl⟩)
 refine AC<|CD<|Ze (EF N2 Lo)<|AF fun O=>Zm Y<|Ze (Gf (by_:=120) (sz:=9) N2 (V:Tryz.prog.info? 65=some Tryz.t65) V rfl V rfl Y (Gs 9 65 O 0 [] V An) Y (B) (by exact wA _) An Wo Wo (by exact ym _) A0 A0) ?_;rintro _ _ ⟨af,m,rfl⟩;replace m:=Bb m (DP _) (Mu _);refine Ax Y<|AX V results107 Y (by exact ⟨_,m,V⟩)
theorem Jj{Z:List BJ}(hv:EQ M v Z)(hb:Z.length<=1000000):BQ prog 47 #[v] [M] (fun r H'=>∃K,BX 2 26 r Z.length (Dy Z) K/\H'=[K,M]):=by
 have X:=mL;have B:=hv
 obtain ⟨p,cap,rfl,⟨hl,W⟩,U⟩:=id hv;replace B:=dF B;refine Se func47 ntmps47 [0] ?_;intro u R;refine A3<|AH Y<|B7 Y<|Zv (Du HA Y Y)<|A5<|AY Y (fun J=>?_) (fun J=>?_);·
  have G:p=none:=by cases p with
   |none=>rfl
   |some x=>cases J
  have h0:Z=[]:=by
   cases Z with
   |nil=>rfl
   |cons x l=>obtain ⟨_,g,off,cur,T,zz,I,_⟩:=U 0 x rfl;rw [G]at I;cases I
  refine Zq<|Bc<|Zg<|Ax Y<|Zt<|AX rfl results47 Y (by exact ⟨[],by rw [h0];exact Bi 2 _,rfl⟩)
 refine AC<|CD<|Ze (EF HA Fi)<|AF fun O=>Zm Y<|Ze (Gf (by_:=32) (sz:=2) HA (V:Tryz.prog.info? 26=some Tryz.t26) V rfl V rfl Y (Gs 2 26 O 0 [] V An) Y (B) (by exact UF _) An Wo Wo (by exact Ww _) A0 A0) ?_;rintro _ _ ⟨af,m,rfl⟩;replace m:=Bb m (DP _) (Mu _);refine Ax Y<|AX V results47 Y (by exact ⟨_,m,V⟩)
variable{pg:B8}{cg:Nat}{lv:A2}
set_option maxHeartbeats 1000000 in
theorem vB(q:QM)(te base:Int)(hb:-1000000000000<=base/\base<=1000000000000)(hL:Ex M (.slice pg L.length cg) L)(kv:L.length<=1000000)(hr:Eo q L=some r){l:List BJ}(hl:EQ M lv l)(ek:∀x∈l,x.cs.length<=1000):BQ prog 54 #[.agg #[I0 q.kd,I0 q.tb,I0 q.cl,I0 q.lo,I0 q.hi,I0 q.bq,I0 q.ot,I0 te,I0 base,.slice pg L.length cg],lv] [M] (fun w H'=>(∃(z:Nw) (s3 s1 s2:List A8),Jo q base L l=some z.a/\z.ok (s3++(s1++(s2++M)))/\CX (s3++(s1++s2))/\w= .tuple #[.agg z.A90,.bool true]/\H'=[s3,s1,s2,M])\/(Jo q base L l=none/\w= .tuple #[.agg #[I0 0,I0 0,I0 0,I0 0,I0 0,I0 0,I0 0,.slice none 0 0,I0 0,.bool false,I0 0,I0 0,I0 0,.slice none 0 0,.slice none 0 0],.bool false]/\H'=[M])):=by
 have l9:=mL;obtain ⟨hq,o8,ic⟩:=OB hr;obtain ⟨pl,cl,rfl,l5,l8⟩:=id hl;obtain ⟨Z,hZ,W⟩:=id hL;have U:Z.length=L.length:=by rw [<-W,Bm]
 obtain ⟨pz,cz,ez,_,j3⟩:=id hZ;refine Se func54 ntmps54 [0,1] ?_;intro u R;refine A3<|Ze (Bx #[I0 q.kd,I0 q.tb,I0 q.cl,I0 q.lo,I0 q.hi,I0 q.bq,I0 q.ot,I0 te,I0 base,.slice pg L.length cg])<|AF fun be=>Ze (Al L7 #[_,_,_,_,_,_,_,_,_,_,_,_,_,_,_])<|AF fun bo=>AH Y<|A3<|Zh 0 G4 V rfl D4 Y<|Zo Wh (AA (cs:=#[_,_,_,_,_,_,_]) FG D4 Y B9 B2) ?_;refine Zh 9 G4 V rfl J0 Y<|Zl Ly Y ?_;refine Zc [_,_] Y call84 Y V (WU hL q hr) ?_;rintro _ _ ⟨_,⟨o9,s0,rfl,h0,rfl⟩,rfl⟩;obtain ⟨p0,c0,rfl⟩:=h0.form;have d9:=Db h0 A0
 refine Zm Y<|Zd Y V<|Zd Y V<|Ze (Al HP #[_,_,_])<|AF fun bs=>Xe (Xw C3 #[.slice p0 r.rows.length c0,I0 r.val,.bool r.fnd]) ?_;refine B1 Y<|Zn [1,2,4,6,7] ?_;refine Zx<|B7 Y<|Zv (Bh Y)<|Zm Y<|Ab (t:=19) Y V (fun X=>by cases X)<|fun X=>Zf Y Y<|Yg (AR HA Y)<|Yg (Df (n:=64) Y Y)<|BW Y Y<|A5<|Ap Y (fun af=>?_) (fun af=>?_);·
  refine A3<|Zv (BM (vs:=[]) (cs:=#[_,_,_,_,_,_,_,_,_,_,_,_,_,_,_]) Y (Aa (pl:=#[(0,7),(7,3),(10,1),(11,1),(12,1),(13,1),(14,1)]) L7 HF (fun _=>by kernel_rfl) rfl))<|Xe (BF ID Y Y HT Wu (by exact D9 rfl) Fm An (by exact BA _)) ?_;refine Ax Y<|Zt<|CP V results54 Y Wh (Av Xs ID Wn (Au V)) Y (by exact .inr ⟨gZ A0,V,V⟩)
 refine B4<|Zb [1,2,4,6] ?_;refine Ch (e0:=[]) (H0:=[]) (fun e H=>∃(I:Nat) (B:B8) (g:Nat) (s1:List A8) (G:B8) (m:Nat) (s2:List A8),(BX 9 65 (.slice B L.length g) Z.length (Z.flatMap Em) s1/\BX 2 26 (.slice G l.length m) l.length (Dy l) s2)/\e=[(8,I1 I)]/\H=[[(I,.cells #[I0 q.kd,I0 q.tb,I0 q.cl,I0 q.lo,I0 q.hi,I0 q.bq,I0 q.ot,.slice none 0 0,I0 0,.bool false,I0 0,I0 (base+(l.length:Int)),I0 base,.slice B L.length g,.slice G l.length m] 52 (0,0))],s1,s2]) Wp ?hx_2 ?hy_2
 case hx_2=>
  refine Aw (n:=17) (0::1::0::4::0::16::60::0::128::0::512::1536::0::7680::16383::0::65535::[]) 108544 AD AD V<|A1 0 V (AB (off:=0) G4 V rfl D4 Y)<|GB 1 V Wh (AA (cs:=#[_,_,_,_,_,_,_]) FG D4 Y B9 B2) ?_;refine A1 2 V (AB (off:=8) G4 V rfl A6 Y)<|Bk 3 V AE Y ?_;refine A1 4 V (AQ Y)<|A1 5 V (AR HA Y) ?_
  (refine FB (D':=127) 6 (JX Y Y (IntWalk.i64_in _ ?_)) ?_;(focus (omega)))
  refine A1 7 V (AB (off:=8) G4 V rfl A6 Y)<|Bk 8 V AE Y ?_;refine A1 9 V (AB (off:=9) G4 V rfl J0 Y)<|Bk 10 V Ly Y ?_;refine A1 12 V (AQ Y)<|Zz (l:=[11,15])<|C0 [false,true,true,true] [(8,(_,_)),(3,(_,_)),(1,(_,_))] V rfl (Zw [_] Y call107 Y V (LA hZ A0)) ?hk_3 Bz ?hl_3
  case' hk_3=>
   rintro _ _ ⟨_,⟨s1,J,rfl⟩,rfl⟩;refine ⟨Zk (Zk (Zk (Ac))),?_⟩;obtain ⟨B,g,e1⟩:=J.form;rw [U]at e1;subst e1;refine Zz (l:=[13,15])<|C0 [true,true,true] [(8,(_,_)),(3,(_,_)),(1,(_,_))] V rfl (Zw [_] Y call47 Y V (Jj hl A0)) ?hk_4 Bz ?hl_4
   case' hk_4=>
    rintro _ _ ⟨_,⟨s2,h2,rfl⟩,rfl⟩;refine ⟨Zk (Zk (Zk (Ac))),?_⟩;obtain ⟨G,m,rfl⟩:=h2.form;refine A1 14 V (BM (vs:=[(0,.agg q.A89),(3,I0 (base+(l.length:Int))),(4,I0 base),(5,.slice B L.length g),(6,.slice G l.length m)]) (cs:=#[I0 q.kd,I0 q.tb,I0 q.cl,I0 q.lo,I0 q.hi,I0 q.bq,I0 q.ot,.slice none 0 0,I0 0,.bool false,I0 0,I0 (base+(l.length:Int)),I0 base,.slice B L.length g,.slice G l.length m]) Y (Aa (pl:=#[(0,7),(7,3),(10,1),(11,1),(12,1),(13,1),(14,1)]) L7 HF (fun _=>by kernel_rfl) AD))<|Yz 15 0 65535 [8,3,1] [true,true,true] [(8,(_,_)),(3,(_,_)),(1,(_,_))] V Y V rfl V rfl (Al L7 #[_,_,_,_,_,_,_,_,_,_,_,_,_,_,_])<|AF fun I=>CA<|Yw 16 131071 V (Xw ID #[I0 q.kd,I0 q.tb,I0 q.cl,I0 q.lo,I0 q.hi,I0 q.bq,I0 q.ot,.slice none 0 0,I0 0,.bool false,I0 0,I0 (base+(l.length:Int)),I0 base,.slice B L.length g,.slice G l.length m])<|F1<|Ao<|Hx (by exact ⟨I,B,g,s1,G,m,s2,⟨J,h2⟩,V,V⟩)
   case' hl_4=>
    refine C0 [true,true,true] [(8,(_,_)),(3,(_,_)),(1,(_,_))] V rfl (Al L7 #[_,_,_,_,_,_,_,_,_,_,_,_,_,_,_]) ?hk_8 (fun _ _ h=>h.elim) ?hl_8
    case' hk_8=>
     rintro _ _ ⟨I,rfl,rfl⟩;refine ⟨Zk (Zk (Zk (Ac))),?_⟩
    case' hl_8=>
     exact Am
  case' hl_3=>
   refine C0 [true,true,true,true] [(10,(_,_)),(8,(_,_)),(3,(_,_)),(1,(_,_))] V rfl (Al L7 #[_,_,_,_,_,_,_,_,_,_,_,_,_,_,_]) ?hk_12 (fun _ _ h=>h.elim) ?hl_12
   case' hk_12=>
    rintro _ _ ⟨I,rfl,rfl⟩;refine CA<|Zz (l:=[11])<|C0 [false,true,true,true] [(8,(_,_)),(3,(_,_)),(1,(_,_))] V rfl (Zw [_] Y call107 Y V (LA hZ A0)) ?hk_13 Bz ?hl_13
    case' hk_13=>
     rintro _ _ ⟨_,⟨s1,J,rfl⟩,rfl⟩;refine ⟨Zk (Zk (Zk (Ac))),?_⟩;obtain ⟨B,g,e1⟩:=J.form;rw [U]at e1;subst e1
    case' hl_13=>
     exact Am
   case' hl_12=>
    exact Am
  all_goals
   refine Zz (l:=[13])<|C0 [true,true,true] [(8,(_,_)),(3,(_,_)),(1,(_,_))] V rfl (Zw [_] Y call47 Y V (Jj hl A0)) ?_ Bz Am;rintro _ _ ⟨_,⟨s2,h2,rfl⟩,rfl⟩;refine ⟨Zk (Zk (Zk (Ac))),?_⟩;obtain ⟨G,m,rfl⟩:=h2.form;refine A1 14 V (BM (vs:=[(0,.agg q.A89),(3,I0 (base+(l.length:Int))),(4,I0 base),(5,.slice B L.length g),(6,.slice G l.length m)]) (cs:=#[I0 q.kd,I0 q.tb,I0 q.cl,I0 q.lo,I0 q.hi,I0 q.bq,I0 q.ot,.slice none 0 0,I0 0,.bool false,I0 0,I0 (base+(l.length:Int)),I0 base,.slice B L.length g,.slice G l.length m]) Y (Aa (pl:=#[(0,7),(7,3),(10,1),(11,1),(12,1),(13,1),(14,1)]) L7 HF (fun _=>by kernel_rfl) AD))<|Yw 16 131071 V (Xw ID #[I0 q.kd,I0 q.tb,I0 q.cl,I0 q.lo,I0 q.hi,I0 q.bq,I0 q.ot,.slice none 0 0,I0 0,.bool false,I0 0,I0 (base+(l.length:Int)),I0 base,.slice B L.length g,.slice G l.length m])<|F1<|Ao<|Hx (by exact ⟨I,B,g,s1,G,m,s2,⟨J,h2⟩,V,V⟩)
 rintro _ _ ⟨I,B,g,s1,G,m,s2,⟨J,h2⟩,rfl,rfl⟩;refine Zq<|A3<|Zh 0 G4 V rfl D4 Y<|Zo Wh (AA (cs:=#[_,_,_,_,_,_,_]) FG D4 Y B9 B2) ?_;refine Zo Wh (AA (cs:=#[_,_,_]) E3 C3 Y B9 B2) ?_;refine Zh 8 G4 V rfl A6 Y<|Zl AE Y ?_;refine Zm Y<|Zc [_,_,_,_] Y call85 Y V (QN q hq base A0 hl A0 ek d9 A0 ic) ?_;rintro _ _ ⟨_,⟨ow,s3,rfl,O,rfl⟩,rfl⟩;obtain ⟨g3,c3,rfl⟩:=O.form;refine Zm Y<|Zd Y rfl<|Zd Y rfl<|Zd Y rfl<|Zh 7 HF rfl rfl C3 Y<|Xe (BF C3 Y Y HT Wu (by exact (rfl:_=(#[I0 q.kd,I0 q.tb,I0 q.cl,I0 q.lo,I0 q.hi,I0 q.bq,I0 q.ot,.slice g3 (BH q r base l).1.rows.length c3,I0 (BH q r base l).1.val,.bool (BH q r base l).1.fnd,I0 0,I0 (base+(l.length:Int)),I0 base,.slice B L.length g,.slice G l.length m]:AM))) Fm B9 (by exact BA _)) ?_;refine Zh 10 HF V rfl A6 Y<|Xe (Zs A6 Y Y V (hc:=by exact (V:_=(#[I0 q.kd,I0 q.tb,I0 q.cl,I0 q.lo,I0 q.hi,I0 q.bq,I0 q.ot,.slice g3 (BH q r base l).1.rows.length c3,I0 (BH q r base l).1.val,.bool (BH q r base l).1.fnd,I0 (BH q r base l).2.1,I0 (base+(l.length:Int)),I0 base,.slice B L.length g,.slice G l.length m]:AM))) (hi:=by(simp;done))) ?_;refine B1 Y<|Zn [4,7,8] ?_;refine Zx<|AN Y<|Zv (Bh Y)<|A5<|AY Y (fun K=>?_) (fun K=>?_);·
  have gq:(BH q r base l).2.2=false:=by simpa using K
  refine A3<|Zv (BM (vs:=[]) (cs:=#[_,_,_,_,_,_,_,_,_,_,_,_,_,_,_]) Y (Aa (pl:=#[(0,7),(7,3),(10,1),(11,1),(12,1),(13,1),(14,1)]) L7 HF (fun _=>by kernel_rfl) rfl))<|Xe (BF ID Y Y HT Wu (by exact D9 rfl) Fm An (by exact BA _)) ?_;refine Ax Y<|Zt<|CP rfl results54 Y Wh (Av Xs ID Wn (Au rfl)) Y (by exact .inr ⟨by rw [QA hr A0,YI gq];rfl,rfl,rfl⟩)
 have bn:(BH q r base l).2.2=true:=by simpa using K
 refine B4<|Zq ?_;have cu:∀z∈Z,z.ok M:=fun z hz=>by obtain ⟨i,hi⟩:=HK hz;exact (j3 i z hi).1
 have ax:∀x∈l,CE M (.slice x.q x.cs.length x.cap) x.cs:=fun x hx=>by obtain ⟨i,hi⟩:=HK hx;obtain ⟨_,_,_,_,gm⟩:=hl;exact (gm i x hi).1
 have gy:=La bn;have j5:=Ez O
 have cO:=Pb O;refine Zg<|Zo Wh (AA (cs:=#[_,_,_,_,_,_,_,_,_,_,_,_,_,_,_]) Xs ID Y B9 B2) ?_;refine Xe (BF ID Y Y HT Wu (by exact D9 rfl) Fm An (by exact BA _)) ?_;refine Ax Y<|CP rfl results54 Y Wh (Av Xs ID Wn (Au rfl)) Y (by exact .inl ⟨⟨⟨q,(BH q r base l).1,(BH q r base l).2.1,base+(l.length:Int),base,L,l⟩,g3,c3,B,g,G,m⟩,s3,s1,s2,by rw [QA hr A0,gy];rfl,⟨(Db O cO).mono (fun c hc=>Fc _ hc),⟨Z,(WH J A0 cu).mono (fun c hc=>by rcases CI.1 hc with h9|h9;exact HC _ (Fc _ h9);exact HC _ (HC _ (HC _ h9))),W⟩,Lb (Jv h2 (by show l.length<=maxLen;omega) ax) (fun c hc=>HC _ (HC _ hc))⟩,CX.app (EA O) (CX.app (EA J) (EA h2)),rfl,rfl⟩)
theorem uz(q:QM)(te base:Int)(G:-1000000000000<=base/\base<=1000000000000)(B:Ex M (.slice pg L.length cg) L)(g:L.length<=1000000)(J:Eo q L=some r){l:List BJ}(I:EQ M lv l)(m:∀x∈l,x.cs.length<=1000):BQ prog 54 #[.agg #[I0 q.kd,I0 q.tb,I0 q.cl,I0 q.lo,I0 q.hi,I0 q.bq,I0 q.ot,I0 te,I0 base,.slice pg L.length cg],lv] [M] (fun w H'=>∃(z:Nw) (s:List A8) (b:Bool),((b=true/\Jo q base L l=some z.a/\z.ok (s++M)/\CX s)\/(b=false/\Jo q base L l=none))/\w= .tuple #[.agg z.A90,.bool b]/\H'=[s,M]):=by
 refine Gz (vB q te base G B g J I m) V ?_;rintro w H' (⟨z,s3,s1,s2,h1,h2,h9,rfl,rfl⟩|⟨h1,rfl,rfl⟩);· exact ⟨_,⟨z,s3++(s1++s2),true,.inl ⟨rfl,h1,by simpa only [DG]using h2,h9⟩,rfl,rfl⟩,by simp⟩
 · exact ⟨_,⟨⟨⟨⟨0,0,0,0,0,0,0⟩,C8.none,0,0,0,[],[]⟩,none,0,none,0,none,0⟩,[],false,.inr ⟨rfl,h1⟩,rfl,rfl⟩,by simp⟩
def fl1(c:Chg):Int:=if c.had then 1 else 0
def vs1(c:Chg):List Int:=if c.had then [c.o.a,c.o.b,c.o.c]else []
def fl2(c:Chg):Int:=if c.has then fl1 c+2 else fl1 c
def vs2(c:Chg):List Int:=if c.has then vs1 c++[c.n.a,c.n.b,c.n.c]else vs1 c
def zW(c:Chg):List UInt8:=Ht [c.t,c.k,fl2 c]++Ht (vs2 c)
def vi(p:Int)(cs:List Chg):List UInt8:=Ht [p,(cs.length:Int)]++cs.flatMap zW
variable{cs:List Chg}
theorem Dq.mem{p:Int}(h:Dq p cs):∀c∈cs,c.ok:=fun c hc=>by
 obtain ⟨i,hi⟩:=HK hc;exact h.all i c hi
theorem MF{g:Nat}{cur:AM}{z:Nat×Nat}(h:BX sz e (I2 g n cap) n xs [(g,.cells cur e z)]){j:Nat}{u:A2}(G:xs[j]?=some u):cur[j]?=some u:=by
 obtain ⟨U,⟨m,_⟩|⟨K,I,J,W,m,h2,_,_,_,B,_⟩⟩:=h;· cases m
 · injection m with m _ h3
   injection h2 with h2 _
   injection h2 with h4 h5
   injection h5 with h5 _ _
   subst h5;have O:=(C6.1 G).1
   rw [<-B,HU,B0 A0]at G;simpa using G
theorem iU(h:BX sz e (.slice p n cap) n xs s)(h0:0<n):∃g cur z,p=some ⟨g,0,none⟩/\s=[(g,.cells cur e z)]/\Gc z cur.size/\cur.size=cap*sz/\n<=cap/\cap<=maxLen:=by
 obtain ⟨O,⟨m,h2,_⟩|⟨g,B,cur,z,m,rfl,h2,G,I,K,J⟩⟩:=h;· omega
 · injection m with m _ h7
   subst h7;exact ⟨g,cur,z,m,V,J,I,h2,G⟩
theorem Tj(h:CE M (.slice p n cap) cs):FL M p (Cj cs):=by
 obtain ⟨B,g,e,_,m⟩:=h;injection e with e1 e2 e3
 subst e1;exact Ng _ 10 (fun _=>rfl) An fun i z hz=>m i z hz
theorem bO{ls:List Bs}(h:EM M (.slice p n cap) ls):FL M p (ls.map Fz):=by
 obtain ⟨G,m,e,_,B⟩:=h;injection e with e1 e2 e3
 subst e1;intro j u g;rw [FF]at g;cases hs:ls[j]?with
 |none=>rw [hs]at g;cases g
 |some s=>rw [hs]at g;injection g with g;subst g;exact B j s hs
theorem ou(ls:List Bs):∀u∈ls.map Fz,u.oneCell'=true:=by
 intro u g;obtain ⟨z,_,rfl⟩:=CM.1 g;rfl
variable{ps:List (List Bs)}
theorem dQ(h:M4 M (.slice p n cap) ps):∃m,Kr M m ps/\FL M p m/\∀u∈m,u.oneCell'=true:=by
 obtain ⟨p',af,e,_,hg⟩:=h;injection e with e1 e2 e3
 subst e1;have key:∀k,k<=ps.length->∃m:List A2,m.length=k/\∀(i:Nat) (l:List Bs),i<k->ps[i]?=some l->∃q c,m[i]?=some (.slice q l.length c)/\EM M (.slice q l.length c) l/\∃g off cur T zz,p=some ⟨g,off,none⟩/\(g,Obj.cells cur T zz)∈M/\cur[off+i]?=some (.slice q l.length c):=by
  intro k;induction k with
  |zero=>intro _;exact ⟨[],rfl,fun i l h=>absurd h (gi i)⟩
  |succ k ih=>
   intro hk;obtain ⟨m,O,h2⟩:=ih A0;obtain ⟨l,G⟩:∃l,ps[k]?=some l:=⟨_,BE A0⟩;obtain ⟨q,c,I,W⟩:=hg k l G;refine ⟨m++[.slice q l.length c],by rw [C2,O];rfl,fun i l' hi B=>?_⟩;rcases Ft i k with U|U
   · obtain ⟨q',c',X,Z⟩:=h2 i l' U B
     exact ⟨q',c',by rw [Ys A0];exact X,Z⟩
   · obtain rfl:i=k:=by omega
     rw [G]at B;injection B with B;subst B
     exact ⟨q,c,by rw [PF A0,O];simp,I,W⟩
 obtain ⟨m,O,h2⟩:=key ps.length (CT _);refine ⟨m,⟨O,fun i v l hv G=>?_⟩,fun j u J=>?_,fun u J=>?_⟩
 · obtain ⟨q,c,I,W,_⟩:=h2 i l (C6.1 G).1 G
   rw [I]at hv;injection hv with hv;subst hv;exact W
 · have K:=(C6.1 J).1
   obtain ⟨l,G⟩:∃l,ps[j]?=some l:=⟨_,BE A0⟩;obtain ⟨q,c,I,_,g,off,cur,T,zz,U,X,Z⟩:=h2 j l A0 G;rw [I]at J;injection J with J;subst J
   exact ⟨g,off,cur,T,zz,U,X,Z⟩
 · obtain ⟨j,K⟩:=HK J
   have ax:=(C6.1 K).1;obtain ⟨l,G⟩:∃l,ps[j]?=some l:=⟨_,BE A0⟩;obtain ⟨q,c,I,_⟩:=h2 j l A0 G;rw [I]at K;injection K with K;subst K;rfl
def RP.fits(x:RP):Prop:=x.rows.length<=1000000/\x.paths.length<=1000000/\x.roots.length<=1000000/\∀l∈x.paths,l.length<=1000000
theorem WI(Z:List RPZ):(Z.flatMap Em).length=Z.length*9:=by
 induction Z with
 |nil=>rfl
 |cons a l ih=>rw [IH,C2,ih];show 9+_=_;rw [EV];omega
variable{i:Nat}
theorem bA{A B:List RPZ}{z:RPZ}(g:A.length=i)(k:Nat)(m:k<9):((A++z::B).flatMap Em)[i*9+k]?=(Em z)[k]?:=by
 rw [S0,IH,PF (by rw [WI];omega),WI,g,show i*9+k -i*9=k by omega,Ys m]
theorem A16{A B:List RPZ}{z:RPZ}(G:A.length=i)(a b c:B8)(g m c':Nat):
 ((((A++z::B).flatMap Em).set (i*9+6) (.slice a z.x.rows.length g)).set (i*9+8) (.slice b z.x.roots.length m)).set (i*9+7) (.slice c z.x.paths.length c')=(A++[(⟨z.x,a,g,c,c',b,m⟩:RPZ)]++B).flatMap Em:=by
 have e:∀(l:List A2) (k:Nat) (v:A2),(A.flatMap Em++l).set (i*9+k) v=A.flatMap Em++l.set k v:=fun l k v=>by
  rw [nB _ _ (by rw [WI];omega),WI,G,show i*9+k -i*9=k by omega]
 rw [DG,S0,S0,IH,e,e,e];rfl
theorem UX(hv:CE M v cs)(Z:cs.length<=1000000):BQ prog 96 #[v] [M] (fun r H'=>∃K,BX 10 59 r cs.length (Cj cs) K/\H'=[K,M]):=by
 have W:=mL;have B:=hv
 obtain ⟨p,cap,rfl,hl,U⟩:=id hv;replace B:=Tj B;refine Se func96 ntmps96 [0] ?_;intro u R;refine A3<|AH Y<|B7 Y<|Zv (Du GO Y Y)<|A5<|AY Y (fun J=>?_) (fun J=>?_);·
  have G:p=none:=by cases p with
   |none=>rfl
   |some x=>cases J
  have h0:cs=[]:=by
   cases cs with
   |nil=>rfl
   |cons x l=>obtain ⟨g,off,cur,T,zz,I,_⟩:=U 0 x rfl;rw [G]at I;cases I
  refine Zq<|Bc<|Zg<|Ax Y<|Zt<|AX rfl results96 Y (by exact ⟨[],by rw [h0];exact Bi 10 _,rfl⟩)
 refine AC<|CD<|Ze (EF GO Cd)<|AF fun O=>Zm Y<|Ze (Gf (by_:=80) (sz:=10) GO (V:Tryz.prog.info? 59=some Tryz.t59) V rfl V rfl Y (Gs 10 59 O 0 [] V An) Y (B) (by exact FJ _) An Wo Wo (by exact Kl _) A0 A0) ?_;rintro _ _ ⟨X,m,rfl⟩;replace m:=Bb m (DP _) (Mu _);refine Ax Y<|AX V results96 Y (by exact ⟨_,m,V⟩)
theorem Ms{ls:List Bs}(hv:EM M v ls)(Z:ls.length<=1000000):BQ prog 108 #[v] [M] (fun r H'=>∃K,BX 1 9 r ls.length (ls.map Fz) K/\H'=[K,M]):=by
 have W:=mL;have B:=hv
 obtain ⟨p,cap,rfl,hl,U⟩:=id hv;replace B:=bO B;refine Se func108 ntmps108 [0] ?_;intro u R;refine A3<|AH Y<|B7 Y<|Zv (Du Dd Y Y)<|A5<|AY Y (fun J=>?_) (fun J=>?_);·
  have G:p=none:=by cases p with
   |none=>rfl
   |some x=>cases J
  have h0:ls=[]:=by
   cases ls with
   |nil=>rfl
   |cons x l=>obtain ⟨g,off,cur,T,zz,I,_⟩:=U 0 x rfl;rw [G]at I;cases I
  refine Zq<|Bc<|Zg<|Ax Y<|Zt<|AX rfl results108 Y (by exact ⟨[],by rw [h0];exact Bi 1 _,rfl⟩)
 refine AC<|CD<|Ze (EF Dd HD)<|AF fun O=>Zm Y<|Ze (Gf (by_:=16) (sz:=1) Dd (V:Tryz.prog.info? 9=some Tryz.t9) V rfl V rfl Y (Gs 1 9 O 0 [] V An) Y (B) (by(rw [Bm,P0])) An Wo Wo (by exact ou _) A0 A0) ?_;rintro _ _ ⟨X,m,rfl⟩;replace m:=Bb m (DP _) (Mu _);refine Ax Y<|AX V results108 Y (by exact ⟨_,m,V⟩)
theorem SQ(hv:M4 M v ps)(hb:ps.length<=1000000):BQ prog 109 #[v] [M] (fun r H'=>∃X B,Kr M B ps/\BX 1 45 r ps.length B X/\H'=[X,M]):=by
 have ax:=mL;have G:=hv
 obtain ⟨p,cap,rfl,⟨hl,af⟩,hg⟩:=id hv;obtain ⟨B,J,G,I⟩:=dQ G;have O:=J.1
 refine Se func109 ntmps109 [0] ?_;intro u R;refine A3<|AH Y<|B7 Y<|Zv (Du P2 Y Y)<|A5<|AY Y (fun W=>?_) (fun W=>?_);·
  have K:p=none:=by cases p with
   |none=>rfl
   |some x=>cases W
  have h0:ps=[]:=by
   cases ps with
   |nil=>rfl
   |cons x l=>obtain ⟨_,_,_,g,off,cur,T,zz,U,_⟩:=hg 0 x rfl;rw [K]at U;cases U
  refine Zq<|Bc<|Zg<|Ax Y<|Zt<|AX rfl results109 Y (by exact ⟨[],[],by rw [h0];exact VM _,by rw [h0];exact Bi 1 _,rfl⟩)
 refine AC<|CD<|Ze (EF P2 Hc)<|AF fun Z=>Zm Y<|Ze (Gf (by_:=24) (sz:=1) P2 (V:Tryz.prog.info? 45=some Tryz.t45) V rfl V rfl Y (Gs 1 45 Z 0 [] V An) Y (G) (by(rw [P0];exact O)) An Wo Wo I A0 A0) ?_;rintro _ _ ⟨bn,m,rfl⟩;replace m:=Bb m (DP _) (Mu _);refine Ax Y<|AX V results109 Y (by exact ⟨_,B,J,m,V⟩)
theorem dR{I:List A8}{m:List A2}{k:Nat}{O:A2}{K:List Bs}(h:∀(j:Nat) (v:A2) (l:List Bs),m[j]?=some v->ps[j]?=some l->if j<k then EM I v l else EM M v l)(X:m.length=ps.length)(Z:k<ps.length)(W:ps[k]?=some K)(U:EM s O K):
 ∀(j:Nat) (v:A2) (l:List Bs),(m.set k O)[j]?=some v->ps[j]?=some l->if j<k+1 then EM (s++I) v l else EM M v l:=by
 intro j v l hv g;rw [Vc]at hv;by_cases J:k=j
 · subst J
   rw [B0 rfl,B0 A0]at hv;injection hv with hv
   rw [W]at g;injection g with g
   subst hv g;rw [B0 A0];exact U.mono fun c hc=>Fc _ hc
 · rw [As J]at hv
   have G:=h j v l hv g;by_cases B:j<k
   · rw [B0 B]at G
     rw [B0 A0];exact G.mono fun c hc=>HC _ hc
   · rw [As B]at G
     rw [As A0];exact G
theorem nL{α:Type}{l:List α}{x:α}(h:l[i]?=some x):l.drop i=x::l.drop (i+1):=by
 obtain ⟨g,h2⟩:=C6.1 h;rw [RT g,h2]
theorem QU(p:Int)(hv:CE M v cs)(I:cs.length<=1000000):BQ prog 46 #[.agg #[I0 p,v]] [M] (fun r H'=>∃q cap s,r= .agg #[I0 p,.slice q cs.length cap]/\CE s (.slice q cs.length cap) cs/\CX s/\H'=[s,M]):=by
 have K:=mL;obtain ⟨O,g,rfl,J,_⟩:=id hv;refine Se func46 ntmps46 [0] ?_;intro u R;refine A3<|Ze (Bx #[I0 p,.slice O cs.length g])<|AF fun W=>Ze (Al Tl #[_,_])<|AF fun U=>A5<|A3<|Zh 1 GF V rfl KB Y<|Zl LL Y ?_;refine Zc [_] Y call96 Y V (UX hv I) ?_;rintro _ _ ⟨_,⟨s1,m,rfl⟩,rfl⟩;obtain ⟨G,B,rfl⟩:=m.form;refine Zh 1 GF V rfl KB Y<|Xe (Zs KB Y Y V (hi:=by(simp;done))) ?_;refine A5<|A3<|Zo Wh (AA (cs:=#[I0 p,.slice G cs.length B]) Hh Fi Y B9 (by exact Au V)) ?_;refine Xe (BF Fi Y Y HT Wu (by exact D9 rfl) Fm An (by exact BA _)) ?_;refine A5<|AJ<|Cv V results46 Y Wh (Av Hh Fi Wn (Au V)) (by exact ⟨G,B,s1,V,Mf m A0,EA m,V⟩)
set_option maxHeartbeats 1000000 in
theorem QV(q:QM)(te base:Int)(hL:Ex M (.slice pg L.length cg) L)(wo:L.length<=1000000)(o9:∀x∈L,x.fits):BQ prog 55 #[.agg #[I0 q.kd,I0 q.tb,I0 q.cl,I0 q.lo,I0 q.hi,I0 q.bq,I0 q.ot,I0 te,I0 base,.slice pg L.length cg]] [M] (fun r H'=>∃pz cz s,r= .agg #[I0 q.kd,I0 q.tb,I0 q.cl,I0 q.lo,I0 q.hi,I0 q.bq,I0 q.ot,I0 te,I0 base,.slice pz L.length cz]/\Ex s (.slice pz L.length cz) L/\CX s/\H'=[s,M]):=by
 have za:=mL;obtain ⟨Z,hZ,cO⟩:=id hL;have o8:Z.length=L.length:=by rw [<-cO,Bm]
 obtain ⟨p9,ve,e9,_,sj⟩:=id hZ;injection e9 with e91 e92 e93
 subst e91 e93;have q9:∀(i:Nat) (z:RPZ),Z[i]?=some z->z.ok M/\z.x.fits:=fun i z hz=>⟨(sj i z hz).1,o9 _ (by rw [<-cO];exact Ek (E7 hz))⟩
 refine Se func55 ntmps55 [0] ?_;intro u R;refine A3<|Ze (Bx #[I0 q.kd,I0 q.tb,I0 q.cl,I0 q.lo,I0 q.hi,I0 q.bq,I0 q.ot,I0 te,I0 base,.slice pg L.length cg])<|AF fun be=>Ze (Dm ON (cs:=#[I0 0,I0 0,I0 0,I0 0,I0 0,I0 0,I0 0,I0 0,I0 0,.slice none 0 0]) AD)<|AF fun bo=>A5<|A3<|Zh 9 G4 V rfl J0 Y<|Zl Ly Y ?_;refine Zc [_] Y call107 Y V (LA hZ A0) ?_;rintro _ _ ⟨_,⟨s1,h1,rfl⟩,rfl⟩;obtain ⟨pz,cz,rfl⟩:=h1.form;refine Zh 9 G4 V rfl J0 Y<|Xe (Zs J0 Y Y V (hi:=by(simp;done))) ?_;refine A5<|Zq<|Zq<|Bc<|Zg<|Zh 9 G4 V rfl J0 Y<|Zl Ly Y ?_;refine Zv (AR N2 Y)<|Zm Y<|A5<|AP<|Zb [13,1,2,12] ?_;refine Ay (e0:=[(13,_)]) (fun m e H=>∃(i:Nat) (X:List RPZ) (sz MM:List A8),m=Z.length -i/\((i<=Z.length/\X.length=i)/\BX 9 65 (.slice pz Z.length cz) Z.length ((X++Z.drop i).flatMap Em) sz/\(∀z∈X,z.ok MM)/\X.map RPZ.x=(Z.take i).map RPZ.x/\CX MM)/\e=[(13,I0 (i:Int))]/\H=[sz,MM]) (by exact ⟨0,[],s1,[],V,⟨⟨C7 _,V⟩,h1,fun z hz=>absurd hz B6,V,CX.nil⟩,V,V⟩) Wp ?_;rintro _ _ _ ⟨i,X,sz,MM,rfl,⟨⟨hi,K⟩,G,af,gm,l8⟩,rfl,rfl⟩;refine Zq<|Bc<|Zg<|Zv (Ar Y Y)<|A5<|Zq<|Ap Y (fun r9=>?_) (fun r9=>?_);·
  obtain ⟨z,hz⟩:∃z,Z[i]?=some z:=⟨_,BE A0⟩;obtain ⟨⟨sD,sw,sJ⟩,y5,qa,qb,qj⟩:=q9 i z hz;rw [nL hz]at G;obtain ⟨g,cur,zz,rfl,rfl,d9,x9,yt,wz⟩:=iU G A0;have y9:i*9+9<=cur.size:=by omega
  have qo:=MF G (bA (B:=Z.drop (i+1)) K 6 An);have qw:=MF G (bA (B:=Z.drop (i+1)) K 7 An)
  have qx:=MF G (bA (B:=Z.drop (i+1)) K 8 An);refine B4<|Zq<|AP<|Zq<|Bc<|Zg<|Zm Y<|AH Y<|A3<|Zh 9 G4 V rfl J0 Y<|Zl Ly Y ?_;refine Zm Y<|Ba (AZ N2 Lo Y Y A0)<|D2 Y<|Aw (n:=27) (0::0::0::0::8::24::56::120::0::256::768::1792::4088::0::8192::24576::57344::131064::262137::524281::1048569::2097147::4194299::8388603::16777215::33554431::67108863::[]) 76681344 AD AD rfl<|A1 0 rfl (AQ Y)<|A1 1 rfl (AQ Y)<|A1 2 rfl (AQ Y)<|A1 3 rfl (AQ Y)<|A1 4 rfl (Aq Y rfl)<|A1 5 rfl (Ai (off:=6) DA rfl rfl DH Y)<|Bk 6 rfl GS Y (hv:=by exact (by rw [DP];exact qo)) ?_;refine A1 8 rfl (AQ Y)<|A1 9 rfl (Aq Y rfl)<|A1 10 rfl (Ai (off:=8) DA rfl rfl Hc Y)<|Bk 11 rfl KK Y (hv:=by exact (by rw [DP];exact qx)) ?_;refine A1 13 rfl (AQ Y)<|A1 14 rfl (Aq Y rfl)<|A1 15 rfl (Ai (off:=7) DA rfl rfl SR Y)<|Bk 16 rfl XS Y (hv:=by exact (by rw [DP];exact qw)) ?_;refine Zz (l:=[7])<|C0 [true,true,false] [(16,(_,_)),(11,(_,_))] V rfl (Zw [_] Y call97 Y V (Gi sD A0)) ?_ Bz Am;rintro _ _ ⟨_,⟨sr,j3,rfl⟩,rfl⟩;refine ⟨Zk (Zk (Ac)),?_⟩;obtain ⟨qr,cr,rfl⟩:=j3.form;refine Zz (l:=[12])<|C0 [true,false] [(16,(_,_))] V rfl (Zw [_] Y call108 Y V (Ms sJ qb)) ?_ Bz Am;rintro _ _ ⟨_,⟨st,j5,rfl⟩,rfl⟩;refine ⟨Zk (Ac),?_⟩;obtain ⟨qt,ct,rfl⟩:=j5.form;refine Zz (l:=[17])<|C0 [false] [] V rfl (Zw [_] Y call109 Y V (SQ sw qa)) ?_ Bz Am;rintro _ _ ⟨_,⟨sO,sM,ax,bn,rfl⟩,rfl⟩;refine ⟨Ac,?_⟩;obtain ⟨qp,cp,rfl⟩:=bn.form;refine A1 18 V (Aq Y V)<|A1 19 V (Ai (off:=6) DA V rfl DH Y)<|Zz (l:=[20])<|C0 [] [] V rfl (Zs DH Y Y V (hi:=by omega) (hz:=by exact d9)) ?_ (fun _ _ h=>h.elim) Am;rintro _ _ ⟨rfl,rfl⟩;refine CA<|A1 21 V (Aq Y V)<|A1 22 V (Ai (off:=8) DA V rfl Hc Y)<|Zz (l:=[23])<|C0 [] [] V rfl (Zs Hc Y Y V (hi:=by(simp;omega)) (hz:=by(simp only [US];exact d9))) ?_ (fun _ _ h=>h.elim) Am;rintro _ _ ⟨rfl,rfl⟩
  refine CA<|A1 24 V (Aq Y V)<|A1 25 V (Ai (off:=7) DA V rfl SR Y)<|Zz (l:=[26])<|C0 [] [] V rfl (Zs SR Y Y V (hi:=by(simp;omega)) (hz:=by(simp only [US];exact d9))) ?_ (fun _ _ h=>h.elim) Am;rintro _ _ ⟨rfl,rfl⟩;refine CA<|Ao<|Zn [1,2,4,12,13] ?_;refine Zx<|Zq ?_;have h7:(((cur.setIfInBounds (0+i*9+6) (.slice qr z.x.rows.length cr)).setIfInBounds (0+i*9+8) (.slice qt z.x.roots.length ct)).setIfInBounds (0+i*9+7) (.slice qp z.x.paths.length cp))[0+i*9+7]?=some (.slice qp z.x.paths.length cp):=by
   rw [fp,B0 rfl,B0 (by simp only [US];omega)]
  obtain ⟨kv,I⟩:∃c,c=(((cur.setIfInBounds (0+i*9+6) (.slice qr z.x.rows.length cr)).setIfInBounds (0+i*9+8) (.slice qt z.x.roots.length ct)).setIfInBounds (0+i*9+7) (.slice qp z.x.paths.length cp)):=⟨_,rfl⟩;rw [<-I]at h7⊢;refine Zg<|Zm Y<|Zp Y V<|Zv (Ai (off:=7) DA V rfl SR Y)<|Zl XS Y (hv:=by exact h7) ?_;refine Zv (AR P2 Y)<|Zm Y<|A5<|AP<|Bc<|Zb [49,1,2,4,12,13,48] ?_;refine Ay (e0:=[(49,_)]) (fun m e H=>∃(k:Nat) (O:List A2) (sp U:List A8),m=z.x.paths.length -k/\((k<=z.x.paths.length/\O.length=z.x.paths.length)/\BX 1 45 (.slice qp z.x.paths.length cp) z.x.paths.length O sp/\(∀(j:Nat) (v:A2) (l:List Bs),O[j]?=some v->z.x.paths[j]?=some l->if j<k then EM U v l else EM M v l)/\CX U)/\e=[(49,I0 (k:Int))]/\H=[sp,U]) (by exact ⟨0,sM,sO,[],rfl,⟨⟨C7 _,ax.1⟩,bn,fun j v l hv hl=>by rw [As (gi j)];exact ax.2 j v l hv hl,CX.nil⟩,rfl,rfl⟩) Wp ?_;rintro _ _ _ ⟨k,O,sp,U,rfl,⟨⟨hk,gq⟩,W,gy,l9⟩,rfl,rfl⟩;refine A3<|Zv (Ar Y Y)<|A5<|Zq<|Ap Y (fun ek=>?_) (fun ek=>?_);·
   obtain ⟨l,hl⟩:∃l,z.x.paths[k]?=some l:=⟨_,BE ek⟩;have qz:=qj l (E7 hl)
   obtain ⟨v0,pq⟩:∃v,O[k]?=some v:=⟨_,BE A0⟩;obtain ⟨gp,l5,zp,rfl,rfl,ow,vw,vz,vo⟩:=iU W A0;have qy:=MF W pq
   have cu:=gy k v0 l pq hl;rw [As (Nat.lt_irrefl k)]at cu;refine B4<|Zq<|AP<|AN Y<|AH Y<|Aw (n:=15) (0::1::3::7::0::0::32::96::224::0::992::2016::4064::8191::16383::[]) 20480 AD AD V<|A1 0 V (AQ Y)<|A1 1 V (Aq Y V)<|A1 2 V (Ai (off:=7) DA V rfl SR Y)<|Bk 3 V XS Y (hv:=by exact h7) ?_;refine A1 4 V (AQ Y)<|A1 5 V (AQ Y)<|A1 6 V (Aq Y V)<|A1 7 V (Ai (off:=7) DA V rfl SR Y)<|Bk 8 V XS Y (hv:=by exact h7) ?_;refine A1 9 rfl (AQ Y)<|A1 10 rfl (Bd P2 Hc Y Y (by first|omega|(simp;omega)))<|Bk 11 rfl KK Y (hv:=by exact (by exact qy)) ?_;refine Zz (l:=[12])<|C0 [false,false,true] [(3,(_,_))] V rfl (Zw [_] Y call108 Y V (Ms cu qz)) ?_ Bz Am;rintro _ _ ⟨_,⟨sl,ic,rfl⟩,rfl⟩;refine ⟨Zk (Ac),?_⟩;obtain ⟨ql,cl,rfl⟩:=ic.form;refine A1 13 rfl (Bd P2 Hc Y Y (by first|omega|(simp;omega)))<|Yw 14 32767 rfl (Zs Hc Y Y rfl (hi:=by omega) (hz:=by exact ow))<|F1<|Ao<|Zn [1,2,4,12,13,48,49] ?_;refine A9<|Zx<|CK (s1:=sl) (s2:=U) Wo Wo ?_;refine E6 Y Y Y<|DM (e:=[(49,_)]) (h:=by exact ⟨k+1,O.set k (.slice ql l.length cl),[(gp,.cells (l5.setIfInBounds k (.slice ql l.length cl)) 45 zp)],sl++U,rfl,⟨⟨by omega,by rw [ee];exact gq⟩,OQ W k _,dR gy gq ek hl (Hg ic A0),CX.app (EA ic) l9⟩,rfl,rfl⟩)
  obtain rfl:k=z.x.paths.length:=by omega
  refine BB<|Zt<|Zt<|AV<|A9<|Zx<|CK (s1:=U) (s2:=st) Wo Wo ?_;refine CK (s1:=sp) (s2:=(U++st)) Wo Wo ?_;refine CK (s1:=sr) (s2:=(sp++(U++st))) Wo Wo ?_;refine CK (s1:=(sr++(sp++(U++st)))) (s2:=MM) Wo Wo ?_;have p8:RPZ.ok (sr++(sp++(U++st))) ⟨z.x,qr,cr,qp,cp,qt,ct⟩:=⟨(Db j3 A0).mono (fun c hc=>Fc _ hc),(VN W ⟨gq,fun j v l hv hl=>by
   have h9:=gy j v l hv hl;rwa [B0 (C6.1 hl).1]at h9⟩ A0).mono (fun c hc=>by rcases CI.1 hc with h9|h9<;>simp [h9]),(Hg j5 A0).mono (fun c hc=>by simp [hc])⟩
  have J:=OQ (OQ (OQ G (i*9+6) (.slice qr z.x.rows.length cr)) (i*9+8) (.slice qt z.x.roots.length ct)) (i*9+7) (.slice qp z.x.paths.length cp);rw [A16 K]at J;simp only [DP]at I;rw [<-I]at J;refine E6 Y Y Y<|Zn [13,1,2,12] ?_;refine Af (e':=[(13,_)]) (by
   exact ⟨i+1,X++[⟨z.x,qr,cr,qp,cp,qt,ct⟩],[(g,.cells kv 65 zz)],sr++(sp++(U++st))++MM,rfl,⟨⟨by omega,by rw [C2,K];rfl⟩,J,fun y hy=>by
    rcases CI.1 hy with hy|hy
    · exact (af y hy).mono (fun c hc=>HC _ hc)
    · rw [CH.1 hy];exact p8.mono (fun c hc=>Fc _ hc),by rw [CN,gm,Bq hz,CN];rfl,CX.app (CX.app (EA j3) (CX.app (EA W) (CX.app l9 (EA j5)))) l8⟩,rfl,rfl⟩)
 obtain rfl:i=Z.length:=by omega
 refine BB<|Zt<|Zt<|AV<|Zx<|Zq ?_;rw [show X++Z.drop Z.length=X by rw [kl,DQ]]at G;rw [HI]at gm;refine CK (s1:=sz) (s2:=MM) Wo Wo ?_;refine Zg<|Zo Wh (AA (cs:=#[I0 q.kd,I0 q.tb,I0 q.cl,I0 q.lo,I0 q.hi,I0 q.bq,I0 q.ot,I0 te,I0 base,.slice pz Z.length cz]) LN G2 Y B9 (by exact Au V)) ?_;refine Xe (BF G2 Y Y HT Wu (by exact D9 rfl) Fm An (by exact BA _)) ?_;refine A5<|AJ<|Cv rfl results55 Y Wh (Av LN G2 Wn (Au rfl)) (by exact ⟨pz,cz,sz++MM,by rw [o8],⟨X,WH (by rw [K,<-o8];exact G) A0 af,by rw [gm];exact cO⟩,CX.app (EA G) l8,rfl⟩)
structure El(qs:List (Int×QM))(es:Array MapEntry)(ck:Nat)(lm:List (Int×A2)):Prop where
 map:Ck (fun n:Int=>Value.int .i64 n) es ck lm
 mem:∀p,p∈lm↔∃x∈qs,p=(x.1,(.agg #[I0 x.2.kd,I0 x.2.tb,I0 x.2.cl,I0 x.2.lo,I0 x.2.hi,I0 x.2.bq,I0 x.2.ot]:A2))
 ids:(qs.map (·.1)).Nodup
theorem O6{β:Type}(p:β×A2)(k:β)(v v0:A2){A:Prop}:(p=(k,v)\/((p=(k,v0)\/(A/\p.1≠k))/\p.1≠k))↔(p=(k,v)\/(A/\p.1≠k)):=by
 constructor
 · rintro (h|⟨h|⟨h,_⟩,hn⟩)
   · exact .inl h
   · exact absurd (by rw [h]) hn
   · exact .inr ⟨h,hn⟩
 · rintro (h|⟨h,hn⟩)
   · exact .inl h
   · exact .inr ⟨.inr ⟨h,hn⟩,hn⟩
theorem mO:El [] #[] 0 []:=⟨EX _,fun p=>by simp,oB⟩
theorem El.none{qs:List (Int×QM)}{es:Array MapEntry}{ck:Nat}{lm:List (Int×A2)}(h:El qs es ck lm){id:Int}(hn:∀x∈qs,x.1≠id):EL id lm=none:=DN fun p g=>by
 obtain ⟨x,hx,rfl⟩:=(h.mem p).1 g;exact hn x hx
variable{qs:List (Int×QM)}{es:Array MapEntry}{ck:Nat}{lm:List (Int×A2)}
theorem El.get(h:El qs es ck lm){x:Int×QM}(hx:x∈qs):EL x.1 lm=some (.agg #[I0 x.2.kd,I0 x.2.tb,I0 x.2.cl,I0 x.2.lo,I0 x.2.hi,I0 x.2.bq,I0 x.2.ot]:A2):=Cw h.map.keys ((h.mem _).2 ⟨x,hx,rfl⟩)
theorem El.len(h:El qs es ck lm):lm.length=qs.length:=by
 have m:(lm.map (·.1)).Perm (qs.map (·.1)):=(Sh h.map.keys h.ids).2 fun a=>by
  constructor
  · intro g
    obtain ⟨p,B,rfl⟩:=CM.1 g;obtain ⟨x,hx,rfl⟩:=(h.mem p).1 B;exact Ek hx
  · intro g
    obtain ⟨x,hx,rfl⟩:=CM.1 g;exact CM.2 ⟨_,(h.mem _).2 ⟨x,hx,V⟩,V⟩
 have:=m.length_eq;simpa using this
theorem mR(h:El qs es ck lm){id:Int}(hn:∀x∈qs,x.1≠id){B:Array MapEntry}{m:Nat}{g:List (Int×A2)}(J:Ck (fun n:Int=>Value.int .i64 n) B m g)
 (K:∀p,p∈g↔p=(id,(.agg q.A89:A2))\/(p∈lm/\p.1≠id)):El (qs++[(id,q)]) B m g:=by
 refine ⟨J,fun p=>?_,?_⟩
 · rw [K,h.mem]
   constructor
   · rintro (rfl|⟨⟨x,hx,rfl⟩,_⟩)
     · exact ⟨(id,q),by simp,rfl⟩
     · exact ⟨x,Fc _ hx,rfl⟩
   · rintro ⟨x,hx,rfl⟩
     rcases CI.1 hx with hx|hx
     · exact .inr ⟨⟨x,hx,rfl⟩,hn x hx⟩
     · rw [CH.1 hx];exact .inl rfl
 · rw [CN,HN]
   refine ⟨h.ids,by simp,fun a G b I=>?_⟩;obtain ⟨x,hx,rfl⟩:=CM.1 G;obtain rfl:=CH.1 I;exact hn x hx
theorem mP(h:El qs es ck lm)(id:Int){B:Array MapEntry}{m:Nat}{g:List (Int×A2)}(I:Ck (fun n:Int=>Value.int .i64 n) B m g)(J:∀p,p∈g↔p∈lm/\p.1≠id):El (qs.filter fun x=>x.1≠id) B m g:=by
 refine ⟨I,fun p=>?_,(h.ids.sublist ((Z1).map _))⟩;rw [J,h.mem];constructor
 · rintro ⟨⟨x,hx,rfl⟩,hn⟩
   exact ⟨x,GP.2 ⟨hx,by simpa using hn⟩,V⟩
 · rintro ⟨x,hx,rfl⟩
   obtain ⟨G,h2⟩:=GP.1 hx;exact ⟨⟨x,G,V⟩,by simpa using h2⟩
theorem jX:BQ prog 37 #[] [] (fun r H'=>∃g mq,r=I1 g/\H'=[[(g,.cells #[.map (some mq),.pointer none] 166 (0,0))],[(mq,.map #[] 0)]]):=by
 refine Se func37 ntmps37 [] ?_;intro u R;refine A3<|AH Y<|A3<|Ze (DK)<|AF fun mq=>Zv (BM (vs:=[(0,_)]) (cs:=#[_,_]) Y (Aa (pl:=#[(0,1),(1,1)]) zeroValue166 SJ (fun _=>by kernel_rfl) V))<|Ze (Bx #[_,_])<|AF fun g=>Ax Y<|AX V results37 Y (by exact ⟨g,mq,V,V⟩)
theorem WJ{I mq:Nat}(g:El qs es ck lm){x:Int×QM}(hx:x∈qs):BQ prog 92 #[I1 I,I0 x.1] [[(I,.cells #[.map (some mq),lv] 166 (0,0))],[(mq,.map es ck)]] (fun r H'=>∃B m W,r= .bool true/\El (qs.filter fun y=>y.1≠x.1) B m W/\H'=[[(I,.cells #[.map (some mq),.pointer none] 166 (0,0))],[(mq,.map B m)]]):=by
 have Z:=g.get hx;refine Se func92 ntmps92 [0,1] ?_;intro u R;refine A3<|AH Y<|B7 Y<|Zv (BZ underlying112 Y Y)<|A5<|AY Y (fun G=>by cases G)<|fun G=>B4<|AN Y<|Zp Y rfl<|Zh 0 SJ rfl rfl eJ Y<|Zl eL Y<|Zm Y<|Zo Wh (EN (Cc D3 (D:=fun _=>True)) eo Q1 g.map (fun _ _=>trivial) (trivial) (⟨by rw [Z];first|done|rfl,by rw [Z];first|done|rfl⟩) Y Y)<|Zm Y<|Zd Y rfl<|Zd Y rfl<|Ze (Al Q1 #[_,_,_,_,_,_,_])<|AF fun b1=>Xe (Xw D4 _)<|B1 Y<|Zn [0,1,6] ?_;refine Zx<|AN Y<|Zp Y V<|Zh 0 SJ V rfl eJ Y<|Zl eL Y<|Zm Y<|Ze (LF (Cc D3 (D:=fun _=>True)) eo g.map (fun _ _=>trivial) (trivial) Y Y Wo) ?_;rintro _ _ ⟨rfl,K,J,X,O,U,rfl⟩;refine A5<|AN Y<|Zp Y V<|Zh 1 SJ V rfl cX Y<|Xe (Zs cX Y Y V)<|A5<|AN Y<|Ax Y<|AX V results92 Y (by exact ⟨K,J,X,V,mP g _ O U,V⟩)
theorem jY{J mq:Nat}(g:El qs es ck lm){id:Int}(I:∀x∈qs,x.1≠id)(hq:BG q)(hl:qs.length<500):BQ prog 93 #[I1 J,I0 id,(.agg q.A89:A2)] [[(J,.cells #[.map (some mq),lv] 166 (0,0))],[(mq,.map es ck)]] (fun r H'=>∃B m cu,r=I0 0/\El (qs++[(id,q)]) B m cu/\H'=[[(J,.cells #[.map (some mq),.pointer none] 166 (0,0))],[(mq,.map B m)]]):=by
 have W:=g.none I;have gm:=g.len
 refine Se func93 ntmps93 [0,1,2] ?_;intro u R;refine A3<|Ze (Bx #[_,_,_,_,_,_,_])<|AF fun b1=>AH Y<|B7 Y<|Zv (BZ underlying112 Y Y)<|A5<|AY Y (fun G=>by cases G)<|fun G=>B4<|B7 Y<|Zp Y rfl<|Zh 0 SJ rfl rfl eJ Y<|Zl eL Y<|Zm Y<|Zo Wh (EN (Cc D3 (D:=fun _=>True)) eo Q1 g.map (fun _ _=>trivial) (trivial) (⟨by rw [W];first|done|rfl,by rw [W];first|done|rfl⟩) Y Y)<|Zm Y<|Zd Y rfl<|Zd Y rfl<|Ze (Al Q1 #[_,_,_,_,_,_,_])<|AF fun b2=>Xe (Xw D4 _)<|B1 Y<|Zn [0,1,5,8] ?_;refine Zx<|AN Y<|Zm Y<|Ab (t:=21) Y V (fun g1=>by cases g1)<|fun g1=>DY Y Wh (Pa #[_,_,_,_,_,_,_] FG D4 Y) V rfl<|Xr [_] Y call28 Y V (JR q) ?_;rw [DO hq];refine Yg (Bh Y)<|BW Y Y<|Zm Y<|Ab (t:=26) Y V (fun g2=>by cases g2)<|fun g2=>Zf Y Y<|Yg (Aq Y V)<|Yf 0 SJ V rfl eJ Y<|Yl eL Y<|DY Y Wh (Pv eo g.map Y) V rfl<|Yg (G8 (n:=500) Y Y)<|BW Y Y<|Z0<|Zn [0,1,5,33] ?_;refine Zx<|Ap Y (fun h8=>by omega)<|fun h8=>B4<|Zq<|Aw (n:=13) (0::1::3::7::0::0::0::31::159::479::1023::2047::4095::[]) 4736 AD AD rfl<|A1 0 rfl (AQ Y)<|A1 1 rfl (Aq Y rfl)<|A1 2 rfl (AB (off:=0) SJ rfl rfl eJ Y)<|Bk 3 rfl eL Y<|A1 4 rfl (AQ Y)<|A1 5 rfl (AQ Y)<|GB 6 rfl Wh (Pa #[_,_,_,_,_,_,_] FG D4 Y)<|Yz 7 31 255 [6,3] [true,false] [(6,(_,_))] rfl Y rfl rfl rfl rfl (KP (Cc D3 (D:=fun _=>True)) eo Q1 g.map (fun _ _=>trivial) (trivial) (by rw [W];first|done|rfl) Y Y Wo) ?_;rintro _ _ ⟨ek,d9,gq,j3,gy,rfl,Z,X,U,ax,rfl⟩;refine CA<|A1 8 V (CV Y V)<|Zz (l:=[9])<|C0 [false] [] V rfl (Ik Z X U Y Y Y Wo) ?_ (fun _ _ h=>h.elim) Am;rintro _ _ ⟨rfl,O,K,cO,af,bn,rfl⟩;refine CA<|A1 10 V (Aq Y V)<|A1 11 V (AB (off:=1) SJ V rfl cX Y)<|Zz (l:=[12])<|C0 [] [] V rfl (Zs cX Y Y V) ?_ (fun _ _ h=>h.elim) Am;rintro _ _ ⟨rfl,rfl⟩;refine CA<|Ao<|Zn [] ?_;refine CD<|Ax Y<|AX rfl results93 Y (by exact ⟨O,K,cO,rfl,mR g I af (fun p=>by rw [bn,ax];exact O6 _ _ _ _),rfl⟩)
structure IvM where
 lo:Int
 hi:Int
 rc:Int
 id:Int
deriving Inhabited
def U6(M:List A8)(v:A2)(l:List IvM):Prop:=∃p cap,v= .slice p l.length cap/\(l.length<=maxLen/\l.length<=cap)/\∀(i:Nat) (x:IvM),l[i]?=some x->∃g off cur T zz,p=some ⟨g,off,none⟩/\(g,Obj.cells cur T zz)∈M/\off+i*4+4<=cur.size/\cur.extract (off+i*4) (off+i*4+4)=#[I0 x.lo,I0 x.hi,I0 x.rc,I0 x.id]
variable{l:List IvM}
theorem U6.mono(h:U6 M v l)(J:∀c∈M,c∈M'):U6 M' v l:=by
 obtain ⟨p,cap,e,I,G⟩:=h;refine ⟨p,cap,e,I,fun i x hx=>?_⟩;obtain ⟨g,off,cur,T,zz,m,h2,B⟩:=G i x hx;exact ⟨g,off,cur,T,zz,m,J _ h2,B⟩
theorem U6.take(h:U6 M (.slice p l.length cap) l){k:Nat}(B:k<=l.length):U6 M (.slice p k cap) (l.take k):=by
 obtain ⟨I,g,e,G,m⟩:=h;injection e with e1 e2 e3
 subst e1 e3;refine ⟨p,cap,by rw [Cl,S7 B],by rw [Cl];omega,fun i x hx=>m i x ?_⟩;rw [HU]at hx;split at hx;· exact hx
 · cases hx
def um(a b:Int):Int:=if a<b then-1 else if b<a then 1 else 0
theorem aS(a b:Int):um a b<0↔a<b:=by
 unfold um;split;· exact ⟨fun _=>by assumption,fun _=>by decide⟩
 · split
   · exact ⟨fun h=>absurd h An,fun h=>by omega⟩
   · exact ⟨fun h=>absurd h An,fun h=>by omega⟩
theorem O8{α:Type}(p:α->Bool):∀{l:List α} {e:Nat},e<=l.length->(∀(k:Nat) (x:α),k<e->l[k]?=some x->p x=true)->(∀(k:Nat) (x:α),e<=k->l[k]?=some x->p x=false)->l.takeWhile p=l.take e
 |[],e,_,_,_=>by simp
 |x::l,0,_,_,h2=>by rw [S1,As (by rw [h2 0 x (CT _) rfl];decide),MT]
 |x::l,e+1,he,h1,h2=>by
  rw [S1,B0 (h1 0 x A0 rfl),nc,O8 p (by simpa using he) (fun k y g hy=>h1 (k+1) y A0 hy) (fun k y g hy=>h2 (k+1) y A0 hy)]
def Ih(v:Int)(l:List IvM):List Int:=(((l.takeWhile fun x=>decide (x.lo<=v)).reverse.takeWhile fun x=>decide (v<=x.rc)).filter fun x=>decide (v<=x.hi)).map (·.id)
def Mw(v:Int)(l:List (Nat×IvM)):List Int:=((l.map (·.2)).filter fun x=>decide (v<=x.hi)).map (·.id)
theorem SN(v:Int)(l:List (Nat×IvM))(x:Nat×IvM):Mw v (l++[x])=Mw v l++(if v<=x.2.hi then [x.2.id]else []):=by
 unfold Mw;rw [CN,Kd,CN];congr 1;by_cases h:v<=x.2.hi;· rw [B0 h];simp [h]
 · rw [As h];simp [h]
theorem Mr{α:Type}(p:α->Bool):∀{l:List α},(∀x∈l,p x=true)->l.takeWhile p=l
 |[],_=>rfl
 |x::l,h=>by rw [S1,B0 (h x (Fo ..)),Mr p fun y hy=>h y (G3 _ hy)]
theorem LJ{α:Type}(p:α->Bool){x:α}(hx:p x=false)(m:List α):∀{l:List α},(∀y∈l,p y=true)->(l++x::m).takeWhile p=l
 |[],_=>by rw [Mu,S1,As (by rw [hx];decide)]
 |y::l,h=>by rw [S6,S1,B0 (h y (Fo ..)),LJ p hx m fun z hz=>h z (G3 _ hz)]
theorem uk{v:Int}{e:Nat}(g:l.takeWhile (fun x=>decide (x.lo<=v))=l.take e)(h:∀y∈bwd (l.take e),v<=y.2.rc):Mw v (bwd (l.take e))=Ih v l:=by
 unfold Mw Ih;rw [g,Mg,Mr];intro x hx;rw [<-Mg]at hx;obtain ⟨y,hy,rfl⟩:=CM.1 hx;exact DO (h y hy)
theorem nQ{v:Int}{e:Nat}(B:l.takeWhile (fun x=>decide (x.lo<=v))=l.take e){pre g:List (Nat×IvM)}{x:Nat×IvM}(m:bwd (l.take e)=pre++x::g)(h:∀y∈pre,v<=y.2.rc)(hx:x.2.rc<v):Mw v pre=Ih v l:=by
 unfold Mw Ih;rw [B,<-Mg,m,CN,F2,LJ _ (by simpa using hx)];intro z hz;obtain ⟨y,hy,rfl⟩:=CM.1 hz;exact DO (h y hy)
theorem gQ{v:Int}{e:Nat}(K:l.takeWhile (fun x=>decide (x.lo<=v))=l.take e){pre g:List (Nat×IvM)}{x:Nat×IvM}(J:bwd (l.take e)=pre++x::g)(h:∀y∈pre++[x],v<=y.2.rc)(hx:v<=x.2.hi):∃m,Ih v l=Mw v pre++x.2.id::m:=by
 unfold Mw Ih;have I:∀{A:List IvM} {B:List IvM},(∀y∈A,decide (v<=y.rc)=true)->∃C,(A++B).takeWhile (fun x=>decide (v<=x.rc))=A++C:=fun{A B} hA=>by
  induction A with
  |nil=>exact ⟨_,rfl⟩
  |cons a A ih=>
   obtain ⟨C,G⟩:=ih fun y hy=>hA y (G3 _ hy);exact ⟨C,by rw [S6,S1,B0 (hA a (Fo ..)),G,S6]⟩
 rw [K,<-Mg,J,show pre++x::g=(pre++[x])++g by simp,CN];obtain ⟨C,G⟩:=I (A:=(pre++[x]).map Prod.snd) (B:=g.map Prod.snd) fun z hz=>by
  obtain ⟨y,hy,rfl⟩:=CM.1 hz;exact DO (h y hy)
 rw [G,CN,Kd,Kd,CN,CN];refine ⟨(C.filter fun x=>decide (v<=x.hi)).map (·.id),?_⟩;simp [hx]
theorem TF(x:Int):Az prog 242 #[I0 x] [] (.bool false):=by
 refine Se func242 ntmps242 [0] ?_;intro u R;refine A3<|AH Y<|AN Y<|Zm Y<|Zv (GK Y Y)<|Ax Y<|AX V results242 Y (by exact ⟨by simp,V⟩)
theorem XU(a b:Int):Az prog 185 #[I0 a,I0 b] [] (I0 (um a b)):=by
 refine Se func185 ntmps185 [0,1] ?_;intro u R;refine A3<|AH Y<|AN Y<|Xr [_] Y call242 Y V (TF _)<|AH Y<|AN Y<|Xr [_] Y call242 Y V (TF _)<|AH Y<|B7 Y<|A5<|AY Y (fun g=>by cases g)<|fun g=>B4<|B7 Y<|A5<|AY Y (fun h2=>by cases h2)<|fun h2=>B4<|B7 Y<|Zm Y<|Zv (Dz Y Y)<|A5<|Ap Y (fun m=>?_) (fun m=>?_);focus
  refine A3<|B1 Y<|Zn [4] ?_;refine Zx<|AJ<|Zt ?_
 rotate_left
 focus
  refine B4<|B7 Y<|Zm Y<|Zv (Ev Y Y)<|Z0<|Zn [19] ?_;refine Zx<|Ap Y (fun B=>?_) (fun B=>?_);focus
   refine A3<|Ax Y<|Zt ?_
  rotate_left
  focus
   refine AC<|CD<|AH Y<|AJ ?_
 all_goals
  refine AX V results185 Y (by exact ⟨by unfold um;simp [*],V⟩)
theorem Yr(x:IvM)(t:Int):Az prog 220 #[.agg #[I0 x.lo,I0 x.hi,I0 x.rc,I0 x.id],I0 t] [] (I0 (um x.lo t)):=by
 refine Se func220 ntmps220 [0,1] ?_;intro u R;refine A3<|Ze (Bx #[_,_,_,_])<|AF fun g=>AH Y<|A3<|Zh 0 ao V rfl A6 Y<|Zl AE Y<|Zm Y<|Xr [_,_] Y call185 Y V (XU _ _)<|Ax Y<|AX V results220 Y (by exact ⟨V,V⟩)
theorem XY(hv:U6 M v l)(hn:l.length<=1000000)(hs:l.Pairwise fun a b=>a.lo<=b.lo)(t:Int):BQ prog 219 #[v,I0 t,.func (.func 220) #[] #[]] [M] (fun r H'=>∃(e:Nat) (b:Bool),r= .tuple #[I0 (e:Int),.bool b]/\e<=l.length/\(∀(k:Nat) (x:IvM),k<e->l[k]?=some x->x.lo<t)/\(∀(k:Nat) (x:IvM),e<=k->l[k]?=some x->t<=x.lo)/\H'=[M]):=by
 have bn:=mL;obtain ⟨p,cap,rfl,⟨hl,ax⟩,hg⟩:=id hv;have G:∀(i j:Nat) (x y:IvM),i<=j->l[i]?=some x->l[j]?=some y->x.lo<=y.lo:=fun i j x y W hx hy=>by
  rcases Ft i j with h|h
  · obtain ⟨h1,rfl⟩:=C6.1 hx
    obtain ⟨h2,rfl⟩:=C6.1 hy;exact fx.1 hs i j h1 h2 h
  · obtain rfl:i=j:=by omega
    rw [hx]at hy;injection hy with hy;rw [hy];exact cT _
 refine Se func219 ntmps219 [0,1,2] ?_;intro u R;refine A3<|Za Y<|AH Y<|AN Y<|Zv (AR i7 Y)<|AH Y<|AN Y<|Za Y<|D2 Y<|AP<|Zb [9,10,0,1,2,8] ?_;refine Ay (e0:=[(9,_),(10,_)]) (fun m e H=>∃(i j:Nat),m=j -i/\((i<=j/\j<=l.length)/\(∀(k:Nat) (x:IvM),k<i->l[k]?=some x->x.lo<t)/\(∀(k:Nat) (x:IvM),j<=k->l[k]?=some x->t<=x.lo))/\e=[(9,I0 (i:Int)),(10,I0 (j:Int))]/\H=[]) (by exact ⟨0,l.length,rfl,⟨⟨C7 _,CT _⟩,fun k x h=>absurd h (gi k),fun k x h hx=>by rw [Nd h]at hx;cases hx⟩,rfl,rfl⟩) Wp ?_;rintro _ _ _ ⟨i,j,rfl,⟨⟨W,X⟩,K,J⟩,rfl,rfl⟩;refine B7 Y<|Zm Y<|Zv (Ar Y Y)<|A5<|Ap Y (fun Z=>?_) (fun Z=>?_);·
  refine B4<|AP<|AN Y<|Zm Y<|Ya Y Y ?_;refine Ba (Lf D3 ZS Y A0)<|Ba (Po (n:=1) Y Y (by first|decide|(simp [IntKind.bits];done)|(simp [IntKind.bits];omega)))<|Ba (Sk ZS D3 Y A0)<|AH Y<|Zq ?_;obtain ⟨h,hh⟩:∃h,h=(i+j)/2^1:=⟨_,rfl⟩;rw [<-hh];have af:i<=h/\h<j:=by rw [hh];omega
  obtain ⟨x,hx⟩:∃x,l[h]?=some x:=⟨_,BE A0⟩;obtain ⟨g,off,cur,T,zz,rfl,I,O,B⟩:=hg _ _ hx;refine Zg<|Zm Y<|Zm Y<|Zm Y<|Ba (AZ i7 RK Y Y A0)<|CO (Gn Wo (I)) (AA (cs:=#[_,_,_,_]) isAgg270 RK Y A0 B) V rfl<|Zm Y<|Xr [_,_] Y call220 Y V (Yr x t)<|Zv (Dz Y Y)<|Z0<|Zn [0,1,2,8,9,10,11,31] ?_;refine Zx<|Ap Y (fun U=>?_) (fun U=>?_);·
   refine Zg<|Zm Y<|Ya (n:=1) Y Y<|B1 Y<|A9<|HB (by exact ⟨h+1,j,V,⟨⟨by omega,by omega⟩,fun k y hk hy=>by have:=G k h y x A0 hy hx;have:=(aS _ _).1 U;omega,J⟩,V,V⟩)
  refine Zg<|Zm Y<|B1 Y<|A9<|HB (by exact ⟨i,h,V,⟨⟨by omega,by omega⟩,K,fun k y hk hy=>by have:=G h k x y hk hx hy;have:=mt (aS x.lo t).2 U;omega⟩,V,V⟩)
 obtain rfl:i=j:=by omega
 refine BB<|Zt<|Zt<|AV<|Zx<|AN Y<|Zm Y<|Zm Y<|Zv (Ar Y Y)<|Zm Y<|Ae (t:=39) Y V (fun h5=>?_) (fun h5=>?_);focus
  obtain ⟨x,hx⟩:∃x,l[i]?=some x:=⟨_,BE A0⟩;obtain ⟨g,off,cur,T,zz,rfl,I,O,B⟩:=hg _ _ hx;refine Zf Y Y<|Zf Y Y<|Zf Y Y<|HY Y (AZ i7 RK Y Y A0) V rfl ?_;refine Lg Y (Gn Wo (I)) (AA (cs:=#[_,_,_,_]) isAgg270 RK Y A0 B) V rfl ?_;refine Zf Y Y<|Xr [_,_] Y call220 Y V (Yr x t)<|Yg (CJ Y Y)<|Zv (AL Y Y) ?_
 rotate_left
 focus
  refine AG<|AG<|AG<|AG<|Zv (AO Y Y) ?_
 all_goals
  refine Za Y<|B1 Y<|Zn [6,7] ?_;refine Zx<|AJ<|Di V results219 Y Y (by exact ⟨i,_,V,X,K,J,V⟩)
theorem ah(p:B8)(n c:Nat):BQ prog 221 #[.slice p n c] [] (fun r H'=>∃b,r= .func (.func 254) #[] #[I1 b]/\H'=[[(b,.cells #[.slice p n c] 271 (0,0))]]):=by
 refine Se func221 ntmps221 [0] ?_;intro u R;refine A3<|Ze (Bx #[_])<|AF fun b=>AH Y<|A3<|Zv (Bg (vs:=[]) (us:=[_]) Y Y)<|Ax Y<|AX V results221 Y (by exact ⟨_,V,V⟩)
theorem ai{ls:List IvM}(hv:U6 M v ls)(b:Nat)(hn:ls.length<=1000000):Mj prog 254 #[I1 b] [[(b,.cells #[v] 271 (0,0))]] (fun s=>∀c∈M,c∈s) (fun x:Nat×IvM=>#[I0 ((x.1:Nat):Int),.agg #[I0 x.2.lo,I0 x.2.hi,I0 x.2.rc,I0 x.2.id]]) (bwd ls):=by
 have bn:=mL;obtain ⟨p,cap,rfl,hl,hg⟩:=hv;intro l J Jx hA hy s B;refine Se func254 ntmps254 [0,1] ?_;intro u R;refine A3<|Zl isAgg271 Y ?_;refine Zv (AR i7 Y) ?_
 (refine Ba (Gu Y Y (IntWalk.i64_in _ ?_)) ?_;(focus (omega)))
 refine AH Y<|AP<|Zb [3,0,1] ?_;refine Ay (e0:=[(3,_)]) (fun m e H=>∃(k:Nat) (s:List A8),m=0+k/\(k<=ls.length/\J ((bwd ls).take (ls.length -k)) s)/\e=[(3,I0 ((k:Int) -1))]/\H=[[(b,.cells #[.slice p ls.length cap] 271 (0,0))],s]) (by exact ⟨ls.length,s,rfl,⟨CT _,by rw [W1,MT];exact B⟩,rfl,rfl⟩) Wp ?_;rintro _ _ _ ⟨k,s,rfl,⟨hk,B⟩,rfl,rfl⟩;refine B7 Y<|Zv (IL Y Y)<|A5<|Ap Y (fun X=>?_) (fun X=>?_);·
  obtain ⟨m,rfl⟩:∃m,k=m+1:=⟨k -1,by omega⟩;rw [show(((m+1:Nat):Int) -1)=((m:Nat):Int) by omega];obtain ⟨z9,O⟩:∃z9,ls[m]?=some z9:=⟨_,BE A0⟩;have I:=gY O
  obtain ⟨g,o,cur,T,zz,rfl,hm,ax,K⟩:=hg m z9 O;have Z:=hy _ _ _ s (OC I) B
  refine B4<|Zq<|AP<|AN Y<|Zm Y<|Zl isAgg271 Y ?_;refine Zm Y<|Ba (AZ i7 RK Y Y A0)<|CO (Gn Wo (hA _ s B _ hm)) (AA (cs:=#[_,_,_,_]) isAgg270 RK Y A0 K) V rfl ?_;refine Ze (GX (vs:=[_,_]) Y Y (Z) Wp) ?_;rintro _ _ ⟨_,⟨s',rfl,af⟩,rfl⟩;rcases af with⟨rfl,U⟩|⟨rfl,hJx⟩
  ·
   refine Zv (Bh Y)<|A5<|AY Y (fun G=>by cases G)<|fun G=>AC<|A9<|Zx<|Zg<|Zm Y ?_
   (refine Ba (Gu Y Y (IntWalk.i64_in _ ?_)) ?_;(focus (omega)))
   refine B1 Y<|DM (e:=[(3,_)]) (h:=by exact ⟨m,s',rfl,⟨by omega,by rw [show ls.length -m=ls.length -(m+1)+1 by omega,Bq I];exact U⟩,rfl,rfl⟩)
  refine Zv (Bh Y)<|A5<|AY Y (fun G=>?_) (fun G=>?_);·
   refine AJ<|Ag<|Zt<|Zt<|Ag ?_;refine D6 V results254 (by exact ⟨s',V,.inr ⟨_,hJx⟩⟩)
  cases G
 have W:k=0:=by omega
 subst W;rw [W0,LS (by rw [XX];exact CT _)]at B;refine BB<|Zt<|Zt<|AV<|D6 V results254 (by exact ⟨s,V,.inl B⟩)
theorem XT(hv:U6 M lv l)(hn:l.length<=1000000)(hs:l.Pairwise fun a b=>a.lo<=b.lo)(v:Int)(j5:-1000000000000<=v/\v<=1000000000000)(bl W:Nat):FC prog 218 #[I1 bl,I1 W] [[(bl,.cells #[lv] 271 (0,0))],[(W,.cells #[I0 v] 3 (0,0))]] (fun s=>∀c∈M,c∈s) (fun i:Int=>#[I0 i]) (Ih v l):=by
 have j3:=mL;obtain ⟨p,cap,rfl,⟨hl,ic⟩,hg⟩:=id hv;intro ly J hA hy s B;refine Ct func218 V ntmps218 V ?_;intro u R;refine Zb [0,1,2] ?_;refine A3<|Ze (Bx #[_])<|AF fun by_=>A5<|A3<|Zl isAgg271 Y ?_;refine Zl AE Y ?_;refine Yi Y Y<|Zc [_,_,_] Y call219 Y V (XY (hv.mono (hA _ s B)) hn hs (v+1)) ?_;rintro _ _ ⟨_,⟨e,fb,rfl,O,bn,cu,rfl⟩,rfl⟩;have K:l.takeWhile (fun x=>decide (x.lo<=v))=l.take e:=O8 _ O (fun k x hk hx=>DO (by have:=bn k x hk hx;omega)) (fun k x hk hx=>F0 (by have:=cu k x hk hx;omega))
 refine Zm Y<|Zd Y V<|Zd Y V<|Za Y<|AH Y<|A3<|Zl isAgg271 Y ?_;refine Zm Y<|Ba (Bn i7 RK Y Y A0)<|Zc [_] Y call221 Y V (ah _ _ _) ?_;rintro _ _ ⟨_,⟨bb,rfl,rfl⟩,rfl⟩;refine Z0<|Zn [2,3,18] ?_;refine Zx<|AP<|Zb [2,3,18] ?_;refine Xc (Ix:=(fun(_:List (Nat×IvM)) H=>∃s,J (Ih v l) s/\H=[[(W,.cells #[I0 v] 3 (0,0))],[(by_,.cells #[.func (.yield ly) #[] #[]] 108 (0,0))],s])) (H0:=_) (R:=_) (I:=(fun(pre:List (Nat×IvM)) H=>∃s,(J (Mw v pre) s/\∀y∈pre,v<=y.2.rc)/\H=[[(W,.cells #[I0 v] 3 (0,0))],[(by_,.cells #[.func (.yield ly) #[] #[]] 108 (0,0))],s])) (E:=fun x e Hn=>∃Z,e=[(7,I1 Z),(20,.agg #[I0 x.2.lo,I0 x.2.hi,I0 x.2.rc,I0 x.2.id]),(19,I0 ((x.1:Nat):Int))]/\Hn=[[(Z,.cells #[I0 x.2.lo,I0 x.2.hi,I0 x.2.rc,I0 x.2.id] 270 (0,0))]]) rfl Y call254 (ai (hv.take O) bb (by rw [Cl];omega)) (by rintro pre _ c d ⟨s,X,rfl⟩;intro q hq;have:=hA _ s X.1 q hq;simp [this]) Y rfl Wp (⟨s,⟨B,fun y hy=>by simp at hy⟩,rfl⟩) ?ha_2 ?hbd_2 ?hk_2 ?hkx_2
 case' ha_2=>
  intro _ x _ _;refine Zg<|Ze (Al zeroValue270 #[_,_,_,_])<|AF fun b2=>Xe (Xw RK _) ?_;refine Z0<|Lh (e:=[(7,_),(20,_),(19,_)]) (Hn:=[[(_,_)]]) ?_;exact ⟨_,V,V⟩
 case' hbd_2=>
  intro l pre x gm u e9 gy H1 R1 r9 U hI af;obtain ⟨Z,rfl,rfl⟩:=af;obtain ⟨s,⟨B,m⟩,rfl⟩:=hI;refine AP<|Zq<|A3<|Zh 2 ao V rfl A6 Y<|Zl AE Y ?_;refine Zl AE Y ?_;refine Zv (Dz Y Y)<|A5<|Ap Y (fun X=>?_) (fun X=>?_);·
   refine AJ<|Zt<|Ag ?_;refine lI rfl (by exact ⟨s,by rw [<-nQ K U m X];exact B,rfl⟩)
  have g:∀y∈pre++[x],v<=y.2.rc:=fun y hy=>(CI.1 hy).elim (m y) (fun h=>by rw [CH.1 h];omega);refine AC<|CD<|Zh 1 ao V rfl A6 Y<|Zl AE Y ?_;refine Zl AE Y ?_;refine Zv (IL Y Y)<|Zm Y<|Ae (t:=29) Y V (fun h2=>?_) (fun h2=>?_);·
   obtain ⟨ek,cO⟩:=gQ K U g h2;have d9:=hy _ _ _ s cO B
   refine Yl isAgg108 Y ?_;refine Yf 3 ao V rfl A6 Y<|Yl AE Y ?_;refine Ze (GX (vs:=[_]) Y Y (d9) Wp) ?_;rintro _ _ ⟨_,⟨s',rfl,rfl,ax⟩,rfl⟩;refine Yg (Bh Y)<|BT Y Y<|Z0<|Zn [35] ?_;refine Zx<|AY Y (fun hb=>by cases hb)<|fun hb=>AC<|A9<|VX rfl (by exact ⟨s',⟨by rw [SN,B0 h2];exact ax,g⟩,rfl⟩)
  refine AG<|AG<|C5<|BW Y Y<|Z0<|Zn [35] ?_;refine Zx<|DW Y<|AC<|A9<|VX rfl (by exact ⟨s,⟨by rw [SN,As h2,DQ];exact B,g⟩,rfl⟩)
 case' hk_2=>
  intro D1 H2 G;obtain ⟨s,⟨B,m⟩,rfl⟩:=G;rw [uk K m]at B;refine Zn [] ?_;refine A9 ?_
 case' hkx_2=>
  intro D1 gq H2 G;obtain ⟨s,B,rfl⟩:=G;refine Ag ?_
 all_goals
  refine Gv V (rN results218) Wo (by exact ⟨s,V,B⟩)
end Go.Proofs.YtelliknjeemfoaaGreatDoor
