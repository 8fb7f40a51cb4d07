/- slices.Clone of proofs and records; proof.Build. -/
import Derived.Test.YtlkdhannldcfbaaGreatDoorPy3
set_option linter.unusedVariables false
set_option linter.unusedSimpArgs false
namespace Go.Proofs.YtlkdhannldcfbaaGreatDoor
open Go.Proofs.Tryz
open Go Go.RowKit Gw
set_option maxRecDepth 100000
attribute [local irreducible] Gw.At Gw.Nx Gw.Ops
variable{M:List AU}{p:B7}
theorem Ti{α:Type}(f:α->List A4)(sz:Nat)(U:∀a,(f a).length=sz)(h0:0<sz){l:List α}(W:∀(i:Nat) (a:α),l[i]?=some a->∃g off cur T zz,p=some ⟨g,off,none⟩/\(g,Obj.cells cur T zz)∈M/\off+i*sz+sz<=cur.size/\cur.extract (off+i*sz) (off+i*sz+sz)=(f a).toArray):GR M p (l.flatMap f):=by
 intro j u I;have y:(l.flatMap f).length=l.length*sz:=by
  clear W I;induction l with
  |nil=>simp
  |cons a l ih=>rw [HF,zq,ih,U,D3,It];omega
 have m:=(zt.1 I).1;rw [y]at m;have hd:=Nat.div_add_mod j sz
 have X:=eS j h0;have hi:j/sz<l.length:=iz (by rw [gS];exact m)
 obtain ⟨a,O⟩:∃a,l[j/sz]?=some a:=⟨_,zn hi⟩;obtain ⟨g,off,cur,T,zz,rfl,E,J,G⟩:=W (j/sz) a O;refine ⟨g,off,cur,T,zz,V,E,?_⟩;have h1:=PU G J (j%sz) X
 have h2:=Gq f sz U l (j/sz) a O;have Z:j/sz*sz+j%sz=j:=by rw [gS];exact hd
 have K:(l.flatMap f)[j/sz*sz+j%sz]?=(f a)[j%sz]?:=by rw [<-h2,Gk,B0 X,Hh]
 rw [Z,I]at K;rw [show off+j=off+j/sz*sz+j%sz by omega,h1,cE];exact K.symm
variable{cap n:Nat}
theorem Uf{Z:List RPZ}(h:ZsU M (.slice p n cap) Z):GR M p (Z.flatMap El):=by
 obtain ⟨y,g,e,_,m⟩:=h;injection e with e1 e2 e3
 subst e1;exact Ti _ 9 (fun _=>rfl) AK fun i z hz=>(m i z hz).2
variable{l:List Bg}
theorem Sb(h:Cw M (.slice p n cap) l):GR M p (Dl l):=by
 obtain ⟨y,g,e,_,m⟩:=h;injection e with e1 e2 e3
 subst e1;exact Ti _ 2 (fun _=>rfl) AK fun i z hz=>(m i z hz).2
theorem Ng(l:List Bg):(Dl l).length=l.length*2:=by
 induction l with
 |nil=>rfl
 |cons a l ih=>unfold Dl at*;rw [HF,zq,ih];simp only [D3,KK];omega
theorem Ov(l:List Bg):∀u∈Dl l,u.oneCell'=true:=by
 intro u g;obtain ⟨z,_,h⟩:=N6.1 g;simp only [E4,Mu,N3]at h;rcases h with rfl|rfl<;>rfl
structure JX where
 q:QM
 res:CP
 since:Int
 until_:Int
 base:Int
 ranges:List RP
 recs:List Bg
structure Fq where
 a:JX
 rp:B7
 rc:Nat
 gp:B7
 gc:Nat
 cp:B7
 cc:Nat
abbrev Fq.Ao7(c:Fq):Array Go.Value:=#[I4 c.a.q.kd,I4 c.a.q.tb,I4 c.a.q.cl,I4 c.a.q.lo,I4 c.a.q.hi,I4 c.a.q.bq,I4 c.a.q.ot,.slice c.rp c.a.res.rows.length c.rc,I4 c.a.res.val,.bool c.a.res.fnd,I4 c.a.since,I4 c.a.until_,I4 c.a.base,.slice c.gp c.a.ranges.length c.gc,.slice c.cp c.a.recs.length c.cc]
def Fq.ok(M:List AU)(z:Fq):Prop:=Da M (.slice z.rp z.a.res.rows.length z.rc) z.a.res.rows/\FE M (.slice z.gp z.a.ranges.length z.gc) z.a.ranges/\Cw M (.slice z.cp z.a.recs.length z.cc) z.a.recs
variable{v:A4}
theorem Ey{M':List AU}(h:Cw M v l)(K:∀c∈M,c∈M'):Cw M' v l:=by
 obtain ⟨p,cap,e,W,U⟩:=h;refine ⟨p,cap,e,W,fun i r X=>?_⟩;obtain ⟨⟨Z,m,O,J,I⟩,g,off,cur,T,zz,y,E,G⟩:=U i r X;refine ⟨⟨Z,m,O,J,fun j c hc=>?_⟩,g,off,cur,T,zz,y,K _ E,G⟩;obtain ⟨g,off,cur,T,zz,y,E,G⟩:=I j c hc;exact ⟨g,off,cur,T,zz,y,K _ E,G⟩
theorem Fq.ok.mono{M':List AU}{z:Fq}(h:z.ok M)(g:∀c∈M,c∈M'):z.ok M':=⟨h.1.mono g,h.2.1.mono g,Ey h.2.2 g⟩
noncomputable def EG(q:QM)(base:Int)(L:List RP)(recs:List Bg):Option JX:=(Cz q L).bind fun r=>if recs.length<=64 then(Gr q base 0 (r,base) recs).map fun st=>⟨q,st.1,st.2,base+(recs.length:Int),base,L,recs⟩else none
variable{q:QM}{base:Int}{L:List RP}
theorem fF{recs:List Bg}(h:¬recs.length<=64):EG q base L recs=none:=by
 unfold EG;cases Cz q L with
 |none=>rfl
 |some r=>rw [IF,As h]
variable{r:CP}
theorem LV{recs:List Bg}(g:Cz q L=some r)(h:recs.length<=64):EG q base L recs=(Gr q base 0 (r,base) recs).map fun st=>⟨q,st.1,st.2,base+(recs.length:Int),base,L,recs⟩:=by
 unfold EG;rw [g,IF,B0 h]
theorem YO(h:(D7 q r base l).2.2=true):Gr q base 0 (r,base) l=some ((D7 q r base l).1,(D7 q r base l).2.1):=by
 unfold D7 at*;split at h;· rename_i st h9;rw [h9]
 · cases h
theorem YP(h:(D7 q r base l).2.2=false):Gr q base 0 (r,base) l=none:=by
 unfold D7 at*;split at h;· cases h
 · rename_i h9;exact h9
theorem iN(hq:BS q){rows g:List AY}(hl:rows.length<=100)(G:∀r∈rows,r.ok):(EZ q rows g).rows.length<=200/\-1000000000000000000<=(EZ q rows g).val/\(EZ q rows g).val<=1000000000000000000:=by
 have E:=iB (q:=q) (rows:=rows) (fun r X=>NF (G r X) q.bq);have y:(Cy q rows).length<=1000000000:=by rw [LC];omega
 have Z:=TS q rows g;have hx:∀(lt:Int->Int->Bool) (hlt:∀a b c,lt b a=false->lt c b=false->lt c a=false) (hirr:∀a,lt a a=false) (hasy:∀a b,lt a b=true->lt b a=false),(Ej lt (Cy q rows)).rows.length<=200/\-1000000000000000000<=(Ej lt (Cy q rows)).val/\(Ej lt (Cy q rows)).val<=1000000000000000000:=fun lt K O U=>by
  cases hms:Cy q rows with
  |nil=>exact ⟨C2 _,by show(_:Int)<=0;decide,by show(0:Int)<=_;decide⟩
  |cons z ms=>
   obtain ⟨x,I,_,J⟩:=LM lt K O U z ms;rw [J];rw [hms]at E;have:=E x I
   exact ⟨C2 _,by show _<=x;omega,by show x<=_;omega⟩
 have m:=gK E y (Cy q rows).length;rw [G0]at m;unfold EZ;split;· exact ⟨C2 _,by simp only;omega,by simp only;omega⟩
 · split
   · exact ⟨C2 _,m⟩
   · split
     · exact hx _ (fun a b c W h2=>by simp only [Nd]at*;omega) (fun a=>by simp) (fun a b h=>by simp only [I2,Nd]at*;omega)
     · split
       · exact hx _ (fun a b c W h2=>by simp only [Nd]at*;omega) (fun a=>by simp) (fun a b h=>by simp only [I2,Nd]at*;omega)
       · split
         · exact ⟨by simp only;omega,by simp only;decide,by simp only;decide⟩
         · exact ⟨by simp only;omega,by simp only;decide,by simp only;decide⟩
theorem jL{sz:Nat}{e:AM}{xs:List A4}{s:List AU}(h:BZ sz e v n xs s):n<=maxLen:=by
 obtain ⟨_,⟨_,h0,_⟩|⟨_,_,_,_,_,_,g,h2,_⟩⟩:=h;· omega
 · omega
theorem Og(h:Cz q L=some r):BS q/\r.rows.length<=200/\-1000000000000000000<=r.val/\r.val<=1000000000000000000:=by
 obtain ⟨x,E,_,g,_,hc,m,y⟩:=K5 h;refine ⟨g,?_⟩;rcases y with⟨_,_,rfl⟩|⟨_,o,_,rfl⟩
 · exact iN g m (Ki hc).2
 · exact iN g m (Ki hc).2
theorem Qn{Z:List RPZ}(hv:ZsU M v Z)(X:Z.length<=1000000):Bz prog 44 #[v] [M] (fun r H'=>∃sr,BZ 9 87 r Z.length (Z.flatMap El) sr/\H'=[sr,M]):=by
 have U:=mL;have y:=hv
 obtain ⟨p,cap,rfl,⟨hl,O⟩,K⟩:=id hv;replace y:=Uf y;refine Se func44 ntmps44 [0] ?_;intro u R;refine A1<|A3 Y<|Zq<|A1<|Zm Y<|Zv (Gm DQ Y Y)<|AD<|Ad Y (fun I=>?_) (fun I=>?_);·
  have E:p=none:=by cases p with
   |none=>rfl
   |some x=>cases I
  have h0:Z=[]:=by
   cases Z with
   |nil=>rfl
   |cons x l=>obtain ⟨_,g,off,cur,T,zz,G,_⟩:=K 0 x rfl;rw [E]at G;cases G
  refine Zq<|Bl<|Zg<|A3 Y<|AA<|Zt<|AC rfl results44 Y (by exact ⟨[],by rw [h0];exact Ba 9 _,rfl⟩)
 refine AB<|Zx<|A1<|Ze (EN DQ DE)<|AF fun J=>Zm Y<|Ze (Fs (by_:=120) (sz:=9) DQ (V:Tryz.prog.info? 87=some Tryz.t87) V rfl V rfl Y (EX 9 87 J 0 [] V AK) Y (y) (by exact vg _) AK Wo Wo (by exact lZ _) A0 A0) ?_;rintro _ _ ⟨W,m,rfl⟩;replace m:=BH m (C6 _) (L5 _);refine A3 Y<|AA<|AC V results44 Y (by exact ⟨_,m,V⟩)
theorem KV{Z:List Bg}(hv:Cw M v Z)(X:Z.length<=1000000):Bz prog 45 #[v] [M] (fun r H'=>∃sr,BZ 2 81 r Z.length (Dl Z) sr/\H'=[sr,M]):=by
 have U:=mL;have y:=hv
 obtain ⟨p,cap,rfl,⟨hl,O⟩,K⟩:=id hv;replace y:=Sb y;refine Se func45 ntmps45 [0] ?_;intro u R;refine A1<|A3 Y<|Zq<|A1<|Zm Y<|Zv (Gm Fl Y Y)<|AD<|Ad Y (fun I=>?_) (fun I=>?_);·
  have E:p=none:=by cases p with
   |none=>rfl
   |some x=>cases I
  have h0:Z=[]:=by
   cases Z with
   |nil=>rfl
   |cons x l=>obtain ⟨_,g,off,cur,T,zz,G,_⟩:=K 0 x rfl;rw [E]at G;cases G
  refine Zq<|Bl<|Zg<|A3 Y<|AA<|Zt<|AC rfl results45 Y (by exact ⟨[],by rw [h0];exact Ba 2 _,rfl⟩)
 refine AB<|Zx<|A1<|Ze (EN Fl E6)<|AF fun J=>Zm Y<|Ze (Fs (by_:=32) (sz:=2) Fl (V:Tryz.prog.info? 81=some Tryz.t81) V rfl V rfl Y (EX 2 81 J 0 [] V AK) Y (y) (by exact Ng _) AK Wo Wo (by exact Ov _) A0 A0) ?_;rintro _ _ ⟨W,m,rfl⟩;replace m:=BH m (C6 _) (L5 _);refine A3 Y<|AA<|AC V results45 Y (by exact ⟨_,m,V⟩)
variable{pg:B7}{cg:Nat}{lv:A4}
set_option maxHeartbeats 1000000 in
theorem rU(q:QM)(te base:Int)(hb:-1000000000000<=base/\base<=1000000000000)(hL:FE M (.slice pg L.length cg) L)(l8:L.length<=1000000)(hr:Cz q L=some r)(K:Cw M lv l)(d9:∀x∈l,x.cs.length<=1000):Bz prog 16 #[.agg #[I4 q.kd,I4 q.tb,I4 q.cl,I4 q.lo,I4 q.hi,I4 q.bq,I4 q.ot,I4 te,I4 base,.slice pg L.length cg],lv] [M] (fun w H'=>(∃(z:Fq) (s3 s1 s2:List AU),EG q base L l=some z.a/\z.ok (s3++(s1++(s2++M)))/\w= .tuple #[.agg #[I4 z.a.q.kd,I4 z.a.q.tb,I4 z.a.q.cl,I4 z.a.q.lo,I4 z.a.q.hi,I4 z.a.q.bq,I4 z.a.q.ot,.slice z.rp z.a.res.rows.length z.rc,I4 z.a.res.val,.bool z.a.res.fnd,I4 z.a.since,I4 z.a.until_,I4 z.a.base,.slice z.gp z.a.ranges.length z.gc,.slice z.cp z.a.recs.length z.cc],.bool true]/\H'=[s3,s1,s2,M])\/(EG q base L l=none/\w= .tuple #[.agg #[I4 0,I4 0,I4 0,I4 0,I4 0,I4 0,I4 0,.slice none 0 0,I4 0,.bool false,I4 0,I4 0,I4 0,.slice none 0 0,.slice none 0 0],.bool false]/\H'=[M])):=by
 have o8:=mL;obtain ⟨hq,o9,gy⟩:=Og hr;obtain ⟨pl,cl,rfl,l9,mR⟩:=id K;obtain ⟨Z,hZ,W⟩:=id hL;have U:Z.length=L.length:=by rw [<-W,zu]
 obtain ⟨pz,cz,ez,_,kv⟩:=id hZ;refine Se func16 ntmps16 [0,1] ?_;intro u R;refine A1<|Ze (Bx #[I4 q.kd,I4 q.tb,I4 q.cl,I4 q.lo,I4 q.hi,I4 q.bq,I4 q.ot,I4 te,I4 base,.slice pg L.length cg])<|AF fun be=>Ze (Al Hv #[_,_,_,_,_,_,_,_,_,_,_,_,_,_,_])<|AF fun bo=>A3 Y<|A1<|Zh 0 OS V rfl CM Y<|Zo Wh (A9 (cs:=#[_,_,_,_,_,_,_]) F2 CM Y B5 An) ?_;refine Zh 9 OS V rfl DB Y<|Zl E0 Y ?_;refine Zc [_,_] Y call43 Y V (tu hL q hr) ?_;rintro _ _ ⟨_,⟨p8,s0,rfl,h0,rfl⟩,rfl⟩;obtain ⟨p0,c0,rfl⟩:=h0.form;have cO:=D6 h0 A0
 refine Zm Y<|Zd Y V<|Zd Y V<|Ze (Al GW #[_,_,_])<|AF fun bs=>Xe (Xw B6 #[.slice p0 r.rows.length c0,I4 r.val,.bool r.fnd]) ?_;refine AH Y<|Zn [1,2,4,6,7] ?_;refine Zx<|Zq<|A1<|Zm Y<|Zv (Cj Y)<|Zm Y<|Ah (t:=19) Y V (fun X=>by cases X)<|fun X=>Zf Y Y<|Yg (AP Fl Y)<|Yg (CO (n:=64) Y Y)<|Zv (AL Y Y)<|AD<|Ak Y (fun af=>?_) (fun af=>?_);·
  refine A1<|Zv (BQ (vs:=[]) (cs:=#[_,_,_,_,_,_,_,_,_,_,_,_,_,_,_]) Y (Aa (pl:=#[(0,7),(7,3),(10,1),(11,1),(12,1),(13,1),(14,1)]) Hv BW (fun _=>by kernel_rfl) rfl))<|Xe (BN F1 Y Y HU Wu (by exact DD rfl) Ek AK (by exact BU _)) ?_;refine A3 Y<|AA<|Zt<|CJ V results16 Y Wh (Ar HP F1 Wn (BA V)) Y (by exact .inr ⟨fF A0,V,V⟩)
 refine AB<|Zx<|Zb [1,2,4,6] ?_;refine CL (e0:=[]) (H0:=[]) (fun e H=>∃(G:Nat) (E:B7) (y:Nat) (s1:List AU) (m:B7) (g:Nat) (s2:List AU),(BZ 9 87 (.slice E L.length y) Z.length (Z.flatMap El) s1/\BZ 2 81 (.slice m l.length g) l.length (Dl l) s2)/\e=[(8,I5 G)]/\H=[[(G,.cells #[I4 q.kd,I4 q.tb,I4 q.cl,I4 q.lo,I4 q.hi,I4 q.bq,I4 q.ot,.slice none 0 0,I4 0,.bool false,I4 0,I4 (base+(l.length:Int)),I4 base,.slice E L.length y,.slice m l.length g] 40 (0,0))],s1,s2]) Wp ?hx_2 ?hy_2
 case hx_2=>
  refine BJ (n:=17) (0::1::0::4::0::16::60::0::128::0::512::1536::0::7680::16383::0::65535::[]) 108544 AG AG V<|A2 0 V (AV (off:=0) OS V rfl CM Y)<|Fc 1 V Wh (A9 (cs:=#[_,_,_,_,_,_,_]) F2 CM Y B5 An) ?_;refine A2 2 V (AV (off:=8) OS V rfl A5 Y)<|B2 3 V AE Y ?_;refine A2 4 V (AJ Y)<|A2 5 V (AP Fl Y) ?_
  (refine Bq (D':=127) 6 (EU Y Y (IntWalk.i64_in _ ?_)) ?_;(focus (omega)))
  refine A2 7 V (AV (off:=8) OS V rfl A5 Y)<|B2 8 V AE Y ?_;refine A2 9 V (AV (off:=9) OS V rfl DB Y)<|B2 10 V E0 Y ?_;refine A2 12 V (AJ Y)<|Zz (l:=[11,15])<|BE [false,true,true,true] [(8,(_,_)),(3,(_,_)),(1,(_,_))] V rfl (Zw [_] Y call44 Y V (Qn hZ A0)) ?_ Co ?_;·
   rintro _ _ ⟨_,⟨s1,I,rfl⟩,rfl⟩;refine ⟨Zk (Zk (Zk (Ae))),?_⟩;obtain ⟨E,y,O⟩:=I.form;rw [U]at O;subst O;refine Zz (l:=[13,15])<|BE [true,true,true] [(8,(_,_)),(3,(_,_)),(1,(_,_))] V rfl (Zw [_] Y call45 Y V (KV K A0)) ?_ Co ?_;·
    rintro _ _ ⟨_,⟨s2,h2,rfl⟩,rfl⟩;refine ⟨Zk (Zk (Zk (Ae))),?_⟩;obtain ⟨m,g,rfl⟩:=h2.form;refine A2 14 V (BQ (vs:=[(0,.agg #[I4 q.kd,I4 q.tb,I4 q.cl,I4 q.lo,I4 q.hi,I4 q.bq,I4 q.ot]),(3,I4 (base+(l.length:Int))),(4,I4 base),(5,.slice E L.length y),(6,.slice m l.length g)]) (cs:=#[I4 q.kd,I4 q.tb,I4 q.cl,I4 q.lo,I4 q.hi,I4 q.bq,I4 q.ot,.slice none 0 0,I4 0,.bool false,I4 0,I4 (base+(l.length:Int)),I4 base,.slice E L.length y,.slice m l.length g]) Y (Aa (pl:=#[(0,7),(7,3),(10,1),(11,1),(12,1),(13,1),(14,1)]) Hv BW (fun _=>by kernel_rfl) AG))<|Yz 15 0 65535 [8,3,1] [true,true,true] [(8,(_,_)),(3,(_,_)),(1,(_,_))] V Y V rfl V rfl (Al Hv #[_,_,_,_,_,_,_,_,_,_,_,_,_,_,_])<|AF fun G=>BT<|Yw 16 131071 V (Xw F1 #[I4 q.kd,I4 q.tb,I4 q.cl,I4 q.lo,I4 q.hi,I4 q.bq,I4 q.ot,.slice none 0 0,I4 0,.bool false,I4 0,I4 (base+(l.length:Int)),I4 base,.slice E L.length y,.slice m l.length g])<|C3<|Ao<|Zn [8,1,2,4,6] ?_;refine Aq (e':=[(8,_)]) (by exact ⟨G,E,y,s1,m,g,s2,⟨I,h2⟩,V,V⟩)
   refine BE [true,true,true] [(8,(_,_)),(3,(_,_)),(1,(_,_))] V rfl (Al Hv #[_,_,_,_,_,_,_,_,_,_,_,_,_,_,_]) ?_ (fun _ _ h=>h.elim) Ay;rintro _ _ ⟨G,rfl,rfl⟩;refine BT<|Zz (l:=[13])<|BE [true,true,true] [(8,(_,_)),(3,(_,_)),(1,(_,_))] V rfl (Zw [_] Y call45 Y V (KV K A0)) ?_ Co Ay;rintro _ _ ⟨_,⟨s2,h2,rfl⟩,rfl⟩;refine ⟨Zk (Zk (Zk (Ae))),?_⟩;obtain ⟨m,g,rfl⟩:=h2.form;refine A2 14 V (BQ (vs:=[(0,.agg #[I4 q.kd,I4 q.tb,I4 q.cl,I4 q.lo,I4 q.hi,I4 q.bq,I4 q.ot]),(3,I4 (base+(l.length:Int))),(4,I4 base),(5,.slice E L.length y),(6,.slice m l.length g)]) (cs:=#[I4 q.kd,I4 q.tb,I4 q.cl,I4 q.lo,I4 q.hi,I4 q.bq,I4 q.ot,.slice none 0 0,I4 0,.bool false,I4 0,I4 (base+(l.length:Int)),I4 base,.slice E L.length y,.slice m l.length g]) Y (Aa (pl:=#[(0,7),(7,3),(10,1),(11,1),(12,1),(13,1),(14,1)]) Hv BW (fun _=>by kernel_rfl) AG))<|Yw 16 131071 V (Xw F1 #[I4 q.kd,I4 q.tb,I4 q.cl,I4 q.lo,I4 q.hi,I4 q.bq,I4 q.ot,.slice none 0 0,I4 0,.bool false,I4 0,I4 (base+(l.length:Int)),I4 base,.slice E L.length y,.slice m l.length g])<|C3<|Ao<|Zn [8,1,2,4,6] ?_;refine Aq (e':=[(8,_)]) (by exact ⟨G,E,y,s1,m,g,s2,⟨I,h2⟩,V,V⟩)
  refine BE [true,true,true,true] [(10,(_,_)),(8,(_,_)),(3,(_,_)),(1,(_,_))] V rfl (Al Hv #[_,_,_,_,_,_,_,_,_,_,_,_,_,_,_]) ?_ (fun _ _ h=>h.elim) Ay;rintro _ _ ⟨G,rfl,rfl⟩;refine BT<|Zz (l:=[11])<|BE [false,true,true,true] [(8,(_,_)),(3,(_,_)),(1,(_,_))] V rfl (Zw [_] Y call44 Y V (Qn hZ A0)) ?_ Co Ay;rintro _ _ ⟨_,⟨s1,I,rfl⟩,rfl⟩;refine ⟨Zk (Zk (Zk (Ae))),?_⟩;obtain ⟨E,y,O⟩:=I.form;rw [U]at O;subst O;refine Zz (l:=[13])<|BE [true,true,true] [(8,(_,_)),(3,(_,_)),(1,(_,_))] V rfl (Zw [_] Y call45 Y V (KV K A0)) ?_ Co Ay;rintro _ _ ⟨_,⟨s2,h2,rfl⟩,rfl⟩;refine ⟨Zk (Zk (Zk (Ae))),?_⟩;obtain ⟨m,g,rfl⟩:=h2.form;refine A2 14 V (BQ (vs:=[(0,.agg #[I4 q.kd,I4 q.tb,I4 q.cl,I4 q.lo,I4 q.hi,I4 q.bq,I4 q.ot]),(3,I4 (base+(l.length:Int))),(4,I4 base),(5,.slice E L.length y),(6,.slice m l.length g)]) (cs:=#[I4 q.kd,I4 q.tb,I4 q.cl,I4 q.lo,I4 q.hi,I4 q.bq,I4 q.ot,.slice none 0 0,I4 0,.bool false,I4 0,I4 (base+(l.length:Int)),I4 base,.slice E L.length y,.slice m l.length g]) Y (Aa (pl:=#[(0,7),(7,3),(10,1),(11,1),(12,1),(13,1),(14,1)]) Hv BW (fun _=>by kernel_rfl) AG))<|Yw 16 131071 V (Xw F1 #[I4 q.kd,I4 q.tb,I4 q.cl,I4 q.lo,I4 q.hi,I4 q.bq,I4 q.ot,.slice none 0 0,I4 0,.bool false,I4 0,I4 (base+(l.length:Int)),I4 base,.slice E L.length y,.slice m l.length g])<|C3<|Ao<|Zn [8,1,2,4,6] ?_;refine Aq (e':=[(8,_)]) (by exact ⟨G,E,y,s1,m,g,s2,⟨I,h2⟩,V,V⟩)
 rintro _ _ ⟨G,E,y,s1,m,g,s2,⟨I,h2⟩,rfl,rfl⟩;refine Zq<|A1<|Zh 0 OS V rfl CM Y<|Zo Wh (A9 (cs:=#[_,_,_,_,_,_,_]) F2 CM Y B5 An) ?_;refine Zo Wh (A9 (cs:=#[_,_,_]) CC B6 Y B5 An) ?_;refine Zh 8 OS V rfl A5 Y<|Zl AE Y ?_;refine Zm Y<|Zc [_,_,_,_] Y call46 Y V (YN q hq base A0 K A0 d9 cO A0 gy) ?_;rintro _ _ ⟨_,⟨p9,s3,rfl,h3,rfl⟩,rfl⟩;obtain ⟨g3,c3,rfl⟩:=h3.form;refine Zm Y<|Zd Y rfl<|Zd Y rfl<|Zd Y rfl<|Zh 7 BW rfl rfl B6 Y<|Xe (BN B6 Y Y HU Wu (by exact (rfl:_=(#[I4 q.kd,I4 q.tb,I4 q.cl,I4 q.lo,I4 q.hi,I4 q.bq,I4 q.ot,.slice g3 (D7 q r base l).1.rows.length c3,I4 (D7 q r base l).1.val,.bool (D7 q r base l).1.fnd,I4 0,I4 (base+(l.length:Int)),I4 base,.slice E L.length y,.slice m l.length g]:AN))) Ek B5 (by exact BU _)) ?_;refine Zh 10 BW V rfl A5 Y<|Xe (Zs A5 Y Y V (hc:=by exact (V:_=(#[I4 q.kd,I4 q.tb,I4 q.cl,I4 q.lo,I4 q.hi,I4 q.bq,I4 q.ot,.slice g3 (D7 q r base l).1.rows.length c3,I4 (D7 q r base l).1.val,.bool (D7 q r base l).1.fnd,I4 (D7 q r base l).2.1,I4 (base+(l.length:Int)),I4 base,.slice E L.length y,.slice m l.length g]:AN))) (hi:=by(simp;done))) ?_;refine AH Y<|Zn [4,7,8] ?_;refine Zx<|A1<|Zm Y<|Zv (Cj Y)<|AD<|Ad Y (fun J=>?_) (fun J=>?_);·
  have gm:(D7 q r base l).2.2=false:=by simpa using J
  refine A1<|Zv (BQ (vs:=[]) (cs:=#[_,_,_,_,_,_,_,_,_,_,_,_,_,_,_]) Y (Aa (pl:=#[(0,7),(7,3),(10,1),(11,1),(12,1),(13,1),(14,1)]) Hv BW (fun _=>by kernel_rfl) rfl))<|Xe (BN F1 Y Y HU Wu (by exact DD rfl) Ek AK (by exact BU _)) ?_;refine A3 Y<|AA<|Zt<|CJ rfl results16 Y Wh (Ar HP F1 Wn (BA rfl)) Y (by exact .inr ⟨by rw [LV hr A0,YP gm];rfl,rfl,rfl⟩)
 have bf:(D7 q r base l).2.2=true:=by simpa using J
 refine AB<|Zx<|Zq ?_;have bn:∀z∈Z,z.ok M:=fun z hz=>by obtain ⟨i,hi⟩:=H4 hz;exact (kv i z hi).1
 have ax:∀x∈l,Dq M (.slice x.q x.cs.length x.cap) x.cs:=fun x hx=>by obtain ⟨i,hi⟩:=H4 hx;obtain ⟨_,_,_,_,ek⟩:=K;exact (ek i x hi).1
 have gq:=YO bf;have kz:=Ex h3
 have cu:=jL h3;refine Zg<|Zo Wh (A9 (cs:=#[_,_,_,_,_,_,_,_,_,_,_,_,_,_,_]) HP F1 Y B5 An) ?_;refine Xe (BN F1 Y Y HU Wu (by exact DD rfl) Ek AK (by exact BU _)) ?_;refine A3 Y<|AA<|CJ rfl results16 Y Wh (Ar HP F1 Wn (BA rfl)) Y (by exact .inl ⟨⟨⟨q,(D7 q r base l).1,(D7 q r base l).2.1,base+(l.length:Int),base,L,l⟩,g3,c3,E,y,m,g⟩,s3,s1,s2,by rw [LV hr A0,gq];rfl,⟨(D6 h3 cu).mono (fun c hc=>E3 _ hc),⟨Z,(fQ I A0 bn).mono (fun c hc=>by rcases DM.1 hc with h9|h9;exact DA _ (E3 _ h9);exact DA _ (DA _ (DA _ h9))),W⟩,Ey (NJ h2 (by show l.length<=maxLen;omega) ax) (fun c hc=>DA _ (DA _ hc))⟩,rfl,rfl⟩)
def AZ0:Fq:=⟨⟨⟨0,0,0,0,0,0,0⟩,CP.none,0,0,0,[],[]⟩,none,0,none,0,none,0⟩
theorem aU(q:QM)(y base:Int)(G:-1000000000000<=base/\base<=1000000000000)(E:FE M (.slice pg L.length cg) L)(g:L.length<=1000000)(J:Cz q L=some r)(I:Cw M lv l)(m:∀x∈l,x.cs.length<=1000):Bz prog 16 #[.agg #[I4 q.kd,I4 q.tb,I4 q.cl,I4 q.lo,I4 q.hi,I4 q.bq,I4 q.ot,I4 y,I4 base,.slice pg L.length cg],lv] [M] (fun w H'=>∃(z:Fq) (s:List AU) (b:Bool),((b=true/\EG q base L l=some z.a/\z.ok (s++M))\/(b=false/\EG q base L l=none/\z=AZ0))/\w= .tuple #[.agg z.Ao7,.bool b]/\H'=[s,M]):=by
 refine Dw (rU q y base G E g J I m) V ?_;rintro w H' (⟨z,s3,s1,s2,h1,h2,rfl,rfl⟩|⟨h1,rfl,rfl⟩);· exact ⟨_,⟨z,s3++(s1++s2),true,.inl ⟨rfl,h1,by simpa only [D2]using h2⟩,rfl,rfl⟩,by simp⟩
 · exact ⟨_,⟨⟨⟨⟨0,0,0,0,0,0,0⟩,CP.none,0,0,0,[],[]⟩,none,0,none,0,none,0⟩,[],false,.inr ⟨rfl,h1,rfl⟩,rfl,rfl⟩,by simp⟩
theorem ic(q:QM)(I base:Int)(K:-1000000000000<=base/\base<=1000000000000)(J:FE M (.slice pg L.length cg) L)(m:L.length<=1000000)(U:Cz q L=some r)(O:Cw M lv l)(y:∀x∈l,x.cs.length<=1000):Bz prog 16 #[.agg #[I4 q.kd,I4 q.tb,I4 q.cl,I4 q.lo,I4 q.hi,I4 q.bq,I4 q.ot,I4 I,I4 base,.slice pg L.length cg],lv] [M] (fun w H'=>∃(z:Fq) (s:List AU) (b:Bool),((b=true/\EG q base L l=some z.a/\z.ok (s++M))\/(b=false/\EG q base L l=none))/\w= .tuple #[.agg z.Ao7,.bool b]/\H'=[s,M]):=by
 refine (aU q I base K J m U O y).mono ?_;rintro w H' ⟨z,s,b,g|⟨g,h2,_⟩,E,G⟩;· exact ⟨z,s,b,.inl g,E,G⟩
 · exact ⟨z,s,b,.inr ⟨g,h2⟩,E,G⟩
def JX.eqv(a b:JX):Prop:=a.q=b.q/\a.since=b.since/\a.until_=b.until_/\a.base=b.base/\a.res=b.res/\a.ranges=b.ranges/\a.recs.map Bg.key=b.recs.map Bg.key
instance(a b:JX):Decidable (a.eqv b):=inferInstanceAs(Decidable (_/\_))
def Ee(base until_:Ct)(a:JX):Prop:=base.p=a.base/\until_.p=a.until_/\Ju base a.recs until_/\(∀x∈a.ranges,Ke base.st x)/\∃b,EG a.q a.base a.ranges a.recs=some b/\a.eqv b
noncomputable instance(base until_:Ct)(a:JX):Decidable (Ee base until_ a):=Classical.propDecidable _
def RP.small(x:RP):Prop:=(∀s∈x.roots,s.length<=140737488354000)/\∀l∈x.paths,l.length<=1000000
theorem Jb{a b:JX}(h:¬a.eqv b):Value.bool false=Value.bool (decide (a.eqv b)):=congrArg Value.bool (Bm h).symm
theorem O6{x y:Fq}(hx:x.ok M)(hy:y.ok M):BC prog 19 #[.agg #[I4 x.a.q.kd,I4 x.a.q.tb,I4 x.a.q.cl,I4 x.a.q.lo,I4 x.a.q.hi,I4 x.a.q.bq,I4 x.a.q.ot,.slice x.rp x.a.res.rows.length x.rc,I4 x.a.res.val,.bool x.a.res.fnd,I4 x.a.since,I4 x.a.until_,I4 x.a.base,.slice x.gp x.a.ranges.length x.gc,.slice x.cp x.a.recs.length x.cc],.agg #[I4 y.a.q.kd,I4 y.a.q.tb,I4 y.a.q.cl,I4 y.a.q.lo,I4 y.a.q.hi,I4 y.a.q.bq,I4 y.a.q.ot,.slice y.rp y.a.res.rows.length y.rc,I4 y.a.res.val,.bool y.a.res.fnd,I4 y.a.since,I4 y.a.until_,I4 y.a.base,.slice y.gp y.a.ranges.length y.gc,.slice y.cp y.a.recs.length y.cc]] [M] (.bool (decide (x.a.eqv y.a))):=by
 refine Se func19 ntmps19 [0,1] ?_;intro u R;refine A1<|Ze (Bx #[I4 x.a.q.kd,I4 x.a.q.tb,I4 x.a.q.cl,I4 x.a.q.lo,I4 x.a.q.hi,I4 x.a.q.bq,I4 x.a.q.ot,.slice x.rp x.a.res.rows.length x.rc,I4 x.a.res.val,.bool x.a.res.fnd,I4 x.a.since,I4 x.a.until_,I4 x.a.base,.slice x.gp x.a.ranges.length x.gc,.slice x.cp x.a.recs.length x.cc])<|AF fun K=>Ze (Bx #[I4 y.a.q.kd,I4 y.a.q.tb,I4 y.a.q.cl,I4 y.a.q.lo,I4 y.a.q.hi,I4 y.a.q.bq,I4 y.a.q.ot,.slice y.rp y.a.res.rows.length y.rc,I4 y.a.res.val,.bool y.a.res.fnd,I4 y.a.since,I4 y.a.until_,I4 y.a.base,.slice y.gp y.a.ranges.length y.gc,.slice y.cp y.a.recs.length y.cc])<|AF fun O=>A3 Y<|A1<|Zh 0 BW V rfl CM Y<|Zo Wh (A9 (cs:=#[_,_,_,_,_,_,_]) F2 CM Y B5 An) ?_;refine Zh 0 BW V rfl CM Y<|Zo Wh (A9 (cs:=#[_,_,_,_,_,_,_]) F2 CM Y B5 An) ?_;refine Zv (oK AG Y Y (eqQ x.a.q y.a.q))<|Zm Y<|Ai (t:=10) Y V (fun g=>?_) (fun g=>?_);·
  refine Yf 10 BW V rfl A5 Y<|Yl AE Y ?_;refine Yf 10 BW V rfl A5 Y<|Yl AE Y ?_;refine Yg (Br Y Y)<|Zv (AR Y Y)<|Zm Y<|Ai (t:=17) Y V (fun h2=>?_) (fun h2=>?_);·
   refine Yf 11 BW V rfl A5 Y<|Yl AE Y ?_;refine Yf 11 BW V rfl A5 Y<|Yl AE Y ?_;refine Yg (Br Y Y)<|Zv (AR Y Y)<|Zm Y<|Ai (t:=24) Y V (fun m=>?_) (fun m=>?_);·
    refine Yf 12 BW V rfl A5 Y<|Yl AE Y ?_;refine Yf 12 BW V rfl A5 Y<|Yl AE Y ?_;refine Yg (Br Y Y)<|Zv (AR Y Y)<|Zm Y<|Ai (t:=31) Y V (fun E=>?_) (fun E=>?_);·
     refine Yf 7 BW V rfl B6 Y<|DF Y Wh (A9 (cs:=#[_,_,_]) CC B6 Y B5 An) V rfl ?_;refine Yf 7 BW V rfl B6 Y<|DF Y Wh (A9 (cs:=#[_,_,_]) CC B6 Y B5 An) V rfl ?_;refine Xr [_,_] Y call12 Y V (Tt hx.1 hy.1) ?_;refine Zv (AR Y Y)<|Zm Y<|Ai (t:=38) Y V (fun G=>?_) (fun G=>?_);·
      refine Yf 13 BW V rfl DB Y<|Yl E0 Y ?_;refine Yf 13 BW V rfl DB Y<|Yl E0 Y ?_;refine Xr [_,_,_] Y call51 Y V (Xf hx.2.1 hy.2.1) ?_;refine Zv (AR Y Y)<|Zm Y<|Ai (t:=45) Y V (fun I=>?_) (fun I=>?_);·
       refine Yf 14 BW V rfl Kf Y<|Yl MY Y ?_;refine Yf 14 BW V rfl Kf Y<|Yl MY Y ?_;refine Xr [_,_,_] Y call53 Y V (Ue hx.2.2 hy.2.2) ?_;refine Zv (AR Y Y)<|AH Y<|Zn [4] ?_;refine Zx<|AA<|AC V bm Y (by exact ⟨by exact GL ⟨fun J=>⟨g,h2,m,E,G,I,J⟩,fun J=>J.2.2.2.2.2.2⟩,V⟩)
      refine A7 Y V<|A7 Y V<|A7 Y V<|A7 Y V<|A7 Y V<|Zv (AL Y Y)<|AH Y<|Zn [4] ?_;refine Zx<|AA<|AC V bm Y (by exact ⟨by exact Jb (fun e=>I e.2.2.2.2.2.1),V⟩)
     refine A7 Y V<|A7 Y V<|A7 Y V<|A7 Y V<|A7 Y V<|Zv (AL Y Y)<|Zm Y<|A7 Y V<|A7 Y V<|A7 Y V<|A7 Y V<|A7 Y V<|Zv (AL Y Y)<|AH Y<|Zn [4] ?_;refine Zx<|AA<|AC V bm Y (by exact ⟨by exact Jb (fun e=>G e.2.2.2.2.1),V⟩)
    refine A7 Y V<|A7 Y V<|A7 Y V<|A7 Y V<|A7 Y V<|Zv (AL Y Y)<|Zm Y<|A7 Y V<|A7 Y V<|A7 Y V<|A7 Y V<|A7 Y V<|Zv (AL Y Y)<|Zm Y<|A7 Y V<|A7 Y V<|A7 Y V<|A7 Y V<|A7 Y V<|Zv (AL Y Y)<|AH Y<|Zn [4] ?_;refine Zx<|AA<|AC V bm Y (by exact ⟨by exact Jb (fun e=>E e.2.2.2.1),V⟩)
   refine A7 Y V<|A7 Y V<|A7 Y V<|A7 Y V<|A7 Y V<|Zv (AL Y Y)<|Zm Y<|A7 Y V<|A7 Y V<|A7 Y V<|A7 Y V<|A7 Y V<|Zv (AL Y Y)<|Zm Y<|A7 Y V<|A7 Y V<|A7 Y V<|A7 Y V<|A7 Y V<|Zv (AL Y Y)<|Zm Y<|A7 Y V<|A7 Y V<|A7 Y V<|A7 Y V<|A7 Y V<|Zv (AL Y Y)<|AH Y<|Zn [4] ?_;refine Zx<|AA<|AC V bm Y (by exact ⟨by exact Jb (fun e=>m e.2.2.1),V⟩)
  refine A7 Y V<|A7 Y V<|A7 Y V<|A7 Y V<|A7 Y V<|Zv (AL Y Y)<|Zm Y<|A7 Y V<|A7 Y V<|A7 Y V<|A7 Y V<|A7 Y V<|Zv (AL Y Y)<|Zm Y<|A7 Y V<|A7 Y V<|A7 Y V<|A7 Y V<|A7 Y V<|Zv (AL Y Y)<|Zm Y<|A7 Y V<|A7 Y V<|A7 Y V<|A7 Y V<|A7 Y V<|Zv (AL Y Y)<|Zm Y<|A7 Y V<|A7 Y V<|A7 Y V<|A7 Y V<|A7 Y V<|Zv (AL Y Y)<|AH Y<|Zn [4] ?_;refine Zx<|AA<|AC V bm Y (by exact ⟨by exact Jb (fun e=>h2 e.2.1),V⟩)
 refine A7 Y V<|A7 Y V<|A7 Y V<|A7 Y V<|A7 Y V<|Zv (AL Y Y)<|Zm Y<|A7 Y V<|A7 Y V<|A7 Y V<|A7 Y V<|A7 Y V<|Zv (AL Y Y)<|Zm Y<|A7 Y V<|A7 Y V<|A7 Y V<|A7 Y V<|A7 Y V<|Zv (AL Y Y)<|Zm Y<|A7 Y V<|A7 Y V<|A7 Y V<|A7 Y V<|A7 Y V<|Zv (AL Y Y)<|Zm Y<|A7 Y V<|A7 Y V<|A7 Y V<|A7 Y V<|A7 Y V<|Zv (AL Y Y)<|Zm Y<|A7 Y V<|A7 Y V<|A7 Y V<|A7 Y V<|A7 Y V<|Zv (AL Y Y)<|AH Y<|Zn [4] ?_;refine Zx<|AA<|AC V bm Y (by exact ⟨by exact Jb (fun e=>g e.1),V⟩)
theorem XH(h:Ct){z:RPZ}(hz:z.ok M)(y:z.x.small)(m:Nat)(g:AM)(E:Nat×Nat):BC prog 29 #[.agg #[I4 z.x.tb,I4 z.x.cl,I4 z.x.lo,I4 z.x.hi,I4 z.x.ct,I4 z.x.fi,.slice z.qr z.x.rows.length z.cr,.slice z.qp z.x.paths.length z.cp,.slice z.qt z.x.roots.length z.ct],I5 m] [[(m,.cells #[I4 h.p,.string (str h.ch),.string (str h.st)] 48 (0,0))],[(1,.cells (Di.map CB).toArray g E)],M] (.bool (decide (¬Ke h.st z.x))):=by
 refine Se func29 ntmps29 [0,1] ?_;intro u R;refine A1<|Ze (Bx #[I4 z.x.tb,I4 z.x.cl,I4 z.x.lo,I4 z.x.hi,I4 z.x.ct,I4 z.x.fi,.slice z.qr z.x.rows.length z.cr,.slice z.qp z.x.paths.length z.cp,.slice z.qt z.x.roots.length z.ct])<|AF fun G=>A3 Y<|A1<|Zh 2 HD V rfl CH Y<|Zl Fm Y ?_;refine Zo Wh (A9 (cs:=#[_,_,_,_,_,_,_,_,_]) LI DE Y Wb (by exact BA V)) ?_;refine Xr [_,_] Y call30 Y V (WW hz.rp y.1 y.2 h.st g E) ?_;refine Zv (C9 Y)<|A3 Y<|AA<|AC V results29 Y (by exact ⟨V,V⟩)
theorem UZ(h:Ct)(hL:FE M v L)(hs:∀x∈L,x.small)(K:Nat)(U:AM)(zg:Nat×Nat):Bz prog 74 #[v,.func (.func 29) #[] #[I5 K]] [[(K,.cells #[I4 h.p,.string (str h.ch),.string (str h.st)] 48 (0,0))],[(1,.cells (Di.map CB).toArray U zg)],M] (fun w H'=>∃z:Int,w=I4 z/\(0<=z↔¬∀x∈L,Ke h.st x)/\H'=[[(K,.cells #[I4 h.p,.string (str h.ch),.string (str h.st)] 48 (0,0))],[(1,.cells (Di.map CB).toArray U zg)],M]):=by
 have ek:=mL;obtain ⟨pa,ca,rfl,d9,bn⟩:=hL.form;refine Se func74 ntmps74 [0,1] ?_;intro u R;refine A1<|A3 Y<|Zq<|A1<|Zm Y<|Zv (AP DQ Y)<|Zm Y<|AD<|AX<|Zb [8,0,1,7] ?_;refine BB (e0:=[(8,_)]) (fun m e H=>∃(i:Nat),m=L.length -i/\(i<=L.length/\∀(j:Nat) (y:RP),j<i->L[j]?=some y->Ke h.st y)/\e=[(8,I4 (i:Int))]/\H=[]) (by exact ⟨0,V,⟨C2 _,by intro j y O;omega⟩,V,V⟩) Wp ?_;rintro _ _ _ ⟨i,rfl,⟨hi,E⟩,rfl,rfl⟩;refine A1<|Zv (Au Y Y)<|AD<|Zq<|Ak Y (fun W=>?_) (fun W=>?_);·
  obtain ⟨x9,hx⟩:∃x,L[i]?=some x:=⟨_,zn A0⟩;obtain ⟨x,af,Z,g1,cO,G,T1,bf,rfl,X,cu,I⟩:=hL.at hx;subst af;have ax:=hs x.x (Cd hx)
  refine AB<|Zx<|Zq<|AX<|A1<|Zm Y<|A3 Y<|A1<|Zm Y<|Zm Y<|Zm Y<|Ap (AO DQ DE Y Y A0)<|Ca (cs:=[(g1,.cells G T1 bf)]) (by simp [X]) (A9 (cs:=#[I4 x.x.tb,I4 x.x.cl,I4 x.x.lo,I4 x.x.hi,I4 x.x.ct,I4 x.x.fi,.slice x.qr x.x.rows.length x.cr,.slice x.qp x.x.paths.length x.cp,.slice x.qt x.x.roots.length x.ct]) LI DE Y A0 I) V rfl ?_;refine Xr [_] Y call29 Y V (XH h Z ax K U zg) ?_;refine AD<|Ak Y (fun hv=>?_) (fun hv=>?_);·
   refine A1<|Zm Y<|A3 Y<|AA<|Ab<|Zt<|Zt<|Ab<|Zt<|AC V results74 Y (by exact ⟨_,V,⟨fun _ g=>hv (g _ (Cd hx)),fun _=>by omega⟩,V⟩)
  refine AB<|A8<|Zx<|Zg<|Ya (n:=1) Y Y<|Zm Y<|Z0<|Zn [8,0,1,7] ?_;refine AZ (e':=[(8,_)]) (by exact ⟨i+1,rfl,⟨by omega,fun j y O hy=>by rcases DP j i with g|g;exact E j y g hy;obtain rfl:j=i:=A0;rw [hx]at hy;injection hy with hy;rw [<-hy];exact G2.1 hv⟩,rfl,rfl⟩)
 have J:∀x∈L,Ke h.st x:=fun x hx=>by obtain ⟨j,O⟩:=H4 hx;exact E j x (by have:=(zt.1 O).1;omega) O
 refine Aw<|Zt<|Zt<|AQ<|Zx<|A1<|A3 Y<|AA<|AC V results74 Y (by exact ⟨_,V,⟨fun g=>absurd g AK,fun g=>absurd J g⟩,V⟩)
theorem aX(h:Ct)(E:FE M v L)(G:∀x∈L,x.small)(g:Nat)(m:AM)(y:Nat×Nat):Bz prog 31 #[v,.func (.func 29) #[] #[I5 g]] [[(g,.cells #[I4 h.p,.string (str h.ch),.string (str h.st)] 48 (0,0))],[(1,.cells (Di.map CB).toArray m y)],M] (fun w H'=>∃b:Bool,w= .bool b/\(b=true↔¬∀x∈L,Ke h.st x)/\H'=[[(g,.cells #[I4 h.p,.string (str h.ch),.string (str h.st)] 48 (0,0))],[(1,.cells (Di.map CB).toArray m y)],M]):=by
 refine Se func31 ntmps31 [0,1] ?_;intro u R;refine A1<|A3 Y<|A1<|Zm Y<|Zm Y<|Zc [_,_] Y call74 Y V (UZ h E G g m y) ?_;rintro _ _ ⟨_,⟨z,rfl,hz,rfl⟩,rfl⟩;refine Zv (I1 Y Y)<|A3 Y<|AA<|AC rfl results31 Y (by exact ⟨_,rfl,by rw [<-hz];simp,rfl⟩)
theorem VM{A:List AU}{x y:Fq}(hx:x.ok M)(hy:y.ok (A++M)):BC prog 19 #[.agg x.Ao7,.agg y.Ao7] [A,M] (.bool (decide (x.a.eqv y.a))):=by
 refine Dw (O6 (hx.mono (fun c hc=>DA A hc)) hy) B3 ?_;rintro r H' ⟨rfl,rfl⟩;exact ⟨_,⟨V,V⟩,by simp⟩
set_option maxHeartbeats 1000000 in
theorem vO(base until_:Ct){z:Fq}(hz:z.ok M)(hs:∀x∈z.a.ranges,x.small)(bn:z.a.ranges.length<=1000000)(hb:-1000000000000<=z.a.base/\z.a.base<=1000000000000)(ax:∀x∈z.a.recs,x.cs.length<=1000)(hr:Cz z.a.q z.a.ranges=some r)(J:AM)(zg:Nat×Nat):BC prog 9 #[.agg #[I4 base.p,.string (str base.ch),.string (str base.st)],.agg #[I4 until_.p,.string (str until_.ch),.string (str until_.st)],.agg #[I4 z.a.q.kd,I4 z.a.q.tb,I4 z.a.q.cl,I4 z.a.q.lo,I4 z.a.q.hi,I4 z.a.q.bq,I4 z.a.q.ot,.slice z.rp z.a.res.rows.length z.rc,I4 z.a.res.val,.bool z.a.res.fnd,I4 z.a.since,I4 z.a.until_,I4 z.a.base,.slice z.gp z.a.ranges.length z.gc,.slice z.cp z.a.recs.length z.cc]] [[(1,.cells (Di.map CB).toArray J zg)],M] (.bool (decide (Ee base until_ z.a))):=by
 have cO:=mL;refine Se func9 ntmps9 [0,1,2] ?_;intro u R;refine A1<|Ze (Bx #[_,_,_])<|AF fun b1=>Ze (Bx #[_,_,_])<|AF fun b2=>Ze (Bx #[I4 z.a.q.kd,I4 z.a.q.tb,I4 z.a.q.cl,I4 z.a.q.lo,I4 z.a.q.hi,I4 z.a.q.bq,I4 z.a.q.ot,.slice z.rp z.a.res.rows.length z.rc,I4 z.a.res.val,.bool z.a.res.fnd,I4 z.a.since,I4 z.a.until_,I4 z.a.base,.slice z.gp z.a.ranges.length z.gc,.slice z.cp z.a.recs.length z.cc])<|AF fun b3=>A3 Y<|Zq<|A1<|Zh 0 HD V rfl A5 Y<|Zl AE Y ?_;refine Zh 12 BW V rfl A5 Y<|Zl AE Y ?_;refine Zv (IC Y Y)<|Zm Y<|Ai (t:=15) Y V (fun K=>?_) (fun K=>?_);·
  refine A7 Y V<|A7 Y V<|A7 Y V<|A7 Y V<|A7 Y V<|Zv (AR Y Y)<|Zm Y<|A7 Y V<|A7 Y V<|A7 Y V<|A7 Y V<|A7 Y V<|A7 Y V<|Zv (AR Y Y)<|Z0<|Zn [3,5,29] ?_;refine Zx<|CQ Y<|A1<|A3 Y<|AA<|Zt<|AC V Pu Y (by exact ⟨congrArg Value.bool (Bm (fun g:Ee base until_ z.a=>by exact K g.1)).symm,V⟩)
 refine Yf 0 HD V rfl A5 Y<|Yl AE Y ?_;refine Yf 11 BW V rfl A5 Y<|Yl AE Y ?_;refine Yg (IC Y Y)<|Zv (AL Y Y)<|Zm Y<|Ai (t:=22) Y V (fun h2=>?_) (fun h2=>?_);·
  refine A7 Y V<|A7 Y V<|A7 Y V<|A7 Y V<|A7 Y V<|A7 Y V<|Zv (AR Y Y)<|Z0<|Zn [3,5,29] ?_;refine Zx<|CQ Y<|A1<|A3 Y<|AA<|Zt<|AC V Pu Y (by exact ⟨congrArg Value.bool (Bm (fun g:Ee base until_ z.a=>by exact h2 g.2.1)).symm,V⟩)
 refine DF Y Wh (A9 (cs:=#[_,_,_]) HC DG Y Wb (by exact BA V)) V rfl ?_;refine Yf 14 BW V rfl Kf Y<|Yl MY Y ?_;refine DF Y Wh (A9 (cs:=#[_,_,_]) HC DG Y Wb (by exact BA V)) V rfl ?_;refine Xr [_,_,_] Y call28 Y V (Vv base until_ hz.2.2 J zg) ?_;refine Yg (C9 Y)<|Zv (AL Y Y)<|Z0<|Zn [3,5,29] ?_;refine Zx<|Ak Y (fun W=>?_) (fun W=>?_);·
  refine A1<|A3 Y<|AA<|Zt<|AC V Pu Y (by exact ⟨congrArg Value.bool (Bm (fun g:Ee base until_ z.a=>by exact W g.2.2.1)).symm,V⟩)
 have O:=G2.1 K;have U:=G2.1 h2
 have X:=G2.1 W;refine AB<|Zx<|A1<|Zv (Bt (vs:=[]) (us:=[_]) Y Y)<|A3 Y<|Zq<|A1<|Zh 13 BW V rfl DB Y<|Zl E0 Y ?_;refine Zm Y<|Zc [_,_] Y call31 Y V (aX base hz.2.1 hs b1 J zg) ?_;rintro _ _ ⟨_,⟨bf,rfl,G,rfl⟩,rfl⟩;refine AD<|Ad Y (fun Z=>?_) (fun Z=>?_);·
  refine A1<|A3 Y<|AA<|Zt<|AC V Pu Y (by exact ⟨congrArg Value.bool (Bm (fun g:Ee base until_ z.a=>(G.1 Z) g.2.2.2.1)).symm,V⟩)
 have h5:∀x∈z.a.ranges,Ke base.st x:=G2.1 fun g=>by have:=G.2 g;rw [Z]at this;cases this
 refine AB<|Zx<|A1<|Zh 0 BW V rfl CM Y<|Zo Wh (Pa #[_,_,_,_,_,_,_] F2 CM Y) ?_;refine Zh 12 BW V rfl A5 Y<|Zl AE Y ?_;refine Zh 13 BW V rfl DB Y<|Zl E0 Y ?_;refine Zv (BQ (vs:=[(0,.agg #[I4 z.a.q.kd,I4 z.a.q.tb,I4 z.a.q.cl,I4 z.a.q.lo,I4 z.a.q.hi,I4 z.a.q.bq,I4 z.a.q.ot]),(2,I4 z.a.base),(3,.slice z.gp z.a.ranges.length z.gc)]) (cs:=#[I4 z.a.q.kd,I4 z.a.q.tb,I4 z.a.q.cl,I4 z.a.q.lo,I4 z.a.q.hi,I4 z.a.q.bq,I4 z.a.q.ot,I4 0,I4 z.a.base,.slice z.gp z.a.ranges.length z.gc]) Y (Aa (pl:=#[(0,7),(7,1),(8,1),(9,1)]) Wg OS (fun _=>by kernel_rfl) AG))<|Zh 14 BW V rfl Kf Y<|Zl MY Y ?_;refine Zc [_,_] Y call16 Y V (ic z.a.q 0 z.a.base hb hz.2.1 bn hr hz.2.2 ax) ?_;rintro _ _ ⟨_,⟨y,s9,d9,I,rfl,rfl⟩,rfl⟩;refine Zm Y<|Zd Y V<|Zd Y V<|Ze (Al Hv #[_,_,_,_,_,_,_,_,_,_,_,_,_,_,_])<|AF fun b4=>Xe (Xw F1 #[I4 y.a.q.kd,I4 y.a.q.tb,I4 y.a.q.cl,I4 y.a.q.lo,I4 y.a.q.hi,I4 y.a.q.bq,I4 y.a.q.ot,.slice y.rp y.a.res.rows.length y.rc,I4 y.a.res.val,.bool y.a.res.fnd,I4 y.a.since,I4 y.a.until_,I4 y.a.base,.slice y.gp y.a.ranges.length y.gc,.slice y.cp y.a.recs.length y.cc]) ?_;refine AH Y<|Zn [5,8,9] ?_;refine Zx<|A1<|Zm Y<|Zm Y<|Ah (t:=49) Y V (fun h6=>?_) (fun h6=>?_);·
  obtain ⟨E,cu⟩:EG z.a.q z.a.base z.a.ranges z.a.recs=some y.a/\y.ok (s9++M):=by rcases I with⟨_,g⟩|⟨g,_⟩;exact g;rw [h6]at g;cases g
  refine DF Y Wh (A9 (cs:=#[_,_,_,_,_,_,_,_,_,_,_,_,_,_,_]) HP F1 Y Wb (by exact BA V)) V rfl ?_;refine DF Y Wh (A9 (cs:=#[_,_,_,_,_,_,_,_,_,_,_,_,_,_,_]) HP F1 Y Wb (by exact BA V)) V rfl ?_;refine Xr [_,_] Y call19 Y V (VM hz cu) ?_;refine Zv (AR Y Y)<|A3 Y<|AA<|AC rfl Pu Y (by exact ⟨by exact GL ⟨fun g=>⟨O,U,X,h5,y.a,E,g⟩,fun g=>by obtain ⟨b,m,af⟩:=g.2.2.2.2;rw [E]at m;injection m with m;rw [m];exact af⟩,rfl⟩)
 have E:EG z.a.q z.a.base z.a.ranges z.a.recs=none:=by rcases I with⟨g,_⟩|⟨_,g⟩;rw [h6]at g;cases g;exact g
 refine A7 Y rfl<|A7 Y rfl<|A7 Y rfl<|Zv (AL Y Y)<|A3 Y<|AA<|AC rfl Pu Y (by exact ⟨by exact congrArg Value.bool (Bm (fun g:Ee base until_ z.a=>by obtain ⟨b,m,_⟩:=g.2.2.2.2;rw [E]at m;cases m)).symm,rfl⟩)
theorem uC(x:UInt32)(n m:Nat)(h0:0<n)(g:n<32)(y:n+m=32):(x>>>UInt32.ofNat n)|||(x<<<UInt32.ofNat m)=JE x (UInt32.ofNat n):=by
 rw [UInt32.or_comm];exact VE x n m h0 g y
theorem iA(x a b:UInt32):QT x [a,b]=JE x a^^^JE x b:=by simp [QT]
theorem jy(x a b c:UInt32):QT x [a,b,c]=JE x a^^^JE x b^^^JE x c:=by simp [QT]
theorem Uh(b:List UInt8)(k:Nat)(x:UInt32)(h:EH b (k+1)=EH b k++[x]):(EH b (k+1)).map CB=(EH b k).map CB++[CB x]:=by rw [h,Dg];rfl
variable{cur:AN}
theorem nS{e:AM}{v:A4}{l:List UInt32}{g cap:Nat}(m:cur.toList.take (l.map CB).length=l.map CB)(i:Nat)(h:i<l.length):cur[i]?=some (CB (l.getD i 0)):=by
 have y:(cur.toList.take (l.map CB).length)[i]?=(l.map CB)[i]?:=by rw [m]
 rw [zu,Gk,B0 h,HS,FG,zn h]at y;rw [y];simp [Lw,zn h]
theorem Fu(x:UInt32)(n:Nat)(h0:0<n)(g:n<32):BC prog 153 #[.int .u32 (x.toNat:Int),I4 (n:Int)] [] (.int .u32 ((JE x (UInt32.ofNat n)).toNat:Int)):=by
 refine Se func153 ntmps153 [0,1] ?_;intro u R;refine A1<|A3 Y<|Zq<|BJ (n:=9) (0::0::3::0::0::16::56::127::255::[]) 0 AG AG V<|A2 0 V (AJ Y)<|A2 1 V (AJ Y)<|A2 2 V (Fv Y Y A0)<|A2 3 V (AJ Y)<|A2 4 V (AJ Y) ?_
 (refine Bq (D':=63) 5 (Bo (m:=32) Y Y ?_ ?_) ?_;(focus (omega));(focus (omega)))
 refine A2 6 rfl (HY Y Y A0)<|A2 7 rfl (Iz Y Y)<|A2 8 rfl (BF Y)<|Ao<|Zx<|AA<|AC rfl results153 Y (by exact ⟨by rw [uC x n (32 -n) h0 g A0],rfl⟩)
theorem YR:Bz prog 154 #[] [] (fun r H'=>∃g,r=I6 g 64 64/\H'=[[(g,.cells (Di.map CB).toArray 164 (0,0))]]):=by
 refine Se func154 ntmps154 [] ?_;intro u R;refine A1<|A3 Y<|A1<|Ze (Af (vs:=[_,_,_,_,_,_,_,_,_,_,_,_,_,_,_,_,_,_,_,_,_,_,_,_,_,_,_,_,_,_,_,_,_,_,_,_,_,_,_,_,_,_,_,_,_,_,_,_,_,_,_,_,_,_,_,_,_,_,_,_,_,_,_,_]) (cs:=[_,_,_,_,_,_,_,_,_,_,_,_,_,_,_,_,_,_,_,_,_,_,_,_,_,_,_,_,_,_,_,_,_,_,_,_,_,_,_,_,_,_,_,_,_,_,_,_,_,_,_,_,_,_,_,_,_,_,_,_,_,_,_,_]) G3 CI Wf Y V rfl V rfl V)<|AF fun g=>A3 Y<|AA<|AC V results154 Y (by exact ⟨g,V,V⟩)
theorem jN(l:List UInt8)(hs:l.length<=140737488355000):Bz prog 97 #[.string (str l)] [] (fun r H'=>∃E,Row 5 r ((Ec l).map u8v) E/\H'=[E]):=by
 have af:=mL;have hn:=BO l
 have hz:JM l.length<64:=by unfold JM;omega
 refine Se func97 ntmps97 [0] ?_;intro u R;refine A1<|A3 Y<|A1<|A3 Y<|Zq<|A1<|A3 Y<|AX<|Bl<|Zb [3,4,0] ?_;refine BB (e0:=[(3,_),(4,_)]) (fun m e H=>∃(i:Nat) (v:A4) (E:List AU),m=l.length -i/\(i<=l.length/\Row 5 v ((l.take i).map u8v) E)/\e=[(3,v),(4,I4 (i:Int))]/\H=[E]) (by exact ⟨0,_,[],V,⟨C2 _,JO _⟩,V,V⟩) Wp ?_;rintro _ _ _ ⟨i,v,E,rfl,⟨hi,g⟩,rfl,rfl⟩;obtain ⟨gv,cv,rfl⟩:=g.form;have ax:(l.take i).length<=i:=cI ..
 refine Zq<|A1<|Zm Y<|Zm Y<|Zv (Ev HE Y)<|Zv (Au Y Y)<|AD<|Ak Y (fun X=>?_) (fun X=>?_);·
  refine AB<|Zx<|Zq<|AX ?_;have U:XV (str l) i=l.getD i 0:=by simp [XV,str]
  refine Zg<|Zm Y<|Zm Y<|Zm Y ?_
  (refine Ap (Yp HE Y Y (fC _ _ ?_)) ?_;(focus (omega)))
  refine Ze (Af (vs:=[_]) (cs:=[_]) DS HN Mz Y V rfl V rfl V)<|AF fun b1=>Ze (EQ (by_:=1) (news:=[_]) DS (V:Tryz.prog.info? 5=some Tryz.t5) V rfl V rfl Y g Y Wo Wh An V GF AK (by(simp only [zu,hn];omega)) (by(simp only [zu,hn];omega))) ?_;rintro _ _ ⟨sq,K,rfl⟩;obtain ⟨gq,cq,rfl⟩:=K.form;refine AH Y<|A8<|Zx<|Zg<|Zm Y<|Ya (n:=1) Y Y<|AH Y<|Zn [3,4,0] ?_;refine AZ (e':=[(3,_),(4,_)]) (by exact ⟨i+1,_,_,rfl,⟨by omega,by rw [NG u8v l i 0 A0,<-U];exact K⟩,rfl,rfl⟩)
 have ei:l.take i=l:=HK A0;rw [ei]at g⊢;refine Aw<|Zt<|Zt<|AQ<|Zx<|A1<|Zm Y<|Ze (Af (vs:=[_]) (cs:=[_]) DS HN Mz Y V rfl V rfl V)<|AF fun b3=>Ze (EQ (by_:=1) (news:=[_]) DS (V:Tryz.prog.info? 5=some Tryz.t5) V rfl V rfl Y g Y Wo Wh An V GF AK (by(simp only [zu,hn];omega)) (by(simp only [zu,hn];omega))) ?_;rintro _ _ ⟨sw,O,rfl⟩;obtain ⟨gw,cw,rfl⟩:=O.form;refine A3 Y<|Zq<|AX ?_;have Z:(OB l 0).map u8v=List.map u8v l++[Value.int IntKind.u8 128]:=by simp [OB,u8v]
 refine Zb [3,0] ?_;refine BB (e0:=[(3,_)]) (fun m e H=>∃(k:Nat) (v:A4) (E:List AU),m=JM l.length -k/\(k<=JM l.length/\Row 5 v ((OB l k).map u8v) E)/\e=[(3,v)]/\H=[E]) (by exact ⟨0,_,_,rfl,⟨C2 _,by rw [Z];exact O⟩,rfl,rfl⟩) Wp ?_;rintro _ _ _ ⟨k,v,E,rfl,⟨hk,g⟩,rfl,rfl⟩;obtain ⟨gv,cv,rfl⟩:=g.form;refine Zq<|A1<|Zm Y<|Zv (AP DS Y)<|Ap (De (n:=64) Y Y A0)<|Zv (E5 (n:=56) Y Y)<|AD<|Ak Y (fun y=>?_) (fun y=>?_);·
  rw [zu,Hy]at y;have W:=fU _ _ hk y
  refine AB<|Zx<|AX<|Zg<|Zm Y<|Ze (Af (vs:=[_]) (cs:=[_]) DS HN Mz Y V rfl V rfl V)<|AF fun b5=>Ze (EQ (by_:=1) (news:=[_]) DS (V:Tryz.prog.info? 5=some Tryz.t5) V rfl V rfl Y g Y Wo Wh An V GF AK (by(simp only [zu,Hy];omega)) (by(simp only [zu,Hy];omega))) ?_;rintro _ _ ⟨sc,I,rfl⟩;obtain ⟨gc,cc,rfl⟩:=I.form;refine AH Y<|A8<|Zn [3,0] ?_;refine AZ (e':=[(3,_)]) (by exact ⟨k+1,_,_,rfl,⟨W,by rw [<-VW];exact I⟩,rfl,rfl⟩)
 rw [zu,Hy]at y;have ek:=fV _ _ hk A0
 subst ek;refine Aw<|Zt<|Zt<|AQ<|Zx<|Zq<|A1<|A3 Y<|AX<|Zb [3,5,0] ?_;refine BB (e0:=[(3,_),(5,_)]) (fun m e H=>∃(j:Nat) (i:Int) (v:A4) (E:List AU),m=8 -j/\(j<=8/\i=7 -(j:Int)/\Row 5 v ((Su l j).map u8v) E)/\e=[(3,v),(5,I4 i)]/\H=[E]) (by exact ⟨0,_,_,_,rfl,⟨C2 _,rfl,by rw [VX];exact g⟩,rfl,rfl⟩) Wp ?_;rintro _ _ _ ⟨j,i,v,E,rfl,⟨hj,hi,g⟩,rfl,rfl⟩;obtain ⟨gv,cv,rfl⟩:=g.form;refine Zq<|A1<|Zm Y<|Zv (I1 Y Y)<|AD<|Ak Y (fun G=>?_) (fun G=>?_);·
  obtain ⟨q,rfl⟩:=Int.eq_ofNat_of_zero_le G;refine AB<|Zx<|Zq<|AX<|Zg<|Zm Y<|Zm Y<|Zv (Ev HE Y)<|Ap (Df (m:=8) Y Y A0)<|Zm Y<|Ap (Df (m:=8) Y Y A0)<|Ap (QO Y Y (by first|decide|(simp [IntKind.bits];done)|(simp [IntKind.bits];omega)))<|KY (FB F0 HG Y (iD _)) rfl rfl ?_;refine Ze (Af (vs:=[_]) (cs:=[_]) DS HN Mz Y V rfl V rfl V)<|AF fun b7=>Ze (EQ (by_:=1) (news:=[_]) DS (V:Tryz.prog.info? 5=some Tryz.t5) V rfl V rfl Y g Y Wo Wh An V GF AK (by(simp only [zu,PE l j hj];omega)) (by(simp only [zu,PE l j hj];omega))) ?_;rintro _ _ ⟨sd,J,rfl⟩;obtain ⟨gd,cd,rfl⟩:=J.form;refine AH Y<|Zn [0,3,5] ?_;refine A8<|Zx<|Zg<|Zm Y ?_
  (refine Ap (HV Y Y (IntWalk.i64_in _ ?_)) ?_;(focus (omega)))
  refine AH Y<|Zn [3,5,0] ?_;refine AZ (e':=[(3,_),(5,_)]) (by exact ⟨j+1,_,_,_,rfl,⟨by omega,by omega,by rw [<-VY l j q A0];exact J⟩,rfl,rfl⟩)
 have ej:j=8:=by omega
 subst ej;rw [QK]at g⊢;refine Aw<|Zt<|Zt<|AQ<|Zx<|A1<|Zm Y<|A3 Y<|AA<|AC V results97 Y (by exact ⟨_,g,V⟩)
theorem Hl{b:List UInt8}{k i:Nat}(m:cur.toList.take ((EH b k).map CB).length=(EH b k).map CB)(h:i<k):cur[i]?=some (.int .u32 (((EH b k).getD i 0).toNat:Int)):=
 nS (e:=0) (v:= .nilFunc) (g:=0) (cap:=0) m i (by rw [BX];exact h)
theorem Gz{v:V8}(m:cur.toList.take (v.list.map CB).length=v.list.map CB)(i:Nat)(h:i<8):cur[i]?=some (.int .u32 ((v.list.getD i 0).toNat:Int)):=
 nS (e:=0) (v:= .nilFunc) (g:=0) (cap:=0) m i h
theorem jv(w:List UInt32)(i:Nat):TK w i=w.getD (i -16) 0+(JE (w.getD (i -15) 0) (UInt32.ofNat 7)^^^JE (w.getD (i -15) 0) (UInt32.ofNat 18)^^^w.getD (i -15) 0>>>UInt32.ofNat 3)+w.getD (i -7) 0+(JE (w.getD (i -2) 0) (UInt32.ofNat 17)^^^JE (w.getD (i -2) 0) (UInt32.ofNat 19)^^^w.getD (i -2) 0>>>UInt32.ofNat 10):=by
 unfold TK;rw [iA,iA];rfl
theorem sD(x y:V8)(i:Nat)(h:i<8):(sF x y).list.getD i 0=x.list.getD i 0+y.list.getD i 0:=by
 rcases (by omega:i=0\/i=1\/i=2\/i=3\/i=4\/i=5\/i=6\/i=7)with rfl|rfl|rfl|rfl|rfl|rfl|rfl|rfl<;>rfl
theorem bU(b:List UInt8)(hv:V8)(i:Nat):(Cf (Dx b) hv (i+1)).list.map CB=
 [.int .u32 (((Cf (Dx b) hv i).list.getD 7 0+(JE ((Cf (Dx b) hv i).list.getD 4 0) (UInt32.ofNat 6)^^^JE ((Cf (Dx b) hv i).list.getD 4 0) (UInt32.ofNat 11)^^^JE ((Cf (Dx b) hv i).list.getD 4 0) (UInt32.ofNat 25))+((Cf (Dx b) hv i).list.getD 4 0&&&(Cf (Dx b) hv i).list.getD 5 0^^^~~~(Cf (Dx b) hv i).list.getD 4 0&&&(Cf (Dx b) hv i).list.getD 6 0)+Di.getD i 0+(EH b 64).getD i 0+
    ((JE ((Cf (Dx b) hv i).list.getD 0 0) (UInt32.ofNat 2)^^^JE ((Cf (Dx b) hv i).list.getD 0 0) (UInt32.ofNat 13)^^^JE ((Cf (Dx b) hv i).list.getD 0 0) (UInt32.ofNat 22))+((Cf (Dx b) hv i).list.getD 0 0&&&(Cf (Dx b) hv i).list.getD 1 0^^^(Cf (Dx b) hv i).list.getD 0 0&&&(Cf (Dx b) hv i).list.getD 2 0^^^(Cf (Dx b) hv i).list.getD 1 0&&&(Cf (Dx b) hv i).list.getD 2 0))).toNat:Int),
  .int .u32 (((Cf (Dx b) hv i).list.getD 0 0).toNat:Int),.int .u32 (((Cf (Dx b) hv i).list.getD 1 0).toNat:Int),.int .u32 (((Cf (Dx b) hv i).list.getD 2 0).toNat:Int),
  .int .u32 (((Cf (Dx b) hv i).list.getD 3 0+((Cf (Dx b) hv i).list.getD 7 0+(JE ((Cf (Dx b) hv i).list.getD 4 0) (UInt32.ofNat 6)^^^JE ((Cf (Dx b) hv i).list.getD 4 0) (UInt32.ofNat 11)^^^JE ((Cf (Dx b) hv i).list.getD 4 0) (UInt32.ofNat 25))+((Cf (Dx b) hv i).list.getD 4 0&&&(Cf (Dx b) hv i).list.getD 5 0^^^~~~(Cf (Dx b) hv i).list.getD 4 0&&&(Cf (Dx b) hv i).list.getD 6 0)+Di.getD i 0+(EH b 64).getD i 0)).toNat:Int),
  .int .u32 (((Cf (Dx b) hv i).list.getD 4 0).toNat:Int),.int .u32 (((Cf (Dx b) hv i).list.getD 5 0).toNat:Int),.int .u32 (((Cf (Dx b) hv i).list.getD 6 0).toNat:Int)]:=by
 have e:Cf (Dx b) hv (i+1)=mo (Cf (Dx b) hv i) (Di.getD i 0) ((EH b 64).getD i 0):=rfl;rw [e];generalize Cf (Dx b) hv i=x;generalize Di.getD i 0=k;generalize (EH b 64).getD i 0=w;obtain ⟨a,b,c,d,e,f,g,h⟩:=x;simp only [V8.list,mo,Gw.DR,Gw.mi,jy,HJ,LR,CB,List.getD_cons_zero,List.getD_cons_succ];rfl
theorem fH(hv:V8)(g:List UInt8)(i:Nat)(h:i<8):(MG hv g).list.getD i 0=hv.list.getD i 0+(Cf (Dx g) hv 64).list.getD i 0:=sD _ _ i h
theorem zO(i:Nat)(h:i<64):((Di.map CB).toArray)[i]?=some (.int .u32 ((Di.getD i 0).toNat:Int)):=Rj CB Di i 0 (by rw [ZC];exact h)
theorem YS(gh af gb ob Z:Nat)(I K:AN)(Th Tb:AM)(zh zb:Nat×Nat)(hv:V8)(G:List UInt8)(hh:I.toList.take (hv.list.map CB).length=hv.list.map CB)(hb:MI K ob G)(qb:G.length=64):
 Bz prog 98 #[I6 gh 8 af,.slice (some ⟨gb,ob,none⟩) 64 Z] [[(gh,.cells I Th zh)],[(gb,.cells K Tb zb)]] (fun r H'=>∃E,Row 164 r ((MG hv G).list.map CB) E/\H'=[[(gh,.cells I Th zh)],[(gb,.cells K Tb zb)],E]):=by
 have qd:=mL;refine Se func98 ntmps98 [0,1] ?_;intro u R;refine A1<|A3 Y<|A1<|A3 Y<|Zq<|A1<|A3 Y<|AX<|Bl<|Zb [5,6,0,1] ?_;refine BB (e0:=[(5,_),(6,_)]) (fun m e H=>∃(i:Nat) (v:A4) (E:List AU),m=16 -i/\(i<=16/\Row 164 v ((EH G i).map CB) E)/\e=[(5,v),(6,I4 (i:Int))]/\H=[E]) (by exact ⟨0,_,[],V,⟨C2 _,JO _⟩,V,V⟩) Wp ?_;rintro _ _ _ ⟨i,v,E,rfl,⟨hi,J⟩,rfl,rfl⟩;obtain ⟨gv,cv,rfl⟩:=J.form;refine Zq<|A1<|Zm Y<|Zv (Au (n:=16) Y Y)<|AD<|Ak Y (fun ax=>?_) (fun ax=>?_);·
  refine AB<|Zx<|Zq<|AX<|BJ (n:=37) (0::0::0::4::14::30::62::126::0::0::512::1536::3840::7936::16128::32512::65534::0::0::262144::786432::1966080::4063232::8257536::16646144::33554430::0::0::134217728::402653184::1006632960::2080374784::4227858432::8589934590::17179869182::34359738367::68719476735::[]) 51539607552 AG AG V<|A2 0 V (AJ Y)<|A2 1 V (AJ Y)<|A2 2 V (AJ Y)<|A2 3 V (Df (m:=4) Y Y A0)<|A2 4 V (BP DS HN Y Y A0)<|B2 5 V S6 Y (hv:=by exact hb.get _ A0) ?_;refine A2 6 V (Eg HG MT Y)<|A2 7 V (HY (n:=24) Y Y A0)<|A2 8 V (AJ Y)<|A2 9 V (AJ Y)<|A2 10 V (Df (m:=4) Y Y A0)<|A2 11 V (Bp (n:=1) Y Y A0)<|A2 12 V (BP DS HN Y Y A0)<|B2 13 V S6 Y (hv:=by exact hb.get _ A0) ?_;refine A2 14 V (Eg HG MT Y)<|A2 15 V (HY (n:=16) Y Y A0)<|A2 16 V (Iz Y Y)<|A2 17 V (AJ Y)<|A2 18 V (AJ Y)<|A2 19 V (Df (m:=4) Y Y A0)<|A2 20 V (Bp (n:=2) Y Y A0)<|A2 21 V (BP DS HN Y Y A0)<|B2 22 V S6 Y (hv:=by exact hb.get _ A0) ?_;refine A2 23 V (Eg HG MT Y)<|A2 24 V (HY (n:=8) Y Y A0)<|A2 25 V (Iz Y Y)<|A2 26 V (AJ Y)<|A2 27 V (AJ Y)<|A2 28 V (Df (m:=4) Y Y A0)<|A2 29 V (Bp (n:=3) Y Y A0)<|A2 30 V (BP DS HN Y Y A0)<|B2 31 V S6 Y (hv:=by exact hb.get _ A0) ?_;refine A2 32 V (Eg HG MT Y)<|A2 33 V (Iz Y Y)<|Zz (l:=[34])<|BE [false,false,false,false] [] V rfl (Af (vs:=[_]) (cs:=[_]) G3 CI Wf Y V rfl V rfl V) ?_ (fun _ _ h=>h.elim) Ay;rintro _ _ ⟨b1,rfl,rfl⟩;refine BT<|Yw 35 68719476735 V (EQ (by_:=4) (news:=[_]) G3 (V:Tryz.prog.info? 164=some Tryz.t164) V rfl V rfl Y J Y Wo Wh An V GF AK (by(simp only [zu,BX];omega)) (by(simp only [zu,BX];omega))) ?_;rintro _ _ ⟨sq,cu,rfl⟩;obtain ⟨gq,cq,rfl⟩:=cu.form;refine A2 36 V (BF Y)<|Ao<|Zn [0,1,5,6] ?_;refine A8<|Zx<|Zg<|Zm Y<|Ya (n:=1) Y Y<|AH Y<|Zn [5,6,0,1] ?_;refine AZ (e':=[(5,_),(6,_)]) (by exact ⟨i+1,_,_,rfl,⟨by omega,by rw [Uh G i _ (Xo G i A0)];exact cu⟩,rfl,rfl⟩)
 have W:i=16:=by omega
 subst W;refine Aw<|Zt<|Zt<|AQ<|Zx<|Zq<|A1<|A3 Y<|AX<|Zb [5,7,0] ?_;refine BB (e0:=[(5,_),(7,_)]) (fun m e H=>∃(i:Nat) (v:A4) (E:List AU),m=64 -i/\(16<=i/\i<=64/\Row 164 v ((EH G i).map CB) E)/\e=[(5,v),(7,I4 (i:Int))]/\H=[E]) (by exact ⟨16,_,_,V,⟨B8 _,by omega,J⟩,V,V⟩) Wp ?_;rintro _ _ _ ⟨i,v,E,rfl,⟨qc,hi,J⟩,rfl,rfl⟩;obtain ⟨gw,kz,l9,zw,rfl,rfl,pq,mR,o9,y,p9⟩:=J.some (by rw [zu];(rw [BX];omega));refine Zq<|A1<|Zm Y<|Zv (Au (n:=64) Y Y)<|AD<|Ak Y (fun bf=>?_) (fun bf=>?_);·
  refine AB<|Zx<|Zq<|AX<|Zq<|BJ (n:=21) (0::0::2::7::15::31::0::0::128::448::960::2047::4095::0::0::16384::57344::122880::253952::524287::1048575::[]) 2080 AG AG V<|A2 0 V (AJ Y)<|A2 1 V (AJ Y) ?_
  (refine Bq (D':=7) 2 (Bo (n:=15) Y Y ?_ ?_) ?_;(focus (omega));(focus (omega)))
  refine A2 3 rfl (BD G3 CI Y Y (by first|omega|(rw [zu,BX];omega)|(rw [zu];show _<8;omega)|decide))<|B2 4 rfl EV Y (hv:=by exact Hl y A0) ?_;refine A2 6 V (AJ Y)<|A2 7 V (AJ Y) ?_
  (refine Bq (D':=479) 8 (Bo (n:=15) Y Y ?_ ?_) ?_;(focus (omega));(focus (omega)))
  refine A2 9 rfl (BD G3 CI Y Y (by first|omega|(rw [zu,BX];omega)|(rw [zu];show _<8;omega)|decide))<|B2 10 rfl EV Y (hv:=by exact Hl y A0) ?_;refine A2 13 V (AJ Y)<|A2 14 V (AJ Y) ?_
  (refine Bq (D':=59359) 15 (Bo (n:=15) Y Y ?_ ?_) ?_;(focus (omega));(focus (omega)))
  refine A2 16 rfl (BD G3 CI Y Y (by first|omega|(rw [zu,BX];omega)|(rw [zu];show _<8;omega)|decide))<|B2 17 rfl EV Y (hv:=by exact Hl y A0) ?_;refine A2 18 V (Fv (n:=3) Y Y A0)<|Yz 5 31 518143 [17,10,4] [true,true,false] [(17,(_,_)),(10,(_,_))] V Y V rfl V rfl (Zu [_,_] Y Sx Y V (Fu _ 7 AK AK))<|C3<|BT<|Yz 11 2047 520191 [17,10] [true,false] [(17,(_,_))] V Y V rfl V rfl (Zu [_,_] Y Sx Y V (Fu _ 18 AK AK))<|C3<|BT<|A2 12 V (DC Y Y)<|A2 19 V (DC Y Y)<|A2 20 V (BF Y)<|Ao<|Zn [0,5,7,8] ?_;refine Zx<|Zq<|BJ (n:=21) (0::0::2::7::15::31::0::0::128::448::960::2047::4095::0::0::16384::57344::122880::253952::524287::1048575::[]) 2080 AG AG V<|A2 0 V (AJ Y)<|A2 1 V (AJ Y) ?_
  (refine Bq (D':=7) 2 (Bo (n:=2) Y Y ?_ ?_) ?_;(focus (omega));(focus (omega)))
  refine A2 3 rfl (BD G3 CI Y Y (by first|omega|(rw [zu,BX];omega)|(rw [zu];show _<8;omega)|decide))<|B2 4 rfl EV Y (hv:=by exact Hl y A0) ?_;refine A2 6 V (AJ Y)<|A2 7 V (AJ Y) ?_
  (refine Bq (D':=479) 8 (Bo (n:=2) Y Y ?_ ?_) ?_;(focus (omega));(focus (omega)))
  refine A2 9 rfl (BD G3 CI Y Y (by first|omega|(rw [zu,BX];omega)|(rw [zu];show _<8;omega)|decide))<|B2 10 rfl EV Y (hv:=by exact Hl y A0) ?_;refine A2 13 V (AJ Y)<|A2 14 V (AJ Y) ?_
  (refine Bq (D':=59359) 15 (Bo (n:=2) Y Y ?_ ?_) ?_;(focus (omega));(focus (omega)))
  refine A2 16 rfl (BD G3 CI Y Y (by first|omega|(rw [zu,BX];omega)|(rw [zu];show _<8;omega)|decide))<|B2 17 rfl EV Y (hv:=by exact Hl y A0) ?_;refine A2 18 V (Fv (n:=10) Y Y A0)<|Yz 5 31 518143 [17,10,4] [true,true,false] [(17,(_,_)),(10,(_,_))] V Y V rfl V rfl (Zu [_,_] Y Sx Y V (Fu _ 17 AK AK))<|C3<|BT<|Yz 11 2047 520191 [17,10] [true,false] [(17,(_,_))] V Y V rfl V rfl (Zu [_,_] Y Sx Y V (Fu _ 19 AK AK))<|C3<|BT<|A2 12 V (DC Y Y)<|A2 19 V (DC Y Y)<|A2 20 V (BF Y)<|Ao<|Zn [0,5,7,8,9] ?_;refine Zx<|BJ (n:=19) (0::0::0::4::14::30::0::126::0::0::512::1792::3840::8190::0::32766::65534::131071::262143::[]) 196608 AG AG V<|A2 0 V (AJ Y)<|A2 1 V (AJ Y)<|A2 2 V (AJ Y) ?_
  (refine Bq (D':=15) 3 (Bo (n:=16) Y Y ?_ ?_) ?_;(focus (omega));(focus (omega)))
  refine A2 4 rfl (BD G3 CI Y Y (by first|omega|(rw [zu,BX];omega)|(rw [zu];show _<8;omega)|decide))<|B2 5 rfl EV Y (hv:=by exact Hl y A0) ?_;refine A2 6 V (AJ Y)<|A2 7 V (CU Y Y)<|A2 8 V (AJ Y)<|A2 9 V (AJ Y) ?_
  (refine Bq (D':=2047) 10 (Bo (n:=7) Y Y ?_ ?_) ?_;(focus (omega));(focus (omega)))
  refine A2 11 rfl (BD G3 CI Y Y (by first|omega|(rw [zu,BX];omega)|(rw [zu];show _<8;omega)|decide))<|B2 12 rfl EV Y (hv:=by exact Hl y A0) ?_;refine A2 13 V (CU Y Y)<|A2 14 V (AJ Y)<|A2 15 V (CU Y Y)<|Zz (l:=[16])<|BE [false,false] [] V rfl (Af (vs:=[_]) (cs:=[_]) G3 CI Wf Y V rfl V rfl V) ?_ (fun _ _ h=>h.elim) Ay;rintro _ _ ⟨b3,rfl,rfl⟩;refine BT<|Yw 17 262143 V (EQ (by_:=4) (news:=[_]) G3 (V:Tryz.prog.info? 164=some Tryz.t164) V rfl V rfl Y J Y Wo Wh An V GF AK (by(simp only [zu,BX];omega)) (by(simp only [zu,BX];omega))) ?_;rintro _ _ ⟨qh,U,rfl⟩;obtain ⟨q9,pz,rfl⟩:=U.form;refine A2 18 V (BF Y)<|Ao<|Zn [0,5,7] ?_;refine A8<|Zx<|Zg<|Zm Y<|Ya (n:=1) Y Y<|AH Y<|Zn [5,7,0] ?_;refine AZ (e':=[(5,_),(7,_)]) (by exact ⟨i+1,_,_,rfl,⟨by omega,by omega,by rw [Uh G i _ (OZ G i A0),jv];exact U⟩,rfl,rfl⟩)
 have W:i=64:=by omega
 subst W;have d9:=y
 refine Aw<|Zt<|Zt<|AQ<|Zx<|A1<|Zc [] Y call154 Y V (YR) ?_;rintro _ _ ⟨_,⟨gk,rfl,rfl⟩,rfl⟩;refine A3 Y<|A1<|A3 Y<|Zq<|Bl<|Zg<|Zm Y<|Zm Y<|Ze (EQ (by_:=4) G3 (rfl:Tryz.prog.info? 164=some Tryz.t164) rfl rfl rfl rfl Y (JO _) Y Wo Wh (by exact (show(I.toList.drop 0).take (hv.list.map CB).length=_ by rw [NO];exact hh)) rfl (by simp [Value.oneCell',CB,V8.list]) AK AK AK) ?_;rintro _ _ ⟨qo,O,rfl⟩;obtain ⟨qa,q8,rfl⟩:=O.form;rw [L5]at O⊢;refine A3 Y<|Zq<|A1<|A3 Y<|AX<|Zb [11,12,0,5,10] ?_;refine BB (e0:=[(11,_),(12,_)]) (fun m e H=>∃(i:Nat) (v:A4) (E:List AU),m=64 -i/\(i<=64/\Row 164 v ((Cf (Dx G) hv i).list.map CB) E)/\e=[(11,v),(12,I4 (i:Int))]/\H=[E]) (by exact ⟨0,_,_,V,⟨C2 _,O⟩,V,V⟩) Wp ?_;rintro _ _ _ ⟨i,v,E,rfl,⟨hi,gy⟩,rfl,rfl⟩;obtain ⟨gr,kv,l8,zr,rfl,rfl,pg,lv,o8,g,p8⟩:=gy.some (by rw [zu];(show 0<8;decide));refine Zq<|A1<|Zm Y<|Zv (Au (n:=64) Y Y)<|AD<|Ak Y (fun bn=>?_) (fun bn=>?_);·
  refine AB<|Zx<|Zq<|AX<|A1<|Zm Y<|Ap (BD (j:=0) G3 CI Y Y (by first|omega|(rw [zu,BX];omega)|(rw [zu];show _<8;omega)|decide))<|Zl EV Y (hv:=by exact Gz g 0 AK) ?_;refine A3 Y<|A1<|Zm Y<|Ap (BD (j:=4) G3 CI Y Y (by first|omega|(rw [zu,BX];omega)|(rw [zu];show _<8;omega)|decide))<|Zl EV Y (hv:=by exact Gz g 4 AK) ?_;refine A3 Y<|Zq<|BJ (n:=36) (0::1::3::0::8::0::56::120::0::376::1016::2047::0::0::8192::24576::61440::0::131072::0::524288::1572864::4063232::8384512::16777215::0::0::100663296::234881024::536870911::0::0::3221225472::7516192768::17179869183::34359738367::[]) 592 AG AG rfl<|A2 0 rfl (AJ Y)<|A2 1 rfl (BD (j:=7) G3 CI Y Y (by first|omega|(rw [zu,BX];omega)|(rw [zu];show _<8;omega)|decide))<|B2 2 rfl EV Y (hv:=by exact Gz g 7 AK) ?_;refine A2 3 rfl (AJ Y)<|A2 5 rfl (AJ Y)<|A2 8 rfl (AJ Y)<|A2 12 rfl (AJ Y)<|A2 13 rfl (AJ Y)<|A2 14 rfl (BD (j:=5) G3 CI Y Y (by first|omega|(rw [zu,BX];omega)|(rw [zu];show _<8;omega)|decide))<|B2 15 rfl EV Y (hv:=by exact Gz g 5 AK) ?_;refine A2 16 rfl (Fy Y Y)<|A2 17 rfl (AJ Y)<|A2 18 rfl (Vd Y)<|A2 19 rfl (AJ Y)<|A2 20 rfl (BD (j:=6) G3 CI Y Y (by first|omega|(rw [zu,BX];omega)|(rw [zu];show _<8;omega)|decide))<|B2 21 rfl EV Y (hv:=by exact Gz g 6 AK) ?_;refine A2 22 rfl (Fy Y Y)<|A2 23 rfl (DC Y Y)<|A2 25 rfl (AJ Y)<|A2 26 rfl (AJ Y)<|A2 27 rfl (BD G3 CI Y Y (by first|omega|(rw [zu,BX];omega)|(rw [zu];show _<8;omega)|decide))<|B2 28 rfl EV Y (hv:=by exact zO i A0) ?_;refine A2 30 rfl (AJ Y)<|A2 31 rfl (AJ Y)<|A2 32 rfl (BD G3 CI Y Y (by first|omega|(rw [zu,BX];omega)|(rw [zu];show _<8;omega)|decide))<|B2 33 rfl EV Y (hv:=by exact Hl d9 A0) ?_
  refine Yz 4 8 16626217279 [33,28,21,15,2] [true,true,true,true,true] [(33,(_,_)),(28,(_,_)),(21,(_,_)),(15,(_,_)),(2,(_,_))] V Y V rfl V rfl (Zu [_,_] Y Sx Y V (Fu _ 6 AK AK))<|C3<|BT<|Yz 6 56 16626217343 [33,28,21,15,2] [true,true,true,true,true] [(33,(_,_)),(28,(_,_)),(21,(_,_)),(15,(_,_)),(2,(_,_))] V Y V rfl V rfl (Zu [_,_] Y Sx Y V (Fu _ 11 AK AK))<|C3<|BT<|A2 7 V (DC Y Y)<|Zz (l:=[9])<|BE [true,true,true,true,true] [(33,(_,_)),(28,(_,_)),(21,(_,_)),(15,(_,_)),(2,(_,_))] V rfl (Zu [_,_] Y Sx Y V (Fu _ 25 AK AK)) ?_ (fun _ _ h=>h.elim) Ay;rintro _ _ ⟨rfl,rfl⟩;refine BT<|A2 10 V (DC Y Y)<|A2 11 V (CU Y Y)<|A2 24 V (CU Y Y)<|A2 29 V (CU Y Y)<|A2 34 V (CU Y Y)<|A2 35 V (BF Y)<|Ao<|Zn [0,5,10,11,12,13,14,15] ?_;refine Zx<|Zq<|BJ (n:=29) (0::1::0::7::15::0::47::127::0::0::512::1536::3840::0::0::16384::49152::122880::261888::0::524288::1572864::0::4194304::12582912::33030144::67108608::134217727::268435455::[]) 74 AG AG rfl<|A2 0 rfl (AJ Y)<|A2 2 rfl (AJ Y)<|A2 5 rfl (AJ Y)<|A2 8 rfl (AJ Y)<|A2 9 rfl (AJ Y)<|A2 10 rfl (BD (j:=1) G3 CI Y Y (by first|omega|(rw [zu,BX];omega)|(rw [zu];show _<8;omega)|decide))<|B2 11 rfl EV Y (hv:=by exact Gz g 1 AK) ?_;refine A2 12 rfl (Fy Y Y)<|A2 13 rfl (AJ Y)<|A2 14 rfl (AJ Y)<|A2 15 rfl (BD (j:=2) G3 CI Y Y (by first|omega|(rw [zu,BX];omega)|(rw [zu];show _<8;omega)|decide))<|B2 16 rfl EV Y (hv:=by exact Gz g 2 AK) ?_;refine A2 17 rfl (Fy Y Y)<|A2 18 rfl (DC Y Y)<|A2 19 rfl (AJ Y)<|A2 20 rfl (BD (j:=1) G3 CI Y Y (by first|omega|(rw [zu,BX];omega)|(rw [zu];show _<8;omega)|decide))<|B2 21 rfl EV Y (hv:=by exact Gz g 1 AK) ?_;refine A2 22 rfl (AJ Y)<|A2 23 rfl (BD (j:=2) G3 CI Y Y (by first|omega|(rw [zu,BX];omega)|(rw [zu];show _<8;omega)|decide))<|B2 24 rfl EV Y (hv:=by exact Gz g 2 AK) ?_
  refine A2 25 V (Fy Y Y)<|A2 26 V (DC Y Y)<|Zz (l:=[1])<|BE [true,true,true,true] [(24,(_,_)),(21,(_,_)),(16,(_,_)),(11,(_,_))] V rfl (Zu [_,_] Y Sx Y V (Fu _ 2 AK AK)) ?_ (fun _ _ h=>h.elim) Ay;rintro _ _ ⟨rfl,rfl⟩;refine BT<|Yz 3 7 134217519 [24,21,16,11] [true,true,true,true] [(24,(_,_)),(21,(_,_)),(16,(_,_)),(11,(_,_))] V Y V rfl V rfl (Zu [_,_] Y Sx Y V (Fu _ 13 AK AK))<|C3<|BT<|A2 4 V (DC Y Y)<|Zz (l:=[6])<|BE [true,true,true,true] [(24,(_,_)),(21,(_,_)),(16,(_,_)),(11,(_,_))] V rfl (Zu [_,_] Y Sx Y V (Fu _ 22 AK AK)) ?_ (fun _ _ h=>h.elim) Ay;rintro _ _ ⟨rfl,rfl⟩;refine BT<|A2 7 V (DC Y Y)<|A2 27 V (CU Y Y)<|A2 28 V (BF Y)<|Ao<|Zn [0,5,10,11,12,13,14,15,16] ?_;refine Zx<|BJ (n:=24) (0::0::3::0::0::16::48::0::128::384::0::1024::3072::0::15360::0::0::65536::196608::0::524288::1572864::4194303::8388607::[]) 4194304 AG AG rfl<|A2 0 rfl (AJ Y)<|A2 1 rfl (AJ Y)<|A2 2 rfl (CU Y Y)<|A2 3 rfl (AJ Y)<|A2 4 rfl (AJ Y)<|A2 5 rfl (BD (j:=1) G3 CI Y Y (by first|omega|(rw [zu,BX];omega)|(rw [zu];show _<8;omega)|decide))<|B2 6 rfl EV Y (hv:=by exact Gz g 1 AK) ?_;refine A2 7 rfl (AJ Y)<|A2 8 rfl (BD (j:=2) G3 CI Y Y (by first|omega|(rw [zu,BX];omega)|(rw [zu];show _<8;omega)|decide))<|B2 9 rfl EV Y (hv:=by exact Gz g 2 AK) ?_;refine A2 10 rfl (AJ Y)<|A2 11 rfl (BD (j:=3) G3 CI Y Y (by first|omega|(rw [zu,BX];omega)|(rw [zu];show _<8;omega)|decide))<|B2 12 rfl EV Y (hv:=by exact Gz g 3 AK) ?_;refine A2 13 rfl (AJ Y)<|A2 14 rfl (CU Y Y)<|A2 15 rfl (AJ Y)<|A2 16 rfl (AJ Y)<|A2 17 rfl (BD (j:=5) G3 CI Y Y (by first|omega|(rw [zu,BX];omega)|(rw [zu];show _<8;omega)|decide))<|B2 18 rfl EV Y (hv:=by exact Gz g 5 AK) ?_;refine A2 19 rfl (AJ Y)<|A2 20 rfl (BD (j:=6) G3 CI Y Y (by first|omega|(rw [zu,BX];omega)|(rw [zu];show _<8;omega)|decide))<|B2 21 rfl EV Y (hv:=by exact Gz g 6 AK) ?_
  refine Yw 22 8388607 V (Af (vs:=[_,_,_,_,_,_,_,_]) (cs:=[_,_,_,_,_,_,_,_]) G3 CI Wf Y V rfl V rfl V)<|AF fun b6=>A2 23 V (BF Y)<|Ao<|Zn [0,5,10,11,12] ?_;refine A8<|Zx<|Zg<|Zm Y<|Ya (n:=1) Y Y<|AH Y<|Zn [11,12,0,5,10] ?_;refine AZ (e':=[(11,_),(12,_)]) (by exact ⟨i+1,_,_,rfl,⟨by omega,by rw [bU G hv i];exact gQ _ _ _ 8 rfl AK⟩,rfl,rfl⟩)
 have W:i=64:=by omega
 subst W;have ek:=g
 refine Aw<|Zt<|Zt<|AQ<|Zx<|A1<|A3 Y<|Zq<|A1<|A3 Y<|AX<|Bl<|Zb [17,18,0,11] ?_;refine BB (e0:=[(17,_),(18,_)]) (fun m e H=>∃(i:Nat) (v:A4) (E:List AU),m=8 -i/\(i<=8/\Row 164 v (((MG hv G).list.take i).map CB) E)/\e=[(17,v),(18,I4 (i:Int))]/\H=[E]) (by exact ⟨0,_,[],V,⟨C2 _,JO _⟩,V,V⟩) Wp ?_;rintro _ _ _ ⟨i,v,E,rfl,⟨hi,X⟩,rfl,rfl⟩;obtain ⟨gv,cv,rfl⟩:=X.form;have qg:((MG hv G).list.take i).length<=i:=cI ..
 refine Zq<|A1<|Zm Y<|Zv (Au (n:=8) Y Y)<|AD<|Ak Y (fun gm=>?_) (fun gm=>?_);·
  refine AB<|Zx<|Zq<|AX<|BJ (n:=13) (0::0::0::6::14::0::0::96::224::510::1022::2047::4095::[]) 3072 AG AG rfl<|A2 0 rfl (AJ Y)<|A2 1 rfl (AJ Y)<|A2 2 rfl (AJ Y)<|A2 3 rfl (BD G3 CI Y Y (by first|omega|(rw [zu,BX];omega)|(rw [zu];show _<8;omega)|decide))<|B2 4 rfl EV Y (hv:=by exact Gz hh i A0) ?_;refine A2 5 rfl (AJ Y)<|A2 6 rfl (AJ Y)<|A2 7 rfl (BD G3 CI Y Y (by first|omega|(rw [zu,BX];omega)|(rw [zu];show _<8;omega)|decide))<|B2 8 rfl EV Y (hv:=by exact Gz ek i A0) ?_;refine A2 9 V (CU Y Y)<|Zz (l:=[10])<|BE [false,false] [] V rfl (Af (vs:=[_]) (cs:=[_]) G3 CI Wf Y V rfl V rfl V) ?_ (fun _ _ h=>h.elim) Ay;rintro _ _ ⟨b7,rfl,rfl⟩;refine BT<|Yw 11 4095 V (EQ (by_:=4) (news:=[_]) G3 (V:Tryz.prog.info? 164=some Tryz.t164) V rfl V rfl Y X Y Wo Wh An V GF AK (by(simp only [zu];omega)) (by(simp only [zu];omega))) ?_;rintro _ _ ⟨sz,cO,rfl⟩;obtain ⟨gz,cz,rfl⟩:=cO.form;refine A2 12 V (BF Y)<|Ao<|Zn [0,11,17,18] ?_;refine A8<|Zx<|Zg<|Zm Y<|Ya (n:=1) Y Y<|AH Y<|Zn [17,18,0,11] ?_;refine AZ (e':=[(17,_),(18,_)]) (by exact ⟨i+1,_,_,rfl,⟨by omega,by rw [NG CB (MG hv G).list i 0 (by show i<8;omega),fH hv G i A0];exact cO⟩,rfl,rfl⟩)
 have W:i=8:=by omega
 subst W;refine Aw<|Zt<|Zt<|AQ<|Zx<|A1<|Zm Y<|A3 Y<|AA<|AC V results98 Y (by exact ⟨_,X,V⟩)
end Go.Proofs.YtlkdhannldcfbaaGreatDoor
