/- What damaging keeps. -/
import Derived.Test.YtljkoipiekbijaaGreatDoorTt2
set_option linter.unusedVariables false
set_option linter.unusedSimpArgs false
namespace Go.Proofs.YtljkoipiekbijaaGreatDoor
open Go.Proofs.Tryz
open Go Go.RowKit Gw
set_option maxRecDepth 100000
attribute [local irreducible] Gw.At Gw.Nx Gw.Ops
theorem wS.mono{x:RP}{B g:Int}(h:wS x B)(I:B<=g):wS x g:=by
 obtain ⟨z,h2,E,G,m⟩:=h;exact ⟨by omega,by omega,by omega,by omega,fun r y=>by have:=m r y;omega⟩
structure sC(x:RP)(B:Int):Prop where
 np:x.paths.length=x.rows.length
 nr:x.rows.length<=2000
 nt:x.roots.length=16
 sr:∀s∈x.roots,s.length<=1000
 sp:∀l∈x.paths,l.length<=1000000
 b:wS x B
theorem dI{rs:List AV}(m:BP rs)(hn:rs.length<=2000)(y:∀r∈rs,r.ok)(t c:Nat)(lo hi:Int)(g:lo<=hi)(J:-1000000000<=lo)(I:hi<=1000000000):sC (EC rs t c lo hi) 1000000000:=by
 have G:=QD m t c lo hi g;have h2:=K6 m t c lo hi g
 have X:=GX m (t:Int) c;refine ⟨by rw [G];exact Lg _ _ _,by omega,Fq rs,fun s z=>?_,MX m hn t c lo hi,⟨?_,?_,?_,?_,fun r K=>?_⟩⟩
 · obtain ⟨x,_,rfl⟩:=HX.1 z
   have:=Rn m hn x;omega
 · show-1000000000<=lo/\lo<=1000000000;omega
 · show-1000000000<=hi/\hi<=1000000000;omega
 · show(-1000000000:Int)<=((BF rs (t:Int) c).length:Nat)/\(((BF rs (t:Int) c).length:Nat):Int)<=1000000000;omega
 · show(-1000000000:Int)<=((CE (BF rs (t:Int) c) c lo:Nat):Int)/\((CE (BF rs (t:Int) c) c lo:Nat):Int)<=1000000000
   have:=Fz (geV c lo) (BF rs (t:Int) c);unfold CE;omega
 · have E:=(X6 (Lo (Ks K))).1
   obtain ⟨_,⟨⟨M,O,U⟩,Z,q5⟩⟩:=And.intro E (y r E);unfold inV at M O U;omega
theorem kinds(i:Nat)(h:i<5):∃kd:Int,([I4 0,I4 1,I4 4,I4 7,I4 8]:List A3).toArray[i]?=some (I4 kd)/\(CU kd 12=0\/CU kd 12=1\/CU kd 12=4\/CU kd 12=7\/CU kd 12=8)/\0<=kd/\kd<=8:=by
 match i,h with
 |0,_=>exact ⟨0,rfl,by decide,by decide,by decide⟩
 |1,_=>exact ⟨1,rfl,by decide,by decide,by decide⟩
 |2,_=>exact ⟨4,rfl,by decide,by decide,by decide⟩
 |3,_=>exact ⟨7,rfl,by decide,by decide,by decide⟩
 |4,_=>exact ⟨8,rfl,by decide,by decide,by decide⟩
structure Xf where
 a:Int
 b:Int
 c:Int
 d:Int
def N9(M:List AR)(v:A3)(ws:List Xf):Prop:=∃p cap,v= .slice p ws.length cap/\(ws.length<=maxLen/\ws.length<=cap)/\∀(i:Nat) (z:Xf),ws[i]?=some z->((-9223372036854775808<=z.a/\z.a<=9223372036854775807)/\(-9223372036854775808<=z.b/\z.b<=9223372036854775807)/\(-9223372036854775808<=z.c/\z.c<=9223372036854775807)/\(-9223372036854775808<=z.d/\z.d<=9223372036854775807))/\∃g off cur T zz,p=some ⟨g,off,none⟩/\(g,Obj.cells cur T zz)∈M/\off+i*4+4<=cur.size/\cur.extract (off+i*4) (off+i*4+4)=#[I4 z.a,I4 z.b,I4 z.c,I4 z.d]
theorem TwB.le{a:Jj}{n:Nat}(h:TwB a n):∀k,TwB a (n+k)
 |0=>h
 |k+1=>(TwB.le h k).up
theorem nE{E M:List AR}{z:FI}(hz:z.ok (E++M)){n:Nat}(hB:TwB z.a n)(hn:n<=10)(g:Int)(J:-9223372036854775808<=g)(K:g<=9223372036854775807)(m:Int)(O:-9223372036854775808<=m)(U:m<=9223372036854775807)(G:Int)(X:-9223372036854775808<=G)(Z:G<=9223372036854775807)(I:Int)(af:-9223372036854775808<=I)(ax:I<=9223372036854775807):CJ prog 48 #[.agg z.Ax5,.agg #[I4 g,I4 m,I4 G,I4 I]] [E,M] (fun r H'=>∃(y:FI) (E2:List AR),r= .agg y.Ax5/\y.ok (E2++M)/\TwB y.a (n+1)/\H'=[E2,M]):=by
 refine E8 (uJ hz hB hn g J K m O U G X Z I af ax) C4 ?_;rintro w H' ⟨y,E1,rfl,h1,h2,rfl⟩;exact ⟨_,⟨y,E1++E,V,by simpa only [G0]using h1,h2,V⟩,by simp⟩
set_option maxHeartbeats 1000000 in
theorem nI{M:List AR}{z:FI}(hz:z.ok M)(hB:TwB z.a 0){vt:A3}{K:List Xf}(hW:N9 M vt K):CJ prog 14 #[.agg z.Ax5,vt] [M] (fun r H'=>∃(y:FI) (E:List AR),r= .agg y.Ax5/\y.ok (E++M)/\TwB y.a 3/\H'=[E,M]):=by
 have l8:=mL;obtain ⟨pt,ct,rfl,⟨lv,l9⟩,gm⟩:=id hW;refine Se func14 ntmps14 [0,1] ?_;intro u R;refine A2<|Ze (Bx z.Ax5)<|AE fun O=>Ze (Al Hs #[_,_,_,_,_,_,_,_,_,_,_,_,_,_,_])<|AE fun bo=>A6<|Bi<|Zb [1,2,4] ?_;refine C9 (e0:=[(1,_)]) (H0:=[[(O,.cells z.Ax5 53 (0,0))],[]]) (fun e H=>∃(y:FI) (E:List AR),(y.ok (E++M)/\TwB y.a 3)/\e=[]/\H=[[(O,.cells y.Ax5 53 (0,0))],E]) Wp ?hx_1 ?hy_1
 case hx_1=>
  refine A2<|AF Y<|AQ<|Zb [5,1,2,4] ?_;refine Av (e0:=[(5,_)]) (fun m e H=>∃(i:Nat) (y:FI) (E:List AR),m=K.length -i/\((i<=3/\i<=K.length)/\y.ok (E++M)/\TwB y.a i)/\e=[(5,I4 (i:Int))]/\H=[[(O,.cells y.Ax5 53 (0,0))],E]) (by exact ⟨0,z,[],V,⟨⟨by decide,CD _⟩,hz,hB⟩,V,V⟩) Wp ?_;rintro _ _ _ ⟨i,y,E,rfl,⟨⟨kv,kz⟩,hy,G⟩,rfl,rfl⟩;refine Zq<|A2<|Sk 2 V<|Zv (AJ underlying24 Y)<|Zv (Ak Y Y)<|Zm Y<|AZ (t:=10) Y V (fun cO=>?_) (fun cO=>?_);focus
   refine Zf Y Y<|Yg (Ak (n:=3) Y Y)<|HR Y Y<|A6<|Ad Y (fun d9=>?_) (fun d9=>?_);obtain ⟨w,hw⟩:∃w,K[i]?=some w:=⟨_,Bk A0⟩;obtain ⟨⟨⟨U,X⟩,⟨Z,af⟩,⟨ax,bf⟩,bn,cu⟩,g,off,cur,T,zz,rfl,ek,gy,I⟩:=gm i w hw;refine B3<|Zq<|AQ<|Au (n:=7) (0::0::0::6::14::31::63::[]) 96 AG AG V<|Fo 0 V Wh (A7 (cs:=#[_,_,_,_,_,_,_,_,_,_,_,_,_,_,_]) HQ F0 Y BW (by exact AP V)) ?_;refine A1 1 V (AA Y)<|A1 2 V (AA Y)<|A1 3 V (A9 underlying24 sizeOf104 Y Y A0)<|CX (b:=g) (x:= .cells cur T zz) (D':=31) 4 V rfl V (by simp [ek]) (A7 (cs:=#[_,_,_,_]) isAgg104 sizeOf104 Y A0 I) ?_;refine Zz (l:=[5])<|C6 [false,false] [] V rfl (Zw [_,_] Y call48 Y V (nE hy G A0 w.a U X w.b Z af w.c ax bf w.d bn cu)) ?_ DC Ar;rintro _ _ ⟨_,⟨y2,E2,rfl,gq,J,rfl⟩,rfl⟩;refine CA<|Yw 6 127 rfl (Ao F0 Y Y Ft Wu (by exact (rfl:_=(y2.Ax5:As))) DO BW (by exact Aw _))<|DA<|Am<|Zn [1,2,4,5] ?_;refine A8<|Zx<|Zg<|Zm Y<|Ya (n:=1) Y Y<|AN Y<|HN (by exact ⟨i+1,y2,E2,V,⟨⟨by omega,by omega⟩,gq,J⟩,V,V⟩)
  rotate_left
  focus
   refine Sk 3 V<|A6<|DY Y ?_
  all_goals
   refine Az<|Zt<|Zt<|AU<|HC (by exact ⟨y,E,⟨hy,by have:=G.le (3 -i);rwa [show i+(3 -i)=3 by omega]at this⟩,V,V⟩)
 rintro _ _ ⟨y,E,⟨hy,G⟩,rfl,rfl⟩;refine A2<|Zo Wh (A7 (cs:=y.Ax5) HQ F0 Y BW (by exact AP V)) ?_;refine Xe (Ao F0 Y Y ar Wu (by exact Bj rfl) DO AH (by exact Aw _)) ?_;refine A6<|AC<|Df V results14 Y Wh (Ai HQ F0 Wn (AP V)) (by exact ⟨y,E,V,hy,G,V⟩)
theorem aG:CJ prog 22 #[] [] (fun r H'=>∃m y z g,r=I6 g 3 3/\H'=[[(m,.cells #[I4 0,I4 5,.bool false,I4 0,I4 0,I4 0,.bool true,I4 10,I4 0,I4 0] 126 (0,0))],[(y,.cells #[I4 0,I4 6,.bool false,I4 0,I4 0,I4 0,.bool true,I4 99,I4 0,I4 0] 126 (0,0))],[(z,.cells #[I4 0,I4 7,.bool false,I4 0,I4 0,I4 0,.bool true,I4 11,I4 0,I4 0] 126 (0,0))],[(g,.cells #[I4 1,I6 m 1 1,I4 2,I6 y 1 1,I4 3,I6 z 1 1] 78 (0,0))]]):=by
 refine Se func22 ntmps22 [] ?_;intro u R;refine A2<|AF Y<|A2<|Zv (BK (vs:=[(0,_),(1,_),(2,_)]) (cs:=#[_,_,_]) Y (DN cL HS A4 V))<|Zv (BK (vs:=[(1,I4 5),(4,.bool true),(5,.agg #[I4 10,I4 0,I4 0])]) (cs:=#[I4 0,I4 5,.bool false,I4 0,I4 0,I4 0,.bool true,I4 10,I4 0,I4 0]) Y (AY (pl:=#[(0,1),(1,1),(2,1),(3,3),(6,1),(7,3)]) MT CM (fun _=>by kernel_rfl) AG))<|Ze (Ah (vs:=[_]) (cs:=[_,_,_,_,_,_,_,_,_,_]) GF D2 MT Y V rfl V rfl V)<|AE fun m=>Zv (BK (vs:=[(0,_),(1,_)]) (cs:=#[_,_]) Y (AY (pl:=#[(0,1),(1,1)]) SP G3 (fun _=>by kernel_rfl) V))<|Zv (BK (vs:=[(0,_),(1,_),(2,_)]) (cs:=#[_,_,_]) Y (DN cL HS A4 V))<|Zv (BK (vs:=[(1,I4 6),(4,.bool true),(5,.agg #[I4 99,I4 0,I4 0])]) (cs:=#[I4 0,I4 6,.bool false,I4 0,I4 0,I4 0,.bool true,I4 99,I4 0,I4 0]) Y (AY (pl:=#[(0,1),(1,1),(2,1),(3,3),(6,1),(7,3)]) MT CM (fun _=>by kernel_rfl) AG))<|Ze (Ah (vs:=[_]) (cs:=[_,_,_,_,_,_,_,_,_,_]) GF D2 MT Y V rfl V rfl V)<|AE fun y=>Zv (BK (vs:=[(0,_),(1,_)]) (cs:=#[_,_]) Y (AY (pl:=#[(0,1),(1,1)]) SP G3 (fun _=>by kernel_rfl) V))<|Zv (BK (vs:=[(0,_),(1,_),(2,_)]) (cs:=#[_,_,_]) Y (DN cL HS A4 V))<|Zv (BK (vs:=[(1,I4 7),(4,.bool true),(5,.agg #[I4 11,I4 0,I4 0])]) (cs:=#[I4 0,I4 7,.bool false,I4 0,I4 0,I4 0,.bool true,I4 11,I4 0,I4 0]) Y (AY (pl:=#[(0,1),(1,1),(2,1),(3,3),(6,1),(7,3)]) MT CM (fun _=>by kernel_rfl) AG))<|Ze (Ah (vs:=[_]) (cs:=[_,_,_,_,_,_,_,_,_,_]) GF D2 MT Y V rfl V rfl V)<|AE fun z=>Zv (BK (vs:=[(0,_),(1,_)]) (cs:=#[_,_]) Y (AY (pl:=#[(0,1),(1,1)]) SP G3 (fun _=>by kernel_rfl) V))<|Ze (Ah (vs:=[_,_,_]) (cs:=[_,_,_,_,_,_]) G4 Fk SP Y V rfl V rfl V)<|AE fun g=>AN Y<|Zn [0] ?_;refine Zx<|AC<|AO V results22 Y (by exact ⟨m,y,z,g,V,V⟩)
structure qT(l:List Bz):Prop where
 ok:Dy l
 len:l.length=3
 one:∃x,Ee l 1 2 exQ=some x/\x.res.val=1/\x.since=1/\x.until_=2
 two:∃y,Ee l 1 3 exQ=some y/\y.res.val=2/\y.since=3/\y.until_=3
 third:Cy exQ 1 (EQ (Bq (l.take 1)) exQ) (FD l 2 l.length)=none
theorem XR{M:List AR}{g:Nat}{T:An}{z:Nat×Nat}{cur:As}{c:Chg}(y:(g,Obj.cells cur T z)∈M)(E:10<=cur.size)(m:cur.extract 0 10=c.Ax2):DJ M (I6 g [c].length 1) [c]:=⟨_,_,rfl,by show 1<=maxLen;decide,fun i x hx=>by
 match i,hx with
 |0,hx=>injection hx with hx;subst hx;exact ⟨g,0,cur,T,z,rfl,y,by omega,by simpa using m⟩
 |i+1,hx=>simp at hx⟩
theorem mD:CJ prog 22 #[] [] (fun r H'=>∃(l:List Bz) (p:C1) (cap:Nat) (M:List AR),qT l/\DD M (.slice p l.length cap) l/\r= .slice p l.length cap/\H'=[M]):=by
 refine E8 aG V ?_;rintro r H' ⟨z,E,G,y,rfl,rfl⟩;obtain ⟨I,h2⟩:=rZ (some ⟨z,0,none⟩) (some ⟨E,0,none⟩) (some ⟨G,0,none⟩);refine ⟨_,⟨exL (some ⟨z,0,none⟩) (some ⟨E,0,none⟩) (some ⟨G,0,none⟩),some ⟨y,0,none⟩,3,[(z,.cells #[I4 0,I4 5,.bool false,I4 0,I4 0,I4 0,.bool true,I4 10,I4 0,I4 0] 126 (0,0)),(E,.cells #[I4 0,I4 6,.bool false,I4 0,I4 0,I4 0,.bool true,I4 99,I4 0,I4 0] 126 (0,0)),(G,.cells #[I4 0,I4 7,.bool false,I4 0,I4 0,I4 0,.bool true,I4 11,I4 0,I4 0] 126 (0,0)),(y,.cells #[I4 1,I6 z 1 1,I4 2,I6 E 1 1,I4 3,I6 G 1 1] 78 (0,0))],⟨fE _ _ _,V,I,h2,rW _ _ _⟩,⟨_,_,V,⟨by show 3<=maxLen;decide,B4 _⟩,fun i r m=>?_⟩,V,V⟩,by simp⟩
 match i,m with
 |0,m=>injection m with m;subst m;exact ⟨XR (g:=z) (c:=exC 5 10) (.head _) AH rfl,y,0,_,_,_,rfl,.tail _ (.tail _ (.tail _ (.head _))),c7 rfl,rfl⟩
 |1,m=>injection m with m;subst m;exact ⟨XR (g:=E) (c:=exC 6 99) (.tail _ (.head _)) AH rfl,y,0,_,_,_,rfl,.tail _ (.tail _ (.tail _ (.head _))),c7 rfl,rfl⟩
 |2,m=>injection m with m;subst m;exact ⟨XR (g:=G) (c:=exC 7 11) (.tail _ (.tail _ (.head _))) AH rfl,y,0,_,_,_,rfl,.tail _ (.tail _ (.tail _ (.head _))),c7 rfl,rfl⟩
 |i+3,m=>simp [exL]at m
theorem RA{l:List Bz}(z:Dy l)(m:l.length<=20){a b:Nat}(E:a<=b)(K:b<=l.length){q:QM}(I:BH q){x:Jj}(h:Ee l a b q=some x):(∀y∈x.ranges,y.small)/\x.ranges.length<=1000000/\(-1000000000000<=x.base/\x.base<=1000000000000)/\(∀r∈x.recs,r.cs.length<=1000)/\Bu x.q x.ranges=some (EI (Bq (l.take a)) q):=by
 obtain ⟨J,hn⟩:=z.rows a A0;have g:=Fs z m (by omega:a<=l.length) q
 have G:=GL J hn (z.rowsOk a A0) I g;have M:=Jr (Bq (l.take a)) q
 obtain ⟨e,_⟩:=Hr z m E K I h;rw [e];exact ⟨Z4 J hn q,by show(EQ _ _).length<=_;omega,by show _<=(a:Int)/\(a:Int)<=_;omega,H5 z a b,G⟩
theorem ZM{v:A3}{l:List Bz}{n:Nat}{s:List AR}(h:BS 3 67 v n (Ik (Mq l n)) s)(hn:0<n):∃g cap cur z,v=I6 g n cap/\s=[(g,.cells cur 67 z)]/\∀i,i<n->0+i*3+3<=cur.size/\cur.extract (0+i*3) (0+i*3+3)=#[I4 (Ep l i).p,.string (str (Ep l i).ch),.string (str (Ep l i).st)]:=by
 obtain ⟨g,cap,cur,z,rfl,rfl,_,_⟩:=EG h hn;refine ⟨g,cap,cur,z,V,V,fun i hi=>?_⟩;obtain ⟨J,G,I,K,hv,y,E,m⟩:=J7 h i hi;injection y with y
 injection y with hs1 hs2
 injection hs2 with hs2 hs3 hs4
 subst hs2;rw [Dd];refine ⟨E,L5.1 ?_⟩;rw [m];exact Hg (fun h:D5=>[I4 h.p,.string (str h.ch),.string (str h.st)]) 3 (fun _=>rfl) (Mq l n) i (Ep l i) (by unfold Mq;rw [HL,eN hi];rfl)
theorem uk{A M:List AR}{x y:FI}(hx:x.ok (A++M))(hy:y.ok (A++M)):BB prog 21 #[.agg x.Ax5,.agg y.Ax5] [A,M] (.bool (decide (x.a.eqv y.a))):=by
 refine E8 (Lf hx hy) C4 ?_;rintro r H' ⟨rfl,rfl⟩;exact ⟨_,⟨V,V⟩,by simp⟩
theorem uj{A B M:List AR}{x y:FI}(hx:x.ok (A++M))(hy:y.ok (B++M)):BB prog 21 #[.agg x.Ax5,.agg y.Ax5] [A,B,M] (.bool (decide (x.a.eqv y.a))):=by
 refine E8 (Lf (hx.mono (M':=A++(B++M)) (fun c hc=>by rcases GS.1 hc with h9|h9;exact HE _ h9;exact G2 _ (G2 _ h9))) (hy.mono (fun c hc=>G2 A hc))) C4 ?_;rintro r H' ⟨rfl,rfl⟩;exact ⟨_,⟨V,V⟩,by simp⟩
theorem mV:¬BH ⟨0,0,0,0,0,0,0⟩:=by decide
set_option maxHeartbeats 4000000 in
theorem xu(Tg:An)(zg:Nat×Nat):BB prog 4 #[] [[(1,.cells (Dj.map CP).toArray Tg zg)]] (.bool true):=by
 have zk:=mL;refine Se func4 ntmps4 [] ?_;intro u R;refine A2<|AF Y<|A2<|Zc [] Y call22 Y V (mD) ?_;rintro _ _ ⟨_,⟨l,p,cap,M,m,d9,rfl,rfl⟩,rfl⟩;have pg:=m.len
 obtain ⟨L1,G⟩:∃L,L=EQ (Bq (l.take 1)) exQ:=⟨_,rfl⟩;refine AF Y<|A2<|Zv (BK (vs:=[(0,I4 3),(2,I4 1),(3,I4 10),(4,I4 19)]) (cs:=#[I4 3,I4 0,I4 1,I4 10,I4 19,I4 0,I4 0]) Y (AY (pl:=#[(0,1),(1,1),(2,1),(3,1),(4,1),(5,1),(6,1)]) V0 CH (fun _=>by kernel_rfl) AG))<|Ze (Al V0 #[_,_,_,_,_,_,_])<|AE fun bq=>Xe (Xw CN #[I4 3,I4 0,I4 1,I4 10,I4 19,I4 0,I4 0]) ?_;refine A6<|B7 Y<|Zo Wh (A7 (cs:=#[_,_,_,_,_,_,_]) DE CN Y Wb (by exact AP V)) ?_;refine Zc [_,_,_,_] Y call23 Y V (jC d9 m.ok A0 1 2 AH A0 exQ Hq Tg zg) ?_;rintro _ _ ⟨_,⟨z1,E1,t1,y5,qx,wz,lv,rfl,rfl⟩,rfl⟩;obtain ⟨x1,qo,wo,pz,vw⟩:=m.one;obtain ⟨rfl,gm,O⟩:t1=true/\Ee l 1 2 exQ=some z1.a/\z1.ok (E1++M):=by rcases wz with E|⟨_,E,_⟩;exact E;rw [qo]at E;cases E
 obtain rfl:x1=z1.a:=by rw [qo]at gm;injection gm
 rw [<-G]at lv⊢;obtain ⟨sj,sw,sO,tT,ve⟩:=RA m.ok A0 AH A0 Hq gm;have o9:=RB m.ok A0 (by decide:1<=2) A0 Hq gm
 refine Sk 4 V<|Ze (Al SR #[_,_,_,_,_,_,_,_,_,_])<|AE fun b3=>Ze (Al Hs #[_,_,_,_,_,_,_,_,_,_,_,_,_,_,_])<|AE fun b4=>Xe (Xw cP #[I4 3,I4 0,I4 1,I4 10,I4 19,I4 0,I4 0,I4 0,I4 1,.slice y5 L1.length qx]) ?_;refine Xe (Xw F0 z1.Ax5) ?_;refine AN Y<|Zn [1,2,3,4,5] ?_;refine Zx<|B7 Y<|Zo Wh (A7 (cs:=#[_,_,_,_,_,_,_]) DE CN Y Wb (by exact AP V)) ?_;refine Zc [_,_,_,_] Y call23 Y V (jC d9 m.ok A0 1 3 AH A0 exQ Hq Tg zg) ?_;rintro _ _ ⟨_,⟨g,E2,t2,y9,qy,x9,vo,rfl,rfl⟩,rfl⟩;obtain ⟨x2,qw,qb,q9,vz⟩:=m.two;obtain ⟨rfl,Z,U⟩:t2=true/\Ee l 1 3 exQ=some g.a/\g.ok (E2++M):=by rcases x9 with E|⟨_,E,_⟩;exact E;rw [qw]at E;cases E
 obtain rfl:x2=g.a:=by rw [qw]at Z;injection Z
 rw [<-G]at vo⊢;obtain ⟨gy,kv,kz,l8,l9⟩:=RA m.ok A0 AH A0 Hq Z;have oq:=RB m.ok A0 (by decide:1<=3) A0 Hq Z
 refine Sk 4 V<|Ze (Al SR #[_,_,_,_,_,_,_,_,_,_])<|AE fun b6=>Ze (Al Hs #[_,_,_,_,_,_,_,_,_,_,_,_,_,_,_])<|AE fun b7=>Xe (Xw cP #[I4 3,I4 0,I4 1,I4 10,I4 19,I4 0,I4 0,I4 0,I4 1,.slice y9 L1.length qy]) ?_;refine Xe (Xw F0 g.Ax5) ?_;refine AF Y<|Zb [3,1,4,5,7,8] ?_;refine C9 (e0:=[(3,_)]) (H0:=[E1,M]) (fun e H=>(True)/\e=[(10,.bool false)]/\H=[E1,M]) Wp ?hx_1 ?hy_1
 case hx_1=>
  refine Au (n:=10) (0::0::2::7::15::31::31::0::191::511::[]) 392 AG AG V<|Fo 0 V Wh (A7 (cs:=#[_,_,_,_,_,_,_,_,_,_]) isAgg57 cP Y (by exact B4 _) (by exact AP V)) ?_;refine A1 1 rfl (AA Y)<|A1 2 rfl (Bv (l:=2) G4 Fk Y Y A0)<|Zz (l:=[3,7])<|C6 [false] [] rfl rfl (Zw [_,_] Y call11 Y rfl (Pf exQ 0 1 AH lv (by rw [G];have:=Jr (Bq (l.take 1)) exQ;have:=Fs m.ok A0 (by omega:1<=l.length) exQ;omega) (by rw [G];exact GL (m.ok.rows 1 A0).1 (m.ok.rows 1 A0).2 (m.ok.rowsOk 1 A0) Hq (Fs m.ok A0 A0 exQ)) (EA (J8 (a:=2) d9 A0 (B4 _)) (fun c hc=>G2 E1 hc)) (H5 m.ok 2 l.length))) ?hk_2 DC ?hl_2
  case' hk_2=>
   rintro _ _ ⟨_,⟨z9,s9,t9,o8,rfl,rfl⟩,rfl⟩;refine ⟨Ab,?_⟩;obtain rfl:t9=false:=by rcases o8 with⟨_,E,_⟩|⟨E,_⟩;rw [G,show(l.drop 2).take (l.length -2)=FD l 2 l.length from rfl,m.third]at E;cases E;exact E
   refine A1 4 V (AA Y)<|A1 5 V (Bn Y V)<|A1 6 V (Bn Y V)<|Zz (l:=[7])<|C6 [] [] V rfl (Al Hs #[_,_,_,_,_,_,_,_,_,_,_,_,_,_,_]) ?hk_3 (fun _ _ h=>h.elim) ?hl_3
   case' hk_3=>
    rintro _ _ ⟨b9,rfl,rfl⟩;refine CA<|Yz 8 191 511 [] [] [] V Y V rfl V rfl (Xw F0 z9.Ax5) ?_
   case' hl_3=>
    exact Ar
  case' hl_2=>
   refine C6 [true] [(0,(_,_))] V rfl (Al Hs #[_,_,_,_,_,_,_,_,_,_,_,_,_,_,_]) ?hk_6 (fun _ _ h=>h.elim) ?hl_6
   case' hk_6=>
    rintro _ _ ⟨b9,rfl,rfl⟩;refine CA<|Zz (l:=[3])<|C6 [false] [] rfl rfl (Zw [_,_] Y call11 Y rfl (Pf exQ 0 1 AH lv (by rw [G];have:=Jr (Bq (l.take 1)) exQ;have:=Fs m.ok A0 (by omega:1<=l.length) exQ;omega) (by rw [G];exact GL (m.ok.rows 1 A0).1 (m.ok.rows 1 A0).2 (m.ok.rowsOk 1 A0) Hq (Fs m.ok A0 A0 exQ)) (EA (J8 (a:=2) d9 A0 (B4 _)) (fun c hc=>G2 E1 hc)) (H5 m.ok 2 l.length))) ?hk_7 DC ?hl_7
    case' hk_7=>
     rintro _ _ ⟨_,⟨z9,s9,t9,o8,rfl,rfl⟩,rfl⟩;refine ⟨Ab,?_⟩;obtain rfl:t9=false:=by rcases o8 with⟨_,E,_⟩|⟨E,_⟩;rw [G,show(l.drop 2).take (l.length -2)=FD l 2 l.length from rfl,m.third]at E;cases E;exact E
     refine A1 4 V (AA Y)<|A1 5 V (Bn Y V)<|A1 6 V (Bn Y V)<|Zz (l:=[8])<|C6 [] [] V rfl (Xw F0 z9.Ax5) ?hk_8 (fun _ _ h=>h.elim) ?hl_8
     case' hl_8=>
      exact Ar
    case' hl_7=>
     exact Ar
   case' hl_6=>
    exact Ar
  all_goals
   rintro _ _ ⟨rfl,rfl⟩;refine CA<|A1 9 V (Aq Y)<|Am<|HC (by exact ⟨trivial,V,V⟩)
 rintro _ _ ⟨_,rfl,rfl⟩;refine B7 Y<|Zc [_] Y call15 Y V (VI d9 m.ok A0) ?_;rintro _ _ ⟨_,⟨sh,qa,rfl⟩,rfl⟩;rw [pg]at qa;obtain ⟨gh,ch,zb,zh,rfl,rfl,hw⟩:=ZM qa AH;have J:=hw 1 AH
 have ek:=hw 2 AH;have K:=hw 3 AH
 have pq:=(KA m.ok A0 2 A0).2.1;obtain ⟨X,gq⟩:∃h,h=Ep l 1:=⟨_,rfl⟩;obtain ⟨h2,mR⟩:∃h,h=Ep l 2:=⟨_,rfl⟩;obtain ⟨I,p9⟩:∃h,h=Ep l 3:=⟨_,rfl⟩;rw [<-gq]at J;rw [<-mR]at ek;rw [<-p9]at K;rw [<-gq,<-mR]at o9;rw [<-gq,<-p9]at oq;rw [<-mR]at pq;obtain ⟨e1,_⟩:=Hr m.ok A0 (by decide:1<=3) A0 Hq Z;have p8:g.a.base=1:=by rw [e1];rfl
 have qz:¬Eg X I (⟨⟨g.a.q,⟨g.a.res.rows,1,g.a.res.fnd⟩,g.a.since,g.a.until_,g.a.base,g.a.ranges,g.a.recs⟩,g.rp,g.rc,g.gp,g.gc,g.cp,g.cc⟩:FI).a:=fun E=>by have h8:=(fM m.ok A0 (by decide:1<=3) A0 Hq Z (y:=(⟨⟨g.a.q,⟨g.a.res.rows,1,g.a.res.fnd⟩,g.a.since,g.a.until_,g.a.base,g.a.ranges,g.a.recs⟩,g.rp,g.rc,g.gp,g.gc,g.cp,g.cc⟩:FI).a) ⟨rfl,rfl,rfl,rfl⟩ (u:=I) (by rw [<-gq];exact E)).1.2.2.2.2.1;have h7:=congrArg CB.val h8;rw [qb]at h7;revert h7;show¬(1:Int)=2;decide
 have r9:¬Eg h2 I g.a:=fun E=>by have h8:=E.1;rw [pq,p8]at h8;revert h8;decide
 have yt:z1.a.eqv z1.a:=z1.a.eqv_refl;have za:¬z1.a.eqv g.a:=fun E=>by have h8:=E.2.1;rw [pz,q9]at h8;revert h8;decide
 refine AF Y<|A2<|Zo Wh (A7 (cs:=g.Ax5) HQ F0 Y Wb (by exact AP V)) ?_;refine Ze (Al Hs #[_,_,_,_,_,_,_,_,_,_,_,_,_,_,_])<|AE fun bc=>Xe (Xw F0 g.Ax5) ?_;refine A6<|A2<|Zh 7 C3 rfl rfl BE Y<|Zv (Aj (off:=1) Cd rfl rfl A4 Y)<|Xe (Zs A4 Y Y rfl (hc:=by exact (rfl:_=(#[I4 g.a.q.kd,I4 g.a.q.tb,I4 g.a.q.cl,I4 g.a.q.lo,I4 g.a.q.hi,I4 g.a.q.bq,I4 g.a.q.ot,.slice g.rp g.a.res.rows.length g.rc,I4 1,.bool g.a.res.fnd,I4 g.a.since,I4 g.a.until_,I4 g.a.base,.slice g.gp g.a.ranges.length g.gc,.slice g.cp g.a.recs.length g.cc]:As))) (hi:=by first|omega|decide|(simp;done))) ?_;refine A6<|A2<|Zc [] Y call24 Y V (nV) ?_;rintro _ _ ⟨_,⟨zm,zl,rfl,rfl⟩,rfl⟩;refine Zv (BK (vs:=[]) (cs:=#[I4 0,I4 0,I4 0,I4 0,I4 0,I4 0,I4 0]) Y (AY (pl:=#[(0,1),(1,1),(2,1),(3,1),(4,1),(5,1),(6,1)]) V0 CH (fun _=>by kernel_rfl) AG))<|Xr [_,_] Y call8 Y V (qL (s:=[]) ⟨0,0,0,0,0,0,0⟩ mV) ?_;refine Sk 4 V<|AN Y<|Zn [4,5,7,8,10,11,12,14] ?_
 refine Zx<|Zq<|Au (n:=98) (0::1::3::7::15::31::63::127::255::511::1023::2047::4095::8191::16383::32767::65535::131071::262143::524287::1048575::2097151::4194303::8388607::16777215::33554431::67108863::134217727::268435455::536870911::1073741823::2147483647::4294967295::8589934591::17179869183::34359738367::68719476735::137438953471::274877906943::549755813887::1099511627775::2199023255551::4398046511103::8796093022207::2199023255551::19791209299967::54975581388799::2199023255551::281474976710655::562949953421311::1125899906842623::2251799813685247::4503599627370495::9007199254740991::2251799813685247::20266198323167231::56294995342131199::2251799813685247::288230376151711743::576460752303423487::1152921504606846975::2305843009213693951::4611686018427387903::9223372036854775807::2305843009213693951::20752587082923245567::57646075230342348799::2305843009213693951::295147905179352825855::590295810358705651711::1180591620717411303423::2361183241434822606847::4722366482869645213695::9444732965739290427391::18889465931478580854783::4722366482869645213695::42501298345826806923263::118059162071741130342399::4722366482869645213695::604462909807314587353087::1208925819614629174706175::2417851639229258349412351::4835703278458516698824703::9671406556917033397649407::9671406556917033397649407::38685626227668133590597631::77371252455336267181195263::154742504910672534362390527::309485009821345068724781055::309485009821345068724781055::1237940039285380274899124223::2475880078570760549798248447::4951760157141521099596496895::9903520314283042199192993791::19807040628566084398385987583::39614081257132168796771975167::79228162514264337593543950335::158456325028528675187087900671::[]) 1277230423859272753558323200 AG AG V ?_;refine A1 0 V (AA Y)<|A1 1 V (AA Y)<|CQ (t:=50) Y (fun k1=>?_) (fun k1=>?_);·
  first|rw [Cp k1]|rw [k1]|skip
  refine B1 2 V (AA Y)<|A1 3 V (Ay Y Y)<|A1 4 V (AA Y)<|CQ (t:=53) Y (fun k2=>?_) (fun k2=>?_);·
   first|rw [Cp k2]|rw [k2]|skip
   refine B1 5 V (AA Y)<|B1 6 V (CR Y)<|A1 7 V (Ay Y Y)<|A1 8 V (AA Y)<|CQ (t:=57) Y (fun k3=>?_) (fun k3=>?_);·
    first|rw [Cp k3]|rw [k3]|skip
    refine B1 9 V (AL (off:=7) C3 V rfl BE Y)<|B1 10 V (Aj (off:=1) Cd V rfl A4 Y)<|DG 11 V Wh (BZ A5 Y B5) ?_;refine B1 12 V (Bd Y Y)<|A1 13 V (Ay Y Y)<|A1 14 V (AA Y)<|CS (t:=63) Y (fun k4=>?_) (fun k4=>?_);·
     first|rw [Cp k4]|rw [k4]|skip
     refine B1 15 V (AL (off:=10) C3 V rfl A4 Y)<|DG 16 V Wh (BZ A5 Y B5) ?_;refine B1 17 V (Bd Y Y)<|A1 18 V (Ay Y Y)<|A1 19 V (AA Y)<|CS (t:=68) Y (fun k5=>?_) (fun k5=>?_);·
      first|rw [Cp k5]|rw [k5]|skip
      refine B1 20 V (AL (off:=11) C3 V rfl A4 Y)<|DG 21 V Wh (BZ A5 Y B5) ?_;refine B1 22 V (Bd Y Y)<|A1 23 V (Ay Y Y)<|A1 24 V (AA Y)<|CS (t:=73) Y (fun k6=>?_) (fun k6=>?_);·
       first|rw [Cp k6]|rw [k6]|skip
       refine B1 25 V (AL (off:=7) C3 V rfl BE Y)<|B1 26 V (Aj (off:=1) Cd V rfl A4 Y)<|DG 27 V Wh (BZ A5 Y B5) ?_;refine B1 28 V (Bd Y Y)<|A1 29 V (Ay Y Y)<|A1 30 V (AA Y)<|CS (t:=79) Y (fun k7=>?_) (fun k7=>?_);·
        first|rw [Cp k7]|rw [k7]|skip
        refine B1 31 V (AL (off:=10) C3 V rfl A4 Y)<|DG 32 V Wh (BZ A5 Y B5) ?_;refine B1 33 V (Bd Y Y)<|A1 34 V (Ay Y Y)<|A1 35 V (AA Y)<|CS (t:=84) Y (fun k8=>?_) (fun k8=>?_);·
         first|rw [Cp k8]|rw [k8]|skip
         refine B1 36 V (AL (off:=11) C3 V rfl A4 Y)<|DG 37 V Wh (BZ A5 Y B5) ?_;refine B1 38 V (Bd Y Y)<|A1 39 V (Ay Y Y)<|A1 40 V (AA Y)<|CS (t:=89) Y (fun k9=>?_) (fun k9=>?_);·
          first|rw [Cp k9]|rw [k9]|skip
          refine B1 41 V (AA Y)<|B1 42 V (A9 (j:=1) Pc Ek Y Y A0)<|DG 43 V Wh (A7 (cs:=#[I4 X.p,.string (str X.ch),.string (str X.st)]) HK Ek Y (J).1 (J).2) ?_;refine B1 44 V (AA Y)<|B1 45 V (A9 (j:=2) Pc Ek Y Y A0)<|DG 46 V Wh (A7 (cs:=#[I4 h2.p,.string (str h2.ch),.string (str h2.st)]) HK Ek Y (ek).1 (ek).2) ?_;refine DG 47 V Wh (A7 (cs:=#[_,_,_,_,_,_,_,_,_,_,_,_,_,_,_]) HQ F0 Y (by exact B4 _) (by exact AP V)) ?_;refine Yw 48 562949953421311 V (Zu [_,_,_] Y call19 Y V (Pd X h2 O sj sw sO tT ve Tg zg)) ?_;rintro _ _ ⟨rfl,rfl⟩;rw [Cp o9];refine A1 49 V (Ay Y Y)<|A1 50 V (AA Y)<|CQ (t:=99) Y (fun af=>?_) (fun af=>?_);·
           first|rw [Cp af]|rw [af]|skip
           refine B1 51 V (AA Y)<|B1 52 V (A9 (j:=1) Pc Ek Y Y A0)<|DG 53 V Wh (A7 (cs:=#[I4 X.p,.string (str X.ch),.string (str X.st)]) HK Ek Y (J).1 (J).2) ?_;refine B1 54 V (AA Y)<|B1 55 V (A9 (j:=3) Pc Ek Y Y A0)<|DG 56 V Wh (A7 (cs:=#[I4 I.p,.string (str I.ch),.string (str I.st)]) HK Ek Y (K).1 (K).2) ?_;refine DG 57 V Wh (A7 (cs:=#[_,_,_,_,_,_,_,_,_,_,_,_,_,_,_]) HQ F0 Y (by exact B4 _) (by exact AP V)) ?_;refine Yw 58 576460752303423487 V (Zu [_,_,_] Y call19 Y V (Pd X I U gy kv kz l8 l9 Tg zg)) ?_;rintro _ _ ⟨rfl,rfl⟩;rw [Cp oq];refine A1 59 V (Ay Y Y)<|A1 60 V (AA Y)<|CQ (t:=109) Y (fun ax=>?_) (fun ax=>?_);·
            first|rw [Cp ax]|rw [ax]|skip
            refine B1 61 V (AA Y)<|B1 62 V (A9 (j:=1) Pc Ek Y Y A0)<|DG 63 V Wh (A7 (cs:=#[I4 X.p,.string (str X.ch),.string (str X.st)]) HK Ek Y (J).1 (J).2) ?_;refine B1 64 V (AA Y)<|B1 65 V (A9 (j:=3) Pc Ek Y Y A0)<|DG 66 V Wh (A7 (cs:=#[I4 I.p,.string (str I.ch),.string (str I.st)]) HK Ek Y (K).1 (K).2) ?_;refine DG 67 V Wh (A7 (cs:=#[_,_,_,_,_,_,_,_,_,_,_,_,_,_,_]) HQ F0 Y (by exact B4 _) (by exact AP V)) ?_;refine Yw 68 590295810358705651711 V (Zu [_,_,_] Y call19 Y V (Pd X I (z:=(⟨⟨g.a.q,⟨g.a.res.rows,1,g.a.res.fnd⟩,g.a.since,g.a.until_,g.a.base,g.a.ranges,g.a.recs⟩,g.rp,g.rc,g.gp,g.gc,g.cp,g.cc⟩:FI)) U gy kv kz l8 l9 Tg zg)) ?_;rintro _ _ ⟨rfl,rfl⟩;rw [CC qz];refine B1 69 V (CR Y)<|A1 70 V (Ay Y Y)<|A1 71 V (AA Y)<|CQ (t:=120) Y (fun bf=>?_) (fun bf=>?_);·
             first|rw [Cp bf]|rw [bf]|skip
             refine B1 72 V (AA Y)<|B1 73 V (A9 (j:=2) Pc Ek Y Y A0)<|DG 74 V Wh (A7 (cs:=#[I4 h2.p,.string (str h2.ch),.string (str h2.st)]) HK Ek Y (ek).1 (ek).2) ?_;refine B1 75 V (AA Y)<|B1 76 V (A9 (j:=3) Pc Ek Y Y A0)<|DG 77 V Wh (A7 (cs:=#[I4 I.p,.string (str I.ch),.string (str I.st)]) HK Ek Y (K).1 (K).2) ?_;refine DG 78 V Wh (A7 (cs:=#[_,_,_,_,_,_,_,_,_,_,_,_,_,_,_]) HQ F0 Y (by exact B4 _) (by exact AP V)) ?_;refine Yw 79 1208925819614629174706175 V (Zu [_,_,_] Y call19 Y V (Pd h2 I U gy kv kz l8 l9 Tg zg)) ?_;rintro _ _ ⟨rfl,rfl⟩;rw [CC r9];refine B1 80 V (CR Y)<|A1 81 V (Ay Y Y)<|A1 82 V (AA Y)<|CQ (t:=131) Y (fun bn=>?_) (fun bn=>?_);·
              first|rw [Cp bn]|rw [bn]|skip
              refine DG 83 V Wh (A7 (cs:=#[_,_,_,_,_,_,_,_,_,_,_,_,_,_,_]) HQ F0 Y (by exact B4 _) (by exact AP V)) ?_;refine DG 84 V Wh (A7 (cs:=#[_,_,_,_,_,_,_,_,_,_,_,_,_,_,_]) HQ F0 Y (by exact B4 _) (by exact AP V)) ?_;refine Yw 85 77371252455336267181195263 V (Zu [_,_] Y call21 Y V (uk O O)) ?_;rintro _ _ ⟨rfl,rfl⟩;rw [Cp yt];refine A1 86 V (Ay Y Y)<|A1 87 V (AA Y)<|CQ (t:=136) Y (fun cu=>?_) (fun cu=>?_);·
               first|rw [Cp cu]|rw [cu]|skip
               refine DG 88 V Wh (A7 (cs:=#[_,_,_,_,_,_,_,_,_,_,_,_,_,_,_]) HQ F0 Y (by exact B4 _) (by exact AP V)) ?_;refine DG 89 V Wh (A7 (cs:=#[_,_,_,_,_,_,_,_,_,_,_,_,_,_,_]) HQ F0 Y (by exact B4 _) (by exact AP V)) ?_;refine Yw 90 2475880078570760549798248447 V (Zu [_,_] Y call21 Y V (uj O U)) ?_;rintro _ _ ⟨rfl,rfl⟩;rw [CC za];refine B1 91 V (CR Y)<|A1 92 V (Ay Y Y)<|A1 93 V (AA Y)<|CQ (t:=142) Y (fun cO=>?_) (fun cO=>?_);·
                first|rw [Cp cO]|rw [cO]|skip
                refine B1 94 V (AA Y)<|B1 95 V (Bg (n:=50) Y Y)<|A1 96 V (Ay Y Y)<|A1 97 V (Aq Y)<|Am<|Zn [0] ?_;refine Zx<|AC<|AO V results4 Y (by exact ⟨V,V⟩)
               first|rw [CC cO]|rw [cO]|skip
               cases cO
              first|rw [CC cu]|rw [cu]|skip
              cases cu
             first|rw [CC bn]|rw [bn]|skip
             cases bn
            first|rw [CC bf]|rw [bf]|skip
            cases bf
           first|rw [CC ax]|rw [ax]|skip
           cases ax
          first|rw [CC af]|rw [af]|skip
          cases af
         first|rw [CC k9]|rw [k9]|skip
         exact absurd vz k9
        first|rw [CC k8]|rw [k8]|skip
        exact absurd q9 k8
       first|rw [CC k7]|rw [k7]|skip
       exact absurd qb k7
      first|rw [CC k6]|rw [k6]|skip
      exact absurd vw k6
     first|rw [CC k5]|rw [k5]|skip
     exact absurd pz k5
    first|rw [CC k4]|rw [k4]|skip
    exact absurd wo k4
   first|rw [CC k3]|rw [k3]|skip
   cases k3
  first|rw [CC k2]|rw [k2]|skip
  cases k2
 first|rw [CC k1]|rw [k1]|skip
 cases k1
theorem YU{rs:List AV}(M:BP rs)(hn:rs.length<=2000)(z:∀r∈rs,r.ok)(t c:Nat)(lo hi:Int)(m:lo<=hi)(y:-1000000000<=lo)(g:hi<=1000000000):RgB (EC rs t c lo hi) 0:=by
 obtain ⟨X,h2,Z,G,I,J⟩:=dI M hn z t c lo hi m y g;obtain ⟨_,_,O,U,E⟩:=J;exact ⟨by omega,by omega,h2,by omega,by omega,G,I,fun r K=>by have:=E r K;omega⟩
theorem vH{rs:List AV}(z:BP rs)(hn:rs.length<=2000)(g:∀r∈rs,r.ok){q:QM}(E:BH q):∀x∈EQ rs q,RgB x 0:=fun x hx=>by
 have m:=E.2.2.1;unfold EQ at hx;rcases H4.1 hx with rfl|hx
 · exact YU z hn g _ _ _ _ m.2.1 m.1 m.2.2
 · split at hx
   · obtain ⟨r,G,rfl⟩:=HX.1 hx
     have y:=NB (g r (I7 G)) q.bq;exact YU z hn g _ _ _ _ (db _) y.1 y.2
   · cases hx
theorem nH{l:List Bz}(g:Dy l)(m:l.length<=20)(z:UA l){a b:Nat}(E:a<=b)(y:b<=l.length){q:QM}(G:BH q){x:Jj}(h:Ee l a b q=some x):TwB x 0:=by
 obtain ⟨X,hn⟩:=g.rows a A0;have I:=Fs g m (by omega:a<=l.length) q
 have hm:=Jr (Bq (l.take a)) q;have K:=GL (g.rows b y).1 (g.rows b y).2 (g.rowsOk b y) G (Fs g m y q)
 obtain ⟨_,Z,h2,h3⟩:=Oi K;obtain ⟨e,J⟩:=Hr g m E y G h;have h4:=J.le
 have h5:=QF (a:=a) y;have O:=H5 g a b
 have U:=vH X hn (g.rowsOk a A0) G;rw [e];refine ⟨?_,?_,?_,?_,?_,?_,?_,fun r M=>⟨O r M,z r (Lo (Ks M))⟩,U⟩<;>(simp only;omega)
theorem uK:TwB AZ0.a 0:=by
 refine ⟨?_,?_,?_,?_,?_,?_,?_,fun x hx=>(by cases hx),fun x hx=>(by cases hx)⟩<;>decide
theorem xU(M:List AR):AZ0.ok M:=⟨⟨none,0,rfl,⟨CD _,B4 _⟩,fun i z hz=>by cases hz⟩,⟨[],⟨none,0,rfl,⟨CD _,B4 _⟩,fun i z hz=>by cases hz⟩,rfl⟩,⟨none,0,rfl,⟨CD _,B4 _⟩,fun i z hz=>by cases hz⟩⟩
theorem kF{M M':List AR}{v m:A3}{x y:RP}(hv:LQ M v x)(g:LQ M' m y):BB prog 10 #[v,m] [M,M'] (.bool (decide (x=y))):=by
 refine E8 (YT (hv.mono (fun c hc=>HE M' hc)) (g.mono (fun c hc=>G2 M hc))) C4 ?_;rintro r H' ⟨rfl,rfl⟩;exact ⟨_,⟨V,V⟩,by simp⟩
def RP.zero:RP:=⟨0,0,0,0,0,0,[],[],[]⟩
def q7(t c lo hi:Int):Prop:=((0<=t/\t<4)/\0<=c/\c<4)/\lo<=hi
instance(t c lo hi:Int):Decidable (q7 t c lo hi):=inferInstanceAs(Decidable (_/\_))
theorem Ty{M:List AR}(q:QM)(I base:Int)(hb:-1000000000000<=base/\base<=1000000000000){X:C1}{J:Nat}{L:List RP}(K:Et M (.slice X L.length J) L)(E:L.length<=1000000){U:A3}{l:List Bz}(O:DD M U l)(G:∀x∈l,x.cs.length<=1000)(m:Addr)(g:An)(y:Nat×Nat):CJ prog 11 #[.agg #[I4 q.kd,I4 q.tb,I4 q.cl,I4 q.lo,I4 q.hi,I4 q.bq,I4 q.ot,I4 I,I4 base,.slice X L.length J],U] [M,[(0,.cells #[.iface 343 (.pointer (some m))] g y)]] (fun w H'=>∃(z:FI) (s:List AR) (b:Bool),w= .tuple #[.agg z.Ax5,.bool b]/\b=(Cy q base L l).isSome/\z.a=(Cy q base L l).getD AZ0.a/\z.ok (s++M)/\H'=[s,M,[(0,.cells #[.iface 343 (.pointer (some m))] g y)]]):=by
 cases hs:Bu q L with
 |some r=>
  refine Tv (Tz q I base hb K E hs O G) [(0,.cells #[.iface 343 (.pointer (some m))] g y)] C4 ?_;rintro w H' ⟨z,s,b,Z,rfl,rfl⟩;refine ⟨[s,M,[(0,.cells #[.iface 343 (.pointer (some m))] g y)]],⟨z,s,b,V,?_⟩,by simp⟩;rcases Z with⟨rfl,h2,h3⟩|⟨rfl,h2,rfl⟩
  · rw [h2];exact ⟨rfl,rfl,h3,rfl⟩
  · rw [h2];exact ⟨rfl,rfl,xU _,rfl⟩
 |none=>
  obtain ⟨lp,lc,rfl,_⟩:=id O;refine E8 (aW q I base K hs lp _ lc m g y) V ?_;rintro w H' ⟨rfl,rfl⟩;have hn:Cy q base L l=none:=by unfold Cy;rw [hs];rfl
  rw [hn];exact ⟨_,⟨AZ0,[],false,V,V,V,xU _,V⟩,by simp⟩
theorem rq{x y:Jj}(h:x=y):x.eqv y:=by subst h;exact ⟨rfl,rfl,rfl,rfl,rfl,rfl,rfl⟩
theorem Mr{M M':List AR}{v:A3}{m:List Xf}(h:N9 M v m)(K:∀c∈M,c∈M'):N9 M' v m:=by
 obtain ⟨p,cap,y,h2,z⟩:=h;refine ⟨p,cap,y,h2,fun i w O=>?_⟩;obtain ⟨E,g,off,cur,T,zz,G,I,J⟩:=z i w O;exact ⟨E,g,off,cur,T,zz,G,K _ I,J⟩
theorem zO{l:List Bz}(E:Dy l)(m:l.length<=20)(g:UA l){a b:Nat}(y:a<=b)(z:b<=l.length){q:QM}(G:BH q):TwB ((Cy q (a:Int) (EQ (Bq (l.take a)) q) (FD l a b)).getD AZ0.a) 0:=by
 cases h:Cy q (a:Int) (EQ (Bq (l.take a)) q) (FD l a b)with
 |none=>exact uK
 |some x=>exact nH E m g y z G h
theorem bJ(q:QM)(L:List RP):((Bu q L).getD CB.none).rows.length<=1000000:=by
 cases h:Bu q L with
 |none=>exact CD _
 |some r=>
  obtain ⟨_,g,h2,m⟩:=Oi h;show r.rows.length<=_
  omega
theorem yw{q:QM}{base:Int}{L:List RP}{l:List Bz}(h:L.length<=1000000):((Cy q base L l).getD AZ0.a).ranges.length<=1000000:=by
 cases hs:Bu q L with
 |none=>rw [xR hs];exact CD _
 |some r=>
  by_cases g:l.length<=64
  · rw [sW hs g]
    split;· exact h
    · exact CD _
  · rw [OW A0];exact CD _
theorem Od{W A B:List AR}(h:W=A++B):(∀c∈A,c∈W)/\∀c∈B,c∈W:=by
 subst h;exact ⟨fun c hc=>HE _ hc,fun c hc=>G2 _ hc⟩
set_option maxHeartbeats 4000000 in
theorem dx{M:List AR}{v:A3}{xs:List (List Int)}(hX:Nr M v xs)(q0 q1 q2 q3 q4 cb cu:Int)(ML:-9223372036854775808<=q0)(P5:q0<=9223372036854775807)(P6:-9223372036854775808<=q1)(P7:q1<=9223372036854775807)(Pn:-9223372036854775808<=q2)(Ps:q2<=9223372036854775807)(Qd:-9223372036854775808<=q3)(Qe:q3<=9223372036854775807)(Rl:-9223372036854775808<=q4)(Ta:q4<=9223372036854775807)(FT:-9223372036854775808<=cb)(Gl:cb<=9223372036854775807)(Gw:-9223372036854775808<=cu)(Hf:cu<=9223372036854775807){tw:A3}{ws:List Xf}(hT:N9 M tw ws)(Tg:An)(zg:Nat×Nat)(pa:Addr)(Tx:An)(zx:Nat×Nat):CJ prog 3 #[.agg #[v,I4 q0,I4 q1,I4 q2,I4 q3,I4 q4,I4 cb,I4 cu,tw]] [[(1,.cells (Dj.map CP).toArray Tg zg)],[(0,.cells #[.iface 343 (.pointer (some pa))] Tx zx)],M] (fun r H'=>r= .bool true/\∃W E,W=E++M/\H'=[[(1,.cells (Dj.map CP).toArray Tg zg)],[(0,.cells #[.iface 343 (.pointer (some pa))] Tx zx)],W]):=by
 have hml:=mL;refine Se func3 ntmps3 [0] ?_;intro u R;refine A2<|Ze (Bx #[v,I4 q0,I4 q1,I4 q2,I4 q3,I4 q4,I4 cb,I4 cu,tw])<|AE fun bc=>AF Y<|A2<|Xr [] Y call4 Y V (xu Tg zg) ?_;refine AF Y<|A2<|Zo Wh (A7 (cs:=#[_,_,_,_,_,_,_,_,_]) isAgg26 sizeOf26 Y (by exact B4 _) (by exact AP V)) ?_;refine Zc [_] Y call5 Y V (YV hX q0 q1 q2 q3 q4 cb cu ML P5 P6 P7 Pn Ps Qd Qe Rl Ta FT Gl Gw Hf tw) ?_;rintro _ _ ⟨_,⟨l,p,cap,s,q,a,b,g,mR,gy,hq,Z,hb,rfl,rfl⟩,rfl⟩;obtain ⟨mR,sw⟩:=mR;obtain ⟨p9,cap9,e9,⟨hl1,hl2⟩,hgl⟩:=id gy;injection e9 with e91 e92 e93
 subst e91 e93;refine Sk 5 V<|Ze (Al V0 #[_,_,_,_,_,_,_])<|AE fun bq=>Za Y<|Xe (Xw CN q.Ax4) ?_;refine Za Y<|AN Y<|Zn [1,3,4,5,6,7] ?_;refine BT<|Sk 2 V<|Zc [_,_] Y call6 Y V (xV gy g A0 a A0) ?_;rintro _ _ ⟨_,⟨v1,s1,rfl,hS1,rfl⟩,rfl⟩;obtain ⟨hs9,MC⟩:=g.rows a A0;have pq:=g.rowsOk a A0
 have ax:=Fs g mR (by omega:a<=l.length) q;have hmk:=Jr (Bq (l.take a)) q
 obtain ⟨L,hL⟩:∃L,L=EQ (Bq (l.take a)) q:=⟨_,rfl⟩;rw [<-hL]at hmk;refine Sk 4 V<|AF Y<|A2<|Sk 2 V<|Zc [_,_] Y call7 Y V (ze p cap l s gy g A0 a A0) ?_;rintro _ _ ⟨_,⟨rp,w,sv,rfl,hrw,rfl⟩,rfl⟩;refine Sk 4 V<|AN Y<|Zn [1,3,4,5,6,7,8,10] ?_;refine Zx<|B7 Y<|Zo Wh (A7 (cs:=#[_,_,_,_,_,_,_]) DE CN Y (by exact B4 _) (by exact AP V)) ?_;refine Zc [_,_] Y call8 Y V (qK _ _ _ _ hS1 hs9 MC pq q hq ax Tg zg) ?_;rintro _ _ ⟨_,⟨vo,mx,rfl,qo,rfl⟩,rfl⟩;rw [<-hL]at qo;obtain ⟨pg,cg,rfl,hg1,hg2⟩:=qo.form;refine Sk 4 V<|AF Y<|B7 Y<|Zo Wh (A7 (cs:=#[_,_,_,_,_,_,_]) DE CN Y (by exact B4 _) (by exact AP V)) ?_;refine Zc [_,_] Y call9 Y V (oQ rp (a:Int) w _ sv hrw MC hs9 pq q hq ax) ?_;rintro _ _ ⟨_,⟨vo2,my,rfl,qw,rfl⟩,rfl⟩;rw [<-hL]at qw;obtain ⟨p8,ek,rfl,hg3,hg4⟩:=qw.form;refine Sk 4 V<|AN Y<|Zn [1,3,4,5,6,7,12,13,14,15] ?_;refine Zx<|Zq<|Zq<|ES (s1:=s) (s2:=M) Wo Wo ?_;obtain ⟨W9,sj⟩:∃W,W=s++M:=⟨_,rfl⟩;rw [<-sj];obtain ⟨hl9,hr9⟩:=Od sj;refine ES (s1:=my) (s2:=W9) Wo Wo ?_;obtain ⟨W0,qy⟩:∃W,W=my++W9:=⟨_,rfl⟩;rw [<-qy];obtain ⟨hl0,Tm⟩:=Od qy;have O:=EA gy fun c hc=>Tm c (hl9 c hc)
 have hT0:=Mr hT fun c hc=>Tm c (hr9 c hc);have gq:=qw.mono hl0
 refine Zg<|Sk 2 V<|Zv (Cb Y Y)<|Zm Y<|AZ (t:=66) Y V (fun k1=>?_) (fun k1=>?_);·
  exact absurd V k1
 refine Zf Y Y<|Yg (AJ Ds Y)<|Zf Y Y<|Yg (AJ Ds Y)<|Yg (Cb Y Y)<|H3 Y Y<|A6<|Ad Y (fun k2=>?_) (fun k2=>?_);·
  exact absurd V k2
 refine B3<|Zq<|A2<|AF Y<|AQ<|Zb [16,1,3,4,5,6,7,12,14] ?_;refine Av (e0:=[(16,_)]) (fun m e H=>∃(i:Nat),m=L.length -i/\(i<=L.length)/\e=[(16,I4 (i:Int))]/\H=[]) (by exact ⟨0,V,CD _,V,V⟩) Wp ?_;rintro _ _ _ ⟨i,rfl,hi,rfl,rfl⟩;refine Zq<|A2<|Sk 2 V<|Zv (AJ Ds Y)<|Zv (Ak Y Y)<|A6<|Ad Y (fun hlt=>?_) (fun hlt=>?_);·
  obtain ⟨x,hx⟩:∃x,L[i]?=some x:=⟨_,Bk A0⟩;obtain ⟨za,hza,ho1,g1,off1,cur1,T1,zz1,hp1,hm1,hs1,hx1⟩:=O3 qo hx;obtain ⟨zb,hzb,ho2,g2,off2,cur2,T2,zz2,hp2,hm2,hs2,hx2⟩:=O3 gq hx;rw [hp1,hp2];refine B3<|Zq<|AQ<|Zq<|Au (n:=10) (0::0::3::7::0::0::48::112::255::511::[]) 256 AG AG V<|A1 0 V (AA Y)<|A1 1 V (AA Y)<|A1 2 V (A9 Ds DM Y Y A0)<|CX (D':=15) 3 V rfl V (GK Wo (hm1)) (A7 (cs:=#[_,_,_,_,_,_,_,_,_]) It DM Y A0 (by exact hx1)) ?_;refine A1 4 V (AA Y)<|A1 5 V (AA Y)<|A1 6 V (A9 Ds DM Y Y A0)<|CX (D':=255) 7 V rfl V (GK Wo (hm2)) (A7 (cs:=#[_,_,_,_,_,_,_,_,_]) It DM Y A0 (by exact hx2)) ?_;refine Yw 8 511 V (Zu [_,_] Y call10 Y V (kF ho1.rp ho2.rp)) ?_;rintro _ _ ⟨rfl,rfl⟩;rw [Cp (hza.trans hzb.symm)];refine A1 9 V (CR Y)<|Am<|Zn [1,3,4,5,6,7,12,14,16,88] ?_;refine Zx<|Af Y (fun k3=>?_) (fun k3=>?_);·
   (cases k3;done)
  refine AB<|A8<|Zx<|Zg<|Zm Y<|Ya (n:=1) Y Y<|AN Y<|HN (by exact ⟨i+1,V,by omega,V,V⟩)
 refine Az<|Zt<|Zt<|AU<|Zx ?_;obtain ⟨B9,J⟩:∃o,o=Cy q (a:Int) L (FD l a b):=⟨_,rfl⟩;have y9:TwB (B9.getD AZ0.a) 0:=by rw [J,hL];exact zO g mR sw Z hb hq
 refine Zb [1,3,4,5,6,7,14] ?_;refine C9 (e0:=[]) (H0:=[W0]) (fun e H=>∃(z1:FI) (E1:List AR) (b3:Nat),(z1.a=B9.getD AZ0.a/\z1.ok (E1++W0))/\e=[(17,I5 b3),(18,.bool B9.isSome)]/\H=[[(b3,.cells z1.Ax5 53 (0,0))],E1,W0]) Wp ?hx_4 ?hy_4
 case hx_4=>
  refine Au (n:=15) (0::0::0::7::0::0::0::112::255::511::1023::1023::0::6143::16383::[]) 12544 AG AG V<|Fo 0 V Wh (A7 (cs:=#[_,_,_,_,_,_,_]) DE CN Y (by exact B4 _) (by exact AP V)) ?_;refine A1 1 V (AA Y)<|A1 2 V (AA Y)<|A1 3 V (BK (vs:=[(0,.agg q.Ax4),(2,I4 (a:Int)),(3,.slice p8 L.length ek),(1,I4 3)]) (cs:=#[I4 q.kd,I4 q.tb,I4 q.cl,I4 q.lo,I4 q.hi,I4 q.bq,I4 q.ot,I4 3,I4 (a:Int),.slice p8 L.length ek]) Y (AY (pl:=#[(0,7),(7,1),(8,1),(9,1)]) SR L4 (fun _=>by kernel_rfl) AG))<|A1 4 V (AA Y)<|A1 5 V (AA Y)<|A1 6 V (AA Y) ?_
  (refine Dr (D':=255) 7 (Ir G4 Fk Y Y Y ?_ ?_) ?_;(focus (omega));(focus (omega)))
  refine Zz (l:=[8,12])<|C6 [false] [] V rfl (Zw [_,_] Y call11 Y V (Ty q 3 (a:Int) A0 gq A0 (J8 O Z hb) (H5 g a b) pa Tx zx)) ?hk_5 DC ?hl_5
  case' hk_5=>
   rintro _ _ ⟨_,⟨z1,E1,b1,rfl,zl,cO,G,rfl⟩,rfl⟩;refine CA<|A1 9 V (AA Y)<|A1 10 V (Bn Y V)<|A1 11 V (Bn Y V)<|Zz (l:=[12])<|C6 [] [] V rfl (Al Hs #[_,_,_,_,_,_,_,_,_,_,_,_,_,_,_]) ?hk_6 (fun _ _ h=>h.elim) ?hl_6
   case' hk_6=>
    rintro _ _ ⟨b3,rfl,rfl⟩;refine CA<|Yz 13 6143 16383 [] [] [] V Y V rfl V rfl (Xw F0 z1.Ax5) ?_
   case' hl_6=>
    exact Ar
  case' hl_5=>
   refine C6 [true] [(0,(_,_))] V rfl (Al Hs #[_,_,_,_,_,_,_,_,_,_,_,_,_,_,_]) ?hk_9 (fun _ _ h=>h.elim) ?hl_9
   case' hk_9=>
    rintro _ _ ⟨b3,rfl,rfl⟩;refine CA<|Zz (l:=[8])<|C6 [false] [] V rfl (Zw [_,_] Y call11 Y V (Ty q 3 (a:Int) A0 gq A0 (J8 O Z hb) (H5 g a b) pa Tx zx)) ?hk_10 DC ?hl_10
    case' hk_10=>
     rintro _ _ ⟨_,⟨z1,E1,b1,rfl,zl,cO,G,rfl⟩,rfl⟩;refine CA<|A1 9 V (AA Y)<|A1 10 V (Bn Y V)<|A1 11 V (Bn Y V)<|Zz (l:=[13])<|C6 [] [] V rfl (Xw F0 z1.Ax5) ?hk_11 (fun _ _ h=>h.elim) ?hl_11
     case' hl_11=>
      exact Ar
    case' hl_10=>
     exact Ar
   case' hl_9=>
    exact Ar
  all_goals
   rintro _ _ ⟨rfl,rfl⟩;refine CA<|A1 14 V (Aq Y)<|Am<|Zn [17,18,1,3,4,5,6,7,14] ?_;refine BD (e':=[(17,_),(18,_)]) (by
    (have e9:b1=B9.isSome:=by rw [J];exact zl
     exact ⟨z1,E1,b3,⟨by rw [J];exact cO,G⟩,by rw [e9],rfl⟩))
 rintro _ _ ⟨z1,E1,b3,⟨cO,G⟩,rfl,rfl⟩;refine ES (s1:=E1) (s2:=W0) Wo Wo ?_;obtain ⟨W1,kv⟩:∃W,W=E1++W0:=⟨_,rfl⟩;rw [<-kv];obtain ⟨hl1,tT⟩:=Od kv;rw [<-kv]at G;have U:=EA O tT
 have hT1:=Mr hT0 tT;have wz:=gq.mono tT
 refine Zb [5,14,1,3,4,6,7,17,18] ?_;refine C9 (e0:=[(5,_),(14,_)]) (H0:=[W1]) (fun e H=>∃(z2:FI) (E2:List AR) (b4:Nat),(z2.a=B9.getD AZ0.a/\z2.ok (E2++W1))/\e=[(19,I5 b4),(20,.bool B9.isSome)]/\H=[[(b4,.cells z2.Ax5 53 (0,0))],E2,W1]) Wp ?hx_13 ?hy_13
 case hx_13=>
  refine Au (n:=15) (0::0::0::7::0::0::0::112::255::511::1023::1023::0::6143::16383::[]) 12544 AG AG V<|Fo 0 V Wh (A7 (cs:=#[_,_,_,_,_,_,_]) DE CN Y (by exact B4 _) (by exact AP V)) ?_;refine A1 1 V (AA Y)<|A1 2 V (AA Y)<|A1 3 V (BK (vs:=[(0,.agg q.Ax4),(2,I4 (a:Int)),(3,.slice p8 L.length ek)]) (cs:=#[I4 q.kd,I4 q.tb,I4 q.cl,I4 q.lo,I4 q.hi,I4 q.bq,I4 q.ot,I4 0,I4 (a:Int),.slice p8 L.length ek]) Y (AY (pl:=#[(0,7),(7,1),(8,1),(9,1)]) SR L4 (fun _=>by kernel_rfl) AG))<|A1 4 V (AA Y)<|A1 5 V (AA Y)<|A1 6 V (AA Y) ?_
  (refine Dr (D':=255) 7 (Ir G4 Fk Y Y Y ?_ ?_) ?_;(focus (omega));(focus (omega)))
  refine Zz (l:=[8,12])<|C6 [false] [] V rfl (Zw [_,_] Y call12 Y V (NJ q 0 (a:Int) A0 wz (J8 U Z hb) (H5 g a b))) ?hk_14 DC ?hl_14
  case' hk_14=>
   rintro _ _ ⟨_,⟨z2,E2,b2,rfl,zm,d9,z,rfl⟩,rfl⟩;refine CA<|A1 9 V (AA Y)<|A1 10 V (Bn Y V)<|A1 11 V (Bn Y V)<|Zz (l:=[12])<|C6 [] [] V rfl (Al Hs #[_,_,_,_,_,_,_,_,_,_,_,_,_,_,_]) ?hk_15 (fun _ _ h=>h.elim) ?hl_15
   case' hk_15=>
    rintro _ _ ⟨b4,rfl,rfl⟩;refine CA<|Yz 13 6143 16383 [] [] [] V Y V rfl V rfl (Xw F0 z2.Ax5) ?_
   case' hl_15=>
    exact Ar
  case' hl_14=>
   refine C6 [true] [(0,(_,_))] V rfl (Al Hs #[_,_,_,_,_,_,_,_,_,_,_,_,_,_,_]) ?hk_18 (fun _ _ h=>h.elim) ?hl_18
   case' hk_18=>
    rintro _ _ ⟨b4,rfl,rfl⟩;refine CA<|Zz (l:=[8])<|C6 [false] [] V rfl (Zw [_,_] Y call12 Y V (NJ q 0 (a:Int) A0 wz (J8 U Z hb) (H5 g a b))) ?hk_19 DC ?hl_19
    case' hk_19=>
     rintro _ _ ⟨_,⟨z2,E2,b2,rfl,zm,d9,z,rfl⟩,rfl⟩;refine CA<|A1 9 V (AA Y)<|A1 10 V (Bn Y V)<|A1 11 V (Bn Y V)<|Zz (l:=[13])<|C6 [] [] V rfl (Xw F0 z2.Ax5) ?hk_20 (fun _ _ h=>h.elim) ?hl_20
     case' hl_20=>
      exact Ar
    case' hl_19=>
     exact Ar
   case' hl_18=>
    exact Ar
  all_goals
   rintro _ _ ⟨rfl,rfl⟩;refine CA<|A1 14 V (Aq Y)<|Am<|Zn [19,20,1,3,4,6,7,17,18] ?_;refine BD (e':=[(19,_),(20,_)]) (by
    (have e9:b2=B9.isSome:=by rw [J];exact zm
     exact ⟨z2,E2,b4,⟨by rw [J];exact d9,z⟩,by rw [e9],rfl⟩))
 rintro _ _ ⟨z2,E2,b4,⟨d9,z⟩,rfl,rfl⟩;refine ES (s1:=E2) (s2:=W1) Wo Wo ?_;obtain ⟨W2,kz⟩:∃W,W=E2++W1:=⟨_,rfl⟩;rw [<-kz];obtain ⟨hl2,ve⟩:=Od kz;rw [<-kz]at z;have qa:=G.mono ve
 have x9:=EA U ve;have hT2:=Mr hT1 ve
 have HZ:z1.a=z2.a:=cO.trans d9.symm;have yt:TwB z1.a 0:=by rw [cO];exact y9
 have zk:TwB z2.a 0:=by rw [d9];exact y9
 have hn1:=yt.nr;refine Zq<|A2<|Sk 2 V<|Zv (Ho MY Y Y)<|Zm Y<|Ae (t:=116) Y V (fun k4=>?_) (fun k4=>?_);·
  (simp at k4;done)
 refine DK Y Wh (A7 (cs:=#[_,_,_,_,_,_,_,_,_,_,_,_,_,_,_]) HQ F0 Y (by exact B4 _) (by exact AP V)) V rfl ?_;refine DK Y Wh (A7 (cs:=#[_,_,_,_,_,_,_,_,_,_,_,_,_,_,_]) HQ F0 Y (by exact B4 _) (by exact AP V)) V rfl ?_;refine Xr [_,_] Y call13 Y V (NI qa z A0) ?_;rw [Cp (rq HZ)];refine Yg (CR Y)<|H3 Y Y<|A6<|Af Y (fun k5=>?_) (fun k5=>?_);·
  (cases k5;done)
 refine AB<|BT<|Zo Wh (A7 (cs:=#[_,_,_,_,_,_,_,_,_,_,_,_,_,_,_]) HQ F0 Y (by exact B4 _) (by exact AP V)) ?_;refine Zh 8 dc V rfl sizeOf24 Y<|Zl isAgg24 Y ?_;refine Zc [_,_] Y call14 Y V (nI z zk hT2) ?_;rintro _ _ ⟨_,⟨y,E3,rfl,hy,I,rfl⟩,rfl⟩;have hsm:∀x∈y.a.ranges,x.small:=fun x hx=>⟨fun s hs=>by have:=(I.rg x hx).rl s hs;omega,(I.rg x hx).pl⟩
 have hsr:∀x∈y.a.ranges,x.roots.length<=1000000:=fun x hx=>by have:=(I.rg x hx).nt;omega
 have hyn:=I.nr;have hyb:=I.base
 have oq:∀x∈y.a.recs,x.cs.length<=1000:=fun x hx=>(I.cs x hx).1;refine Ze (Al Hs #[_,_,_,_,_,_,_,_,_,_,_,_,_,_,_])<|AE fun b5=>Xe (Xw F0 y.Ax5) ?_;refine Z0<|Zn [3,4,6,7,17,21] ?_;refine Zx<|Zq<|ES (s1:=E3) (s2:=W2) Wo Wo ?_;obtain ⟨W3,l8⟩:∃W,W=E3++W2:=⟨_,rfl⟩;rw [<-l8];obtain ⟨hl3,hr3⟩:=Od l8;rw [<-l8]at hy;have y5:=EA x9 hr3
 refine Zg<|Zm Y<|Zc [_] Y call15 Y V (VI y5 g A0) ?_;rintro _ _ ⟨_,⟨sh,hsh,rfl⟩,rfl⟩;obtain ⟨gh,ch,curh,zh,rfl,rfl,hw⟩:=ZM hsh A0;have bf:=hw a A0
 have bn:=hw b A0;obtain ⟨h1,hh1⟩:∃h,h=Ep l a:=⟨_,rfl⟩;obtain ⟨h2,hh2⟩:∃h,h=Ep l b:=⟨_,rfl⟩;rw [<-hh1]at bf;rw [<-hh2]at bn;obtain ⟨B8,qb⟩:∃o,o=Cy y.a.q y.a.base y.a.ranges y.a.recs:=⟨_,rfl⟩;refine AF Y<|A2<|Zh 0 C3 V rfl CN Y<|Zo Wh (A7 (cs:=#[_,_,_,_,_,_,_]) DE CN Y BW (by exact (by apply L5.1;rfl))) ?_;refine Zh 12 C3 V rfl A4 Y<|Zl A5 Y ?_;refine Zh 13 C3 V rfl E0 Y<|Zl FG Y ?_;refine Zv (BK (vs:=[(0,.agg y.a.q.Ax4),(2,I4 y.a.base),(3,.slice y.gp y.a.ranges.length y.gc)]) (cs:=#[I4 y.a.q.kd,I4 y.a.q.tb,I4 y.a.q.cl,I4 y.a.q.lo,I4 y.a.q.hi,I4 y.a.q.bq,I4 y.a.q.ot,I4 0,I4 y.a.base,.slice y.gp y.a.ranges.length y.gc]) Y (AY (pl:=#[(0,7),(7,1),(8,1),(9,1)]) SR L4 (fun _=>by kernel_rfl) AG))<|Zh 14 C3 V rfl Kd Y<|Zl LS Y ?_;refine Zc [_,_] Y call11 Y V (Ty y.a.q 0 y.a.base A0 hy.2.1 A0 hy.2.2 oq pa Tx zx) ?_;rintro _ _ ⟨_,⟨u9,E4,b9,rfl,zw,vz,pz,rfl⟩,rfl⟩;rw [<-qb]at zw vz;subst zw;refine Sk 3 V<|Ze (Al Hs #[_,_,_,_,_,_,_,_,_,_,_,_,_,_,_])<|AE fun b6=>Xe (Xw F0 u9.Ax5) ?_;refine AN Y<|Zn [3,6,7,17,21,22,23,24] ?_;refine Zx<|Zq<|ES (s1:=E4) (s2:=W3) Wo Wo ?_;obtain ⟨W4,l9⟩:∃W,W=E4++W3:=⟨_,rfl⟩;rw [<-l9];obtain ⟨hl4,hr4⟩:=Od l9;rw [<-l9]at pz;have wo:=hy.mono hr4
 refine Zg<|Zh 0 C3 V rfl CN Y<|Zo Wh (A7 (cs:=#[_,_,_,_,_,_,_]) DE CN Y BW (by exact (by apply L5.1;rfl))) ?_;refine Zh 12 C3 V rfl A4 Y<|Zl A5 Y ?_;refine Zh 13 C3 V rfl E0 Y<|Zl FG Y ?_;refine Zv (BK (vs:=[(0,.agg y.a.q.Ax4),(2,I4 y.a.base),(3,.slice y.gp y.a.ranges.length y.gc)]) (cs:=#[I4 y.a.q.kd,I4 y.a.q.tb,I4 y.a.q.cl,I4 y.a.q.lo,I4 y.a.q.hi,I4 y.a.q.bq,I4 y.a.q.ot,I4 0,I4 y.a.base,.slice y.gp y.a.ranges.length y.gc]) Y (AY (pl:=#[(0,7),(7,1),(8,1),(9,1)]) SR L4 (fun _=>by kernel_rfl) AG))<|Zh 14 C3 V rfl Kd Y<|Zl LS Y ?_;refine Zc [_,_] Y call12 Y V (NJ y.a.q 0 y.a.base A0 wo.2.1 wo.2.2 oq) ?_;rintro _ _ ⟨_,⟨v9,E5,b8,rfl,zo,hv9,q9,rfl⟩,rfl⟩;rw [<-qb]at zo hv9;subst zo;have M3:u9.a=v9.a:=vz.trans hv9.symm
 have hun:u9.a.ranges.length<=1000000:=by rw [vz,qb];exact yw A0
 refine Sk 3 V<|Ze (Al Hs #[_,_,_,_,_,_,_,_,_,_,_,_,_,_,_])<|AE fun b7=>Xe (Xw F0 v9.Ax5) ?_;refine AN Y<|Zn [3,6,7,17,21,22,23,24,25,26] ?_;refine Zx<|Zq<|ES (s1:=E5) (s2:=W4) Wo Wo ?_;obtain ⟨W5,lv⟩:∃W,W=E5++W4:=⟨_,rfl⟩;rw [<-lv];obtain ⟨hl5,vw⟩:=Od lv;rw [<-lv]at q9;have hy5:=wo.mono vw
 obtain ⟨S9,X⟩:∃o,o=Bu y.a.q y.a.ranges:=⟨_,rfl⟩;obtain ⟨R9,K⟩:∃o,o=S9.getD CB.none:=⟨_,rfl⟩;have hRn:R9.rows.length<=1000000:=by rw [K,X];exact bJ _ _
 refine Zg<|Zh 0 C3 V rfl CN Y<|Zo Wh (A7 (cs:=#[_,_,_,_,_,_,_]) DE CN Y BW (by exact (by apply L5.1;rfl))) ?_;refine Zh 13 C3 V rfl E0 Y<|Zl FG Y ?_;refine Zc [_,_] Y call16 Y V (gZ hy5.2.1 y.a.q pa Tx zx) ?_;rintro _ _ ⟨_,⟨rv1,E6,rfl,sO,rfl⟩,rfl⟩;rw [<-X,<-K]at sO;rw [<-X,<-K];obtain ⟨gm,cm,rfl⟩:=sO.form;have hU1:=Ca sO A0
 refine Sk 3 V<|Ze (Al GO #[_,_,_])<|AE fun b8=>Xe (Xw BE #[.slice gm R9.rows.length cm,I4 R9.val,.bool R9.fnd]) ?_;refine CT Y<|ES (s1:=E6) (s2:=W5) Wo Wo ?_;obtain ⟨W6,qz⟩:∃W,W=E6++W5:=⟨_,rfl⟩;rw [<-qz];obtain ⟨hl6,o8⟩:=Od qz;have hU6:=hU1.mono hl6
 have hy6:=hy5.mono o8;refine Zg<|Zh 0 C3 V rfl CN Y<|Zo Wh (A7 (cs:=#[_,_,_,_,_,_,_]) DE CN Y BW (by exact (by apply L5.1;rfl))) ?_;refine Zh 13 C3 V rfl E0 Y<|Zl FG Y ?_;refine Zc [_,_] Y call17 Y V (VH hy6.2.1 y.a.q) ?_;rintro _ _ ⟨_,⟨rv2,E7,rfl,qx,rfl⟩,rfl⟩;rw [<-X,<-K]at qx;rw [<-X,<-K];obtain ⟨gn,cn,rfl,_⟩:=id qx;refine Sk 3 V<|Ze (Al GO #[_,_,_])<|AE fun b9=>Xe (Xw BE #[.slice gn R9.rows.length cn,I4 R9.val,.bool R9.fnd]) ?_;refine AN Y<|Zn [3,6,7,17,21,22,23,24,25,26,27,28,29,30] ?_;refine Zx<|Zq<|ES (s1:=E7) (s2:=W6) Wo Wo ?_;obtain ⟨W7,r9⟩:∃W,W=E7++W6:=⟨_,rfl⟩;rw [<-r9];obtain ⟨hl7,af⟩:=Od r9;have hUm:=hU6.mono af
 have hUn:=qx.mono hl7;have o9:=hy6.mono af
 have hv7:=q9.mono fun c hc=>af c (o8 c hc);have hu7:=pz.mono fun c hc=>af c (o8 c (vw c hc))
 have hz7:=qa.mono fun c hc=>af c (o8 c (vw c (hr4 c (hr3 c hc))));refine Au (n:=54) (0::1::3::3::15::31::63::127::127::511::1023::2047::4095::4095::16383::32767::65535::131071::131071::524287::1048575::2097151::4194303::4194303::16777215::33554431::4194303::4194303::205520895::473956351::4194303::2147483647::4194303::4194303::12889096191::30068965375::4194303::4194303::206162624511::481040531455::4194303::2199023255551::4398046511103::8796093022207::17592186044415::35184372088831::35184372088831::140737488355327::35184372088831::35184372088831::1125899906842623::2251799813685247::4503599627370495::9007199254740991::[]) 1268838566461952 AG AG V<|A1 0 V (AA Y)<|A1 1 V (AA Y)<|CQ (t:=171) Y (fun g0=>?_) (fun g0=>?_);·
  rw [g0];refine B1 2 V (AA Y)<|B1 3 V (AA Y)<|B1 4 V (Ih MY Y Y)<|A1 5 V (Ay Y Y)<|A1 6 V (AA Y)<|CQ (t:=176) Y (fun g1=>?_) (fun g1=>?_);·
   rw [g1];refine DG 7 V Wh (A7 (cs:=#[_,_,_,_,_,_,_,_,_,_,_,_,_,_,_]) HQ F0 Y (by exact B4 _) (by exact AP V)) ?_;refine DG 8 V Wh (A7 (cs:=#[_,_,_,_,_,_,_,_,_,_,_,_,_,_,_]) HQ F0 Y (by exact B4 _) (by exact AP V)) ?_;refine Yw 9 1023 V (Zu [_,_] Y call13 Y V (NI hu7 hv7 hun)) ?_;rintro _ _ ⟨rfl,rfl⟩;rw [Cp (rq M3)];refine A1 10 V (Ay Y Y)<|A1 11 V (AA Y)<|CQ (t:=181) Y (fun g2=>?_) (fun g2=>?_);·
    skip
    refine B1 12 V (AA Y)<|B1 13 V (AA Y)<|B1 14 V (Ih MY Y Y)<|A1 15 V (Ay Y Y)<|A1 16 V (AA Y)<|CQ (t:=186) Y (fun g3=>?_) (fun g3=>?_);·
     rw [g3];refine DG 17 V Wh (A7 (cs:=#[_,_,_]) D0 BE Y (by exact B4 _) (by exact AP V)) ?_;refine DG 18 V Wh (A7 (cs:=#[_,_,_]) D0 BE Y (by exact B4 _) (by exact AP V)) ?_;refine Yw 19 1048575 V (Zu [_,_] Y call18 Y V (YM hUm hUn)) ?_;rintro _ _ ⟨rfl,rfl⟩;rw [Cp (show R9=R9 from rfl)];refine A1 20 V (Ay Y Y)<|A1 21 V (AA Y)<|CQ (t:=191) Y (fun g4=>?_) (fun g4=>?_);·
      skip
      refine B1 22 V (AA Y)<|B1 23 V (AA Y)<|B1 24 V (A9 Pc Ek Y Y A0)<|DG 25 V Wh (A7 (cs:=#[I4 h1.p,.string (str h1.ch),.string (str h1.st)]) HK Ek Y (bf).1 (bf).2) ?_;refine B1 26 V (AA Y)<|B1 27 V (AA Y)<|B1 28 V (A9 Pc Ek Y Y A0)<|DG 29 V Wh (A7 (cs:=#[I4 h2.p,.string (str h2.ch),.string (str h2.st)]) HK Ek Y (bn).1 (bn).2) ?_;refine DG 30 V Wh (A7 (cs:=#[_,_,_,_,_,_,_,_,_,_,_,_,_,_,_]) HQ F0 Y (by exact B4 _) (by exact AP V)) ?_;refine B1 32 V (AA Y)<|B1 33 V (AA Y)<|B1 34 V (A9 Pc Ek Y Y A0)<|DG 35 V Wh (A7 (cs:=#[I4 h1.p,.string (str h1.ch),.string (str h1.st)]) HK Ek Y (bf).1 (bf).2) ?_;refine B1 36 V (AA Y)<|B1 37 V (AA Y)<|B1 38 V (A9 Pc Ek Y Y A0)<|DG 39 V Wh (A7 (cs:=#[I4 h2.p,.string (str h2.ch),.string (str h2.st)]) HK Ek Y (bn).1 (bn).2) ?_;refine DG 40 V Wh (A7 (cs:=#[_,_,_,_,_,_,_,_,_,_,_,_,_,_,_]) HQ F0 Y (by exact B4 _) (by exact AP V)) ?_;refine Yz 31 2147483647 2199023255551 [40,39,35,30,29,25] [true,true,true,false,false,false] [(40,(_,_)),(39,(_,_)),(35,(_,_))] V Y V rfl V rfl (Zu [_,_,_] Y call19 Y V (wI h1 h2 o9 hsm A0 A0 oq Tg zg pa Tx zx))<|DA<|CA<|Yw 41 4398046511103 V (Zu [_,_,_] Y call20 Y V (kE h1 h2 o9 hsm hsr A0 A0 oq))<|DA<|B1 42 V (Ih MY Y Y)<|A1 43 V (Ay Y Y)<|A1 44 V (AA Y)<|CQ (t:=214) Y (fun g5=>?_) (fun g5=>?_);·
       rw [g5];refine DG 45 V Wh (A7 (cs:=#[_,_,_,_,_,_,_,_,_,_,_,_,_,_,_]) HQ F0 Y (by exact B4 _) (by exact AP V)) ?_;refine DG 46 V Wh (A7 (cs:=#[_,_,_,_,_,_,_,_,_,_,_,_,_,_,_]) HQ F0 Y (by exact B4 _) (by exact AP V)) ?_;refine DG 48 V Wh (A7 (cs:=#[_,_,_,_,_,_,_,_,_,_,_,_,_,_,_]) HQ F0 Y (by exact B4 _) (by exact AP V)) ?_;refine DG 49 V Wh (A7 (cs:=#[_,_,_,_,_,_,_,_,_,_,_,_,_,_,_]) HQ F0 Y (by exact B4 _) (by exact AP V)) ?_;refine Yz 47 140737488355327 1125899906842623 [49,48,46,45] [true,true,false,false] [(49,(_,_)),(48,(_,_))] V Y V rfl V rfl (Zu [_,_] Y call21 Y V (Lf hz7 o9))<|DA<|CA<|Yw 50 2251799813685247 V (Zu [_,_] Y call13 Y V (NI hz7 o9 A0))<|DA<|B1 51 V (Ih MY Y Y)<|A1 52 V (Ay Y Y)<|A1 53 V (Aq Y)<|Am<|Zn [2] ?_;refine Zx<|AC<|AO rfl results3 Y (by exact ⟨by first|rfl|(simp;done),W7,E7++(E6++(E5++(E4++(E3++(E2++(E1++(my++s))))))),by rw [r9,qz,lv,l9,l8,kz,kv,qy,sj];simp only [G0],rfl⟩)
      rw [g5]
      (simp at g5;done)
     skip
     (cases g4;done)
    rw [g3]
    (simp at g3;done)
   skip
   (cases g2;done)
  rw [g1]
  (simp at g1;done)
 rw [g0]
 (cases g0;done)
theorem ku{M:List AR}{v:A3}{xs:List (List Int)}(hX:Nr M v xs)(q0 q1 q2 q3 q4 cb cu:Int)(G:-9223372036854775808<=q0)(I:q0<=9223372036854775807)(J:-9223372036854775808<=q1)(K:q1<=9223372036854775807)(O:-9223372036854775808<=q2)(U:q2<=9223372036854775807)(X:-9223372036854775808<=q3)(Z:q3<=9223372036854775807)(af:-9223372036854775808<=q4)(ax:q4<=9223372036854775807)(g:-9223372036854775808<=cb)(m:cb<=9223372036854775807)(y:-9223372036854775808<=cu)(z:cu<=9223372036854775807){tw:A3}{ws:List Xf}(hT:N9 M tw ws)(Tg:An)(zg:Nat×Nat)(pa:Addr)(Tx:An)(zx:Nat×Nat):BB prog 3 #[.agg #[v,I4 q0,I4 q1,I4 q2,I4 q3,I4 q4,I4 cb,I4 cu,tw]] [[(1,.cells (Dj.map CP).toArray Tg zg)],[(0,.cells #[.iface 343 (.pointer (some pa))] Tx zx)],M] (.bool true):=by
 refine IB (dx hX q0 q1 q2 q3 q4 cb cu G I J K O U X Z af ax g m y z hT Tg zg pa Tx zx) [] C4 ?_;rintro _ _ ⟨rfl,_,E,rfl,rfl⟩;refine ⟨_,E,⟨V,V⟩,?_⟩;simp only [HW,N4,HT,G0];exact (S4.append_left _).append_left _
end Go.Proofs.YtljkoipiekbijaaGreatDoor
namespace Go.Proofs.YtljkoipiekbijaaGreatDoor
open Go.Proofs.Tryz
open Go Go.RowKit Gw
set_option maxRecDepth 100000
attribute [local irreducible] Gw.At Gw.Nx Gw.Ops
open Go.ChangeShapes Go.WideShapes Go.Deep
theorem l5{l:List A3}(h:l.length=5):∃a b c d e,l=[a,b,c,d,e]:=by
 match l,h with
 |[a,b,c,d,e],_=>exact ⟨a,b,c,d,e,rfl⟩
theorem kV{H:Type}{enc:An×A3->H}{W:AD}{base:Nat}{held:Bool}{y:Nat}{l:List A3}{x:DataW H×List MemPlace}(h:DataW.trod enc prog W base (fun _=>true) held y 23 l=some x)(hl:l.length=5):
 ∃a b c d e:Int,l=[I4 a,I4 b,I4 c,I4 d,I4 e]/\(-9223372036854775808<=a/\a<=9223372036854775807)/\(-9223372036854775808<=b/\b<=9223372036854775807)/\(-9223372036854775808<=c/\c<=9223372036854775807)/\(-9223372036854775808<=d/\d<=9223372036854775807)/\(-9223372036854775808<=e/\e<=9223372036854775807):=by
 obtain ⟨ys,m,_,_,_,af,hf⟩:=DataW.trod_array Up h;have g:∀j,j<5->∃n:Int,l[j]?=some (I4 n)/\-9223372036854775808<=n/\n<=9223372036854775807:=fun j g=>by
  have f:=hf j g;rw [yo,MA,Bk A0]at f;have z:j<l.length:=by omega
  have e:(l.drop j).take 1=[l[j]]:=by rw [Sx z];rfl
  rw [e]at f;obtain ⟨k,M,_,O⟩:=DataW.trod_int Ge f;injection M with M _
  exact ⟨k,by rw [Bk z,M],bounds_i64 O⟩
 obtain ⟨v0,v1,v2,v3,v4,rfl⟩:=l5 hl;obtain ⟨a,U,E⟩:=g 0 AH;obtain ⟨b,X,G⟩:=g 1 AH;obtain ⟨c,hc,I⟩:=g 2 AH;obtain ⟨d,Z,J⟩:=g 3 AH;obtain ⟨e,he,K⟩:=g 4 AH;simp at U X hc Z he;subst U X hc Z he;exact ⟨a,b,c,d,e,V,E,G,I,J,K⟩
theorem dm{P:Program}{w:AD}{r:Reach}{base:Nat}{t:An}{fs:Array Field}{v:A3}(m:P.underlying t=some (.struct fs))(h:Value.okWide P w r base t v):∃cs,v= .agg cs/\cs.size=P.cellsOf t:=by
 unfold Value.okWide at h;rw [m]at h;obtain ⟨cs,rfl,g,_⟩:=h;exact ⟨cs,V,g⟩
theorem yn:Tryz.prog.cellsOf 104=4:=by kernel_rfl
theorem ky{l:List A3}(h:l.length=4):∃a b c d,l=[a,b,c,d]:=by
 match l,h with
 |[a,b,c,d],_=>exact ⟨a,b,c,d,rfl⟩
theorem pU{H:Type}{enc:An×A3->H}{W:AD}{base:Nat}{held:Bool}{y:Nat}{l:List A3}{x:DataW H×List MemPlace}(h:DataW.trod enc prog W base (fun _=>true) held y 104 l=some x)(hl:l.length=4):
 ∃a b c d:Int,l=[I4 a,I4 b,I4 c,I4 d]/\(-9223372036854775808<=a/\a<=9223372036854775807)/\(-9223372036854775808<=b/\b<=9223372036854775807)/\(-9223372036854775808<=c/\c<=9223372036854775807)/\(-9223372036854775808<=d/\d<=9223372036854775807):=by
 obtain ⟨ys,m,_,_,_,af,Z⟩:=DataW.trod_array LI h;have g:∀j,j<4->∃n:Int,l[j]?=some (I4 n)/\-9223372036854775808<=n/\n<=9223372036854775807:=fun j g=>by
  have f:=Z j g;rw [yo,MA,Bk A0]at f;have z:j<l.length:=by omega
  have e:(l.drop j).take 1=[l[j]]:=by rw [Sx z];rfl
  rw [e]at f;obtain ⟨k,K,_,M⟩:=DataW.trod_int Ge f;injection K with K _
  exact ⟨k,by rw [Bk z,K],bounds_i64 M⟩
 obtain ⟨v0,v1,v2,v3,rfl⟩:=ky hl;obtain ⟨a,O,E⟩:=g 0 AH;obtain ⟨b,U,G⟩:=g 1 AH;obtain ⟨c,hc,I⟩:=g 2 AH;obtain ⟨d,X,J⟩:=g 3 AH;simp at O U hc X;subst O U hc X;exact ⟨a,b,c,d,V,E,G,I,J⟩
theorem rV{cur:As}{o:Nat}{a b c d:Int}(h:∀(j:Nat) (n:Int),[a,b,c,d][j]?=some n->cur[o+j]?=some (I4 n)):o+4<=cur.size/\cur.extract o (o+4)=#[I4 a,I4 b,I4 c,I4 d]:=by
 have g:=h 3 d rfl;have m:=(LO.1 g).1
 refine ⟨by omega,Array.ext_getElem? fun i=>?_⟩;rw [cU];by_cases hi:i<4
 · rw [B2 A0]
   rcases (by omega:i=0\/i=1\/i=2\/i=3)with rfl|rfl|rfl|rfl
   · exact h 0 a rfl
   · exact h 1 b rfl
   · exact h 2 c rfl
   · exact h 3 d rfl
 · rw [Ax A0]
   exact (Lk Of).symm
theorem Yt{H:Type}{enc:An×A3->H}{W:AD}{base:Nat}{held:Bool}{U X:An}{zg zx:Nat×Nat}{pa:Addr}(h4:WI W U zg pa X zx){m:Nat}{cs:List A3}{x:DataW H×List MemPlace}(h:DataW.trod enc prog W base (fun _=>true) held m 24 cs=some x):
 ∃v xs,cs=[v]/\N9 (MQ W [1,0]) v xs:=by
 obtain ⟨p,len,cap,rfl,hl,J⟩:=TI underlying24 yn AH h;obtain ⟨xs,h1,h2⟩:=KY len (fun i (z:Xf)=>((-9223372036854775808<=z.a/\z.a<=9223372036854775807)/\(-9223372036854775808<=z.b/\z.b<=9223372036854775807)/\(-9223372036854775808<=z.c/\z.c<=9223372036854775807)/\(-9223372036854775808<=z.d/\z.d<=9223372036854775807))/\∃g o cur T zz,p=some ⟨g,o,none⟩/\(g,Obj.cells cur T zz)∈MQ W [1,0]/\o+i*4+4<=cur.size/\cur.extract (o+i*4) (o+i*4+4)=#[I4 z.a,I4 z.b,I4 z.c,I4 z.d]) (fun i hi=>by
  obtain ⟨cs',n,z,E,ht,g,o,cur,T,zz,hp,M,hc⟩:=J i hi;obtain ⟨a,b,c,d,rfl,ha,G,I,hd⟩:=pU ht E;have y:∀(j:Nat) (n:Int),[a,b,c,d][j]?=some n->cur[o+i*4+j]?=some (I4 n):=fun j n O=>by
   have K:=(D3.1 O).1;rw [hc j (by simpa using K)];have h9:([a,b,c,d].map (Value.int .i64))[j]?=some (I4 n):=by rw [HL,O];rfl
   exact h9
  obtain ⟨Z,e2⟩:=rV y;exact ⟨⟨a,b,c,d⟩,⟨ha,G,I,hd⟩,g,o,cur,T,zz,hp,PP M (ZR h4 M (y 0 a V) V),Z,e2⟩)
 subst h1;exact ⟨_,xs,V,p,cap,V,hl,h2⟩
theorem yu:Tryz.prog.cellsOf 26=9:=by kernel_rfl
open Go.ChangeShapes Go.WideShapes Go.Deep
section
variable{H:Type}{enc:An×A3->H}{W:AD}{base:Nat}{held:Bool}
theorem di{Tg Tx:An}{zg zx:Nat×Nat}{pa:Addr}(h4:WI W Tg zg pa Tx zx){E:Nat}{cs:List A3}{x:DataW H×List MemPlace}(h:DataW.trod enc prog W base (fun _=>true) held E 26 cs=some x)(hl:cs.length=9):
 ∃(p:C1) (cap:Nat) (ys:List (List Int)) (I J K M O U X:Int) (tw:A3) (ws:List Xf),cs=[.slice p ys.length cap,I4 I,I4 J,I4 K,I4 M,I4 O,I4 U,I4 X,tw]/\Nr (MQ W [1,0]) (.slice p ys.length cap) ys/\N9 (MQ W [1,0]) tw ws/\(-9223372036854775808<=I/\I<=9223372036854775807)/\(-9223372036854775808<=J/\J<=9223372036854775807)/\(-9223372036854775808<=K/\K<=9223372036854775807)/\(-9223372036854775808<=M/\M<=9223372036854775807)/\(-9223372036854775808<=O/\O<=9223372036854775807)/\(-9223372036854775808<=U/\U<=9223372036854775807)/\(-9223372036854775808<=X/\X<=9223372036854775807):=by
 obtain ⟨xs,m,_,hx,ek,ax,G⟩:=DataW.trod_struct dc h
 match cs,hl with
 |[a0,a1,a2,a3,a4,a5,a6,a7,a8],_=>
  have hy:∀i,i<5->∃y,xs[i]?=some y:=fun i hi=>⟨_,Bk (by rw [ax];exact hi)⟩;obtain ⟨y0,bf⟩:=hy 0 AH;obtain ⟨y1,bn⟩:=hy 1 AH;obtain ⟨y2,cu⟩:=hy 2 AH;obtain ⟨y3,cO⟩:=hy 3 AH;obtain ⟨u,g,hu,hm⟩:=Yr h4 ((G 0 _ rfl).trans bf);obtain ⟨I,J,K,M,O,Z,b0,b1,b2,b3,b4⟩:=kV ((G 1 _ rfl).trans bn) rfl;obtain ⟨U,e5,_,b5⟩:=DataW.trod_int Ge ((G 2 _ rfl).trans cu);obtain ⟨X,e6,_,b6⟩:=DataW.trod_int Ge ((G 3 _ rfl).trans cO);obtain ⟨y4,d9⟩:=hy 4 AH;obtain ⟨u8,g8,z,af⟩:=Yt h4 ((G 4 _ rfl).trans d9);change [a8]=[_]at z;injection z with z
  subst z;obtain ⟨p,cap,e,hz⟩:=id hm;subst e;change [a0]=[_]at hu;change [a1,a2,a3,a4,a5]=[_,_,_,_,_]at Z;change [a6]=[_]at e5;change [a7]=[_]at e6;injection hu with hu
  injection Z with Z e2
  injection e2 with e2 e3
  injection e3 with e3 e4
  injection e4 with e4 e7
  injection e7 with e7
  injection e5 with e5
  injection e6 with e6
  subst hu Z e2 e3 e4 e7 e5 e6;exact ⟨p,cap,g,I,J,K,M,O,U,X,a8,g8,V,hm,af,b0,b1,b2,b3,b4,bounds_i64 b5,bounds_i64 b6⟩
end
end Go.Proofs.YtljkoipiekbijaaGreatDoor
namespace Go.Proofs.YtljkoipiekbijaaGreatDoor
open Go.Proofs.Tryz
open Go Go.RowKit Gw
set_option maxRecDepth 100000
attribute [local irreducible] Gw.At Gw.Nx Gw.Ops
theorem bG(p:C1)(cap:Nat)(ys:List (List Int))(M:List AR)(hX:Nr M (.slice p ys.length cap) ys)(J K O U X Z n6:Int)(g:-9223372036854775808<=J/\J<=9223372036854775807)(m:-9223372036854775808<=K/\K<=9223372036854775807)(y:-9223372036854775808<=O/\O<=9223372036854775807)(z:-9223372036854775808<=U/\U<=9223372036854775807)(E:-9223372036854775808<=X/\X<=9223372036854775807)(G:-9223372036854775808<=Z/\Z<=9223372036854775807)(I:-9223372036854775808<=n6/\n6<=9223372036854775807)(tw:A3)(ws:List Xf)(hT:N9 M tw ws)(Tg:An)(zg:Nat×Nat)(pa:Addr)(Tx:An)(zx:Nat×Nat):BB prog 3 #[.agg #[.slice p ys.length cap,I4 J,I4 K,I4 O,I4 U,I4 X,I4 Z,I4 n6,tw]] [[(1,.cells (Dj.map CP).toArray Tg zg)],[(0,.cells #[.iface 343 (.pointer (some pa))] Tx zx)],M] (.bool true):=ku hX J K O U X Z n6 g.1 g.2 m.1 m.2 y.1 y.2 z.1 z.2 E.1 E.2 G.1 G.2 I.1 I.2 hT Tg zg pa Tx zx
end Go.Proofs.YtljkoipiekbijaaGreatDoor
namespace Go.Proofs.YtljkoipiekbijaaGreatDoor
open Go.Proofs.Tryz
open Go Go.RowKit Gw
set_option maxRecDepth 100000
attribute [local irreducible] Gw.At Gw.Nx Gw.Ops
open Go.ChangeShapes Go.WideShapes Go.ChangeAt
theorem XE{P:Program}{f:FuncId}{g:Func}{s:ChangeSpec}{c:OpenClaim}(h0:c.wf (OpenSpec.ofChange s)=true)(h1:laidOutB P=true)(h2:mapsRowed P=true)(h3:g.params.all (P.readableRec ·)=true)(h4:namedTie P c.named s.vars=true)(h5:(c.stops== [])=true)(h6:(P.stops== [])=true)(h7:(c.knobs== [])=true)(h8:(P.stopKnobs== [])=true)(h9:(c.inPlace==P.inPlace f)=true)(m:(c.unfollowed==P.unfollowed f)=true)(y:(c.recurses==P.recurses f)=true)(z:(c.named==P.varsNamed f)=true)(E:(c.maps==(g.params.toList++s.plain.varTypes P).any (P.mapsRec ·))=true)(G:(c.ifaces==(g.params.toList++s.plain.varTypes P).any (P.ifacesRec ·))=true)(I:(c.mapsOut==P.mapsAmong g.resultTypes.toList)=true)(J:(c.loops==(g.params.toList++s.plain.varTypes P).any (P.loopsFrom ·))=true)(K:(c.wideKeys==(g.params.toList++s.plain.varTypes P++g.resultTypes.toList).any (P.wideKeysFrom ·))=true)(M:s.vars.all (P.varReadable ·)=true)(O:g.resultTypes.all (fun t=>P.readableRec t&&decide (t<P.types.size))=true)(U:(c.ifacesOut==g.resultTypes.toList.any (P.ifacesRec ·))=true)(X:(c.loopsOut==g.resultTypes.toList.any (P.loopsFrom ·))=true)(Z:(c.plainKeys==P.plainKeys)=true)(af:c.shortTexts.isNone=true)(ax:P.stopsHeard=true)(bf:P.mayEnter=true)(bn:(c.lifted==P.liftsFinal)=true)(cu:(P.make==some c.make)=true)(cO:(c.kinds==(if c.domain.isEmpty then []else g.params.toList.map fun t=>match P.underlying t with|some (.int k)=>some k|_=>none))=true)(d9:(c.pinned==c.pinnedBy)=true)(ek:(c.veiled==(g.params.toList++s.plain.varTypes P++g.resultTypes.toList).any (P.veiledRec ·))=true)(gm:c.veiledFits P g.params.toList (g.params.toList++s.plain.varTypes P++g.resultTypes.toList)=true):joinedFacts P f g s c=true:=by
 unfold joinedFacts;simp only [HB];exact ⟨⟨⟨⟨⟨⟨⟨⟨⟨⟨⟨⟨⟨⟨⟨⟨⟨⟨⟨⟨⟨⟨⟨⟨⟨⟨⟨⟨⟨⟨⟨h0,h1⟩,h2⟩,h3⟩,h4⟩,h5⟩,h6⟩,h7⟩,h8⟩,h9⟩,m⟩,y⟩,z⟩,E⟩,G⟩,I⟩,J⟩,K⟩,M⟩,O⟩,U⟩,X⟩,Z⟩,af⟩,ax⟩,bf⟩,bn⟩,cu⟩,cO⟩,d9⟩,ek⟩,gm⟩
end Go.Proofs.YtljkoipiekbijaaGreatDoor
