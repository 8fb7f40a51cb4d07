/- proof.Build and Check on any answers. -/
import Derived.Test.YtlkdhannldcfbaaGreatDoorTt2
set_option linter.unusedVariables false
set_option linter.unusedSimpArgs false
namespace Go.Proofs.YtlkdhannldcfbaaGreatDoor
open Go.Proofs.Tryz
open Go Go.RowKit Gw
set_option maxRecDepth 100000
attribute [local irreducible] Gw.At Gw.Nx Gw.Ops
set_option maxHeartbeats 1000000 in
theorem rT{M:List AU}(q:QM)(J base:Int){E:B7}{m:Nat}{L:List RP}(U:FE M (.slice E L.length m) L)(y:Cz q L=none)(lp:B7)(ln Z:Nat)(I:Addr)(G:AM)(K:Nat×Nat):BC prog 16 #[.agg #[I4 q.kd,I4 q.tb,I4 q.cl,I4 q.lo,I4 q.hi,I4 q.bq,I4 q.ot,I4 J,I4 base,.slice E L.length m],.slice lp ln Z] [M,[(0,.cells #[.iface 339 (.pointer (some I))] G K)]] (.tuple #[.agg #[I4 0,I4 0,I4 0,I4 0,I4 0,I4 0,I4 0,.slice none 0 0,I4 0,.bool false,I4 0,I4 0,I4 0,.slice none 0 0,.slice none 0 0],.bool false]):=by
 have X:=mL;refine Se func16 ntmps16 [0,1] ?_;intro u R;refine A1<|Ze (Bx #[I4 q.kd,I4 q.tb,I4 q.cl,I4 q.lo,I4 q.hi,I4 q.bq,I4 q.ot,I4 J,I4 base,.slice E L.length m])<|AF fun be=>Ze (Al Hv #[_,_,_,_,_,_,_,_,_,_,_,_,_,_,_])<|AF fun bo=>A3 Y<|A1<|Zh 0 OS V rfl CM Y<|Zo Wh (Pa #[_,_,_,_,_,_,_] F2 CM Y) ?_;refine Zh 9 OS V rfl DB Y<|Zl E0 Y ?_;refine Zc [_,_] Y call43 Y V (tq U q I G K) ?_;rintro _ _ ⟨_,⟨af,s0,rfl,h0,rfl⟩,rfl⟩;rw [y]at h0⊢;obtain ⟨p0,O,rfl⟩:=h0.form;rw [show Option.isSome (none:Option CP)=false from rfl];refine Zm Y<|Zd Y V<|Zd Y V<|Ze (Al GW #[_,_,_])<|AF fun bs=>Xe (Xw B6 #[.slice p0 0 O,I4 0,.bool false]) ?_;refine AH Y<|Zn [1,2,4,6,7] ?_;refine Zx<|Zq<|A1<|Zm Y ?_;first|refine Ap (C9 Y) ?_|refine Ap (Cj Y) ?_
 refine Zm Y<|Ah (t:=19) Y V (fun g=>?_) (fun g=>?_);·
  refine A7 Y rfl<|A7 Y rfl<|A7 Y rfl<|Zv (AR Y Y)<|AD<|CQ Y<|A1<|Zv (BQ (vs:=[]) (cs:=#[_,_,_,_,_,_,_,_,_,_,_,_,_,_,_]) Y (Aa (pl:=#[(0,7),(7,3),(10,1),(11,1),(12,1),(13,1),(14,1)]) Hv BW (fun _=>by kernel_rfl) rfl))<|Xe (BN F1 Y Y ki Wu (by exact DD rfl) Ek Wb (by exact BU _)) ?_;refine A3 Y<|AA<|Zt<|CJ V results16 Y Wh (Ar HP F1 Wn (BA V)) Y (by exact ⟨V,V⟩)
 cases g
theorem vS{M:List AU}(q:QM)(I base:Int)(hb:-1000000000000<=base/\base<=1000000000000){X:B7}{J:Nat}{L:List RP}(K:FE M (.slice X L.length J) L)(E:L.length<=1000000){U:A4}{l:List Bg}(O:Cw M U l)(G:∀x∈l,x.cs.length<=1000)(m:Addr)(g:AM)(y:Nat×Nat):Bz prog 16 #[.agg #[I4 q.kd,I4 q.tb,I4 q.cl,I4 q.lo,I4 q.hi,I4 q.bq,I4 q.ot,I4 I,I4 base,.slice X L.length J],U] [M,[(0,.cells #[.iface 339 (.pointer (some m))] g y)]] (fun w H'=>∃(z:Fq) (s:List AU) (b:Bool),((b=true/\EG q base L l=some z.a/\z.ok (s++M))\/(b=false/\EG q base L l=none))/\w= .tuple #[.agg z.Ao7,.bool b]/\H'=[s,M,[(0,.cells #[.iface 339 (.pointer (some m))] g y)]]):=by
 cases hs:Cz q L with
 |some r=>
  refine eU (ic q I base hb K E hs O G) [(0,.cells #[.iface 339 (.pointer (some m))] g y)] B3 ?_;rintro w H' ⟨z,s,b,Z,h2,rfl⟩;exact ⟨_,⟨z,s,b,Z,h2,V⟩,by simp⟩
 |none=>
  obtain ⟨lp,lc,rfl,_⟩:=id O;refine Dw (rT q I base K hs lp _ lc m g y) V ?_;rintro w H' ⟨rfl,rfl⟩;exact ⟨_,⟨⟨⟨⟨0,0,0,0,0,0,0⟩,CP.none,0,0,0,[],[]⟩,none,0,none,0,none,0⟩,[],false,.inr ⟨rfl,by unfold EG;rw [hs];rfl⟩,rfl,rfl⟩,by simp⟩
set_option maxHeartbeats 1000000 in
theorem vM(base until_:Ct){M:List AU}{z:Fq}(hz:z.ok M)(hs:∀x∈z.a.ranges,x.small)(ax:z.a.ranges.length<=1000000)(hb:-1000000000000<=z.a.base/\z.a.base<=1000000000000)(af:∀x∈z.a.recs,x.cs.length<=1000)(Tg:AM)(zg:Nat×Nat)(pa:Addr)(Tx:AM)(zx:Nat×Nat):BC prog 9 #[.agg #[I4 base.p,.string (str base.ch),.string (str base.st)],.agg #[I4 until_.p,.string (str until_.ch),.string (str until_.st)],.agg #[I4 z.a.q.kd,I4 z.a.q.tb,I4 z.a.q.cl,I4 z.a.q.lo,I4 z.a.q.hi,I4 z.a.q.bq,I4 z.a.q.ot,.slice z.rp z.a.res.rows.length z.rc,I4 z.a.res.val,.bool z.a.res.fnd,I4 z.a.since,I4 z.a.until_,I4 z.a.base,.slice z.gp z.a.ranges.length z.gc,.slice z.cp z.a.recs.length z.cc]] [[(1,.cells (Di.map CB).toArray Tg zg)],M,[(0,.cells #[.iface 339 (.pointer (some pa))] Tx zx)]] (.bool (decide (Ee base until_ z.a))):=by
 have cu:=mL;refine Se func9 ntmps9 [0,1,2] ?_;intro u R;refine A1<|Ze (Bx #[_,_,_])<|AF fun b1=>Ze (Bx #[_,_,_])<|AF fun b2=>Ze (Bx #[I4 z.a.q.kd,I4 z.a.q.tb,I4 z.a.q.cl,I4 z.a.q.lo,I4 z.a.q.hi,I4 z.a.q.bq,I4 z.a.q.ot,.slice z.rp z.a.res.rows.length z.rc,I4 z.a.res.val,.bool z.a.res.fnd,I4 z.a.since,I4 z.a.until_,I4 z.a.base,.slice z.gp z.a.ranges.length z.gc,.slice z.cp z.a.recs.length z.cc])<|AF fun b3=>A3 Y<|Zq<|A1<|Zh 0 HD V rfl A5 Y<|Zl AE Y ?_;refine Zh 12 BW V rfl A5 Y<|Zl AE Y ?_;first|refine Ap (E5 Y Y) ?_|refine Ap (IC Y Y) ?_
 refine Zm Y ?_;first|refine Ai (t:=15) Y rfl (fun G=>?_) (fun G=>?_)|refine Ah (t:=15) Y rfl (fun G=>?_) (fun G=>?_)
 ·
  refine A7 Y V<|A7 Y V<|A7 Y V<|A7 Y V<|A7 Y V<|Zv (AR Y Y)<|Zm Y<|A7 Y V<|A7 Y V<|A7 Y V<|A7 Y V<|A7 Y V<|A7 Y V<|Zv (AR Y Y)<|Z0<|Zn [3,5,29] ?_;refine Zx<|CQ Y<|A1<|A3 Y<|AA<|Zt<|AC rfl Pu Y (by exact ⟨congrArg Value.bool (Bm (fun g:Ee base until_ z.a=>by first|exact G g.1|exact h2 g.2.1|exact I g.2.2.1)).symm,rfl⟩)
 refine Yf 0 HD V rfl A5 Y<|Yl AE Y ?_;refine Yf 11 BW V rfl A5 Y<|Yl AE Y ?_;first|refine DV Y (E5 Y Y) rfl rfl ?_|refine DV Y (IC Y Y) rfl rfl ?_
 refine Zv (AL Y Y)<|Zm Y ?_;first|refine Ai (t:=22) Y rfl (fun h2=>?_) (fun h2=>?_)|refine Ah (t:=22) Y rfl (fun h2=>?_) (fun h2=>?_)
 ·
  refine A7 Y V<|A7 Y V<|A7 Y V<|A7 Y V<|A7 Y V<|A7 Y V<|Zv (AR Y Y)<|Z0<|Zn [3,5,29] ?_;refine Zx<|CQ Y<|A1<|A3 Y<|AA<|Zt<|AC rfl Pu Y (by exact ⟨congrArg Value.bool (Bm (fun g:Ee base until_ z.a=>by first|exact G g.1|exact h2 g.2.1|exact I g.2.2.1)).symm,rfl⟩)
 refine DF Y Wh (A9 (cs:=#[_,_,_]) HC DG Y Wb (by exact BA V)) V rfl ?_;refine Yf 14 BW V rfl Kf Y<|Yl MY Y ?_;refine DF Y Wh (A9 (cs:=#[_,_,_]) HC DG Y Wb (by exact BA V)) V rfl ?_;refine Xr [_,_,_] Y call28 Y V (Vv base until_ hz.2.2 Tg zg) ?_;first|refine DV Y (C9 Y) rfl rfl ?_|refine DV Y (Cj Y) rfl rfl ?_
 refine Zv (AL Y Y)<|Z0<|Zn [3,5,29] ?_;refine Zx ?_;first|refine Ak Y (fun I=>?_) (fun I=>?_)|refine Ad Y (fun I=>?_) (fun I=>?_)
 ·
  refine A1<|A3 Y<|AA<|Zt<|AC rfl Pu Y (by exact ⟨congrArg Value.bool (Bm (fun g:Ee base until_ z.a=>by first|exact G g.1|exact h2 g.2.1|exact I g.2.2.1)).symm,rfl⟩)
 have K:=G2.1 G;have O:=G2.1 h2
 have U:=G2.1 I;refine AB<|Zx<|A1<|Zv (Bt (vs:=[]) (us:=[_]) Y Y)<|A3 Y<|Zq<|A1<|Zh 13 BW V rfl DB Y<|Zl E0 Y ?_;refine Zm Y<|Zc [_,_] Y call31 Y V (aX base hz.2.1 hs b1 Tg zg) ?_;rintro _ _ ⟨_,⟨bf,rfl,X,rfl⟩,rfl⟩;refine AD<|Ad Y (fun h4=>?_) (fun h4=>?_);·
  refine A1<|A3 Y<|AA<|Zt<|AC V Pu Y (by exact ⟨congrArg Value.bool (Bm (fun g:Ee base until_ z.a=>(X.1 h4) g.2.2.2.1)).symm,V⟩)
 have h5:∀x∈z.a.ranges,Ke base.st x:=G2.1 fun g=>by have:=X.2 g;rw [h4]at this;cases this
 refine AB<|Zx<|A1<|Zh 0 BW V rfl CM Y<|Zo Wh (Pa #[_,_,_,_,_,_,_] F2 CM Y) ?_;refine Zh 12 BW V rfl A5 Y<|Zl AE Y ?_;refine Zh 13 BW V rfl DB Y<|Zl E0 Y ?_;refine Zv (BQ (vs:=[(0,.agg #[I4 z.a.q.kd,I4 z.a.q.tb,I4 z.a.q.cl,I4 z.a.q.lo,I4 z.a.q.hi,I4 z.a.q.bq,I4 z.a.q.ot]),(2,I4 z.a.base),(3,.slice z.gp z.a.ranges.length z.gc)]) (cs:=#[I4 z.a.q.kd,I4 z.a.q.tb,I4 z.a.q.cl,I4 z.a.q.lo,I4 z.a.q.hi,I4 z.a.q.bq,I4 z.a.q.ot,I4 0,I4 z.a.base,.slice z.gp z.a.ranges.length z.gc]) Y (Aa (pl:=#[(0,7),(7,1),(8,1),(9,1)]) Wg OS (fun _=>by kernel_rfl) AG))<|Zh 14 BW V rfl Kf Y<|Zl MY Y ?_;refine Zc [_,_] Y call16 Y V (vS z.a.q 0 z.a.base hb hz.2.1 ax hz.2.2 af pa Tx zx) ?_;rintro _ _ ⟨_,⟨y,s9,cO,Z,rfl,rfl⟩,rfl⟩;refine Zm Y<|Zd Y V<|Zd Y V<|Ze (Al Hv #[_,_,_,_,_,_,_,_,_,_,_,_,_,_,_])<|AF fun b4=>Xe (Xw F1 #[I4 y.a.q.kd,I4 y.a.q.tb,I4 y.a.q.cl,I4 y.a.q.lo,I4 y.a.q.hi,I4 y.a.q.bq,I4 y.a.q.ot,.slice y.rp y.a.res.rows.length y.rc,I4 y.a.res.val,.bool y.a.res.fnd,I4 y.a.since,I4 y.a.until_,I4 y.a.base,.slice y.gp y.a.ranges.length y.gc,.slice y.cp y.a.recs.length y.cc]) ?_;refine AH Y<|Zn [5,8,9] ?_;refine Zx<|A1<|Zm Y<|Zm Y<|Ah (t:=49) Y V (fun h6=>?_) (fun h6=>?_);·
  obtain ⟨E,bn⟩:EG z.a.q z.a.base z.a.ranges z.a.recs=some y.a/\y.ok (s9++M):=by rcases Z with⟨_,g⟩|⟨g,_⟩;exact g;rw [h6]at g;cases g
  refine DF Y Wh (A9 (cs:=#[_,_,_,_,_,_,_,_,_,_,_,_,_,_,_]) HP F1 Y Wb (by exact BA V)) V rfl ?_;refine DF Y Wh (A9 (cs:=#[_,_,_,_,_,_,_,_,_,_,_,_,_,_,_]) HP F1 Y Wb (by exact BA V)) V rfl ?_;refine Xr [_,_] Y call19 Y V (VM hz bn) ?_;refine Zv (AR Y Y)<|A3 Y<|AA<|AC rfl Pu Y (by exact ⟨by first|exact GL ⟨fun g=>⟨K,O,U,h5,y.a,E,g⟩,fun g=>by obtain ⟨b,m,J⟩:=g.2.2.2.2;rw [E]at m;injection m with m;rw [m];exact J⟩|exact congrArg Value.bool (Bm (fun g:Ee base until_ z.a=>by obtain ⟨b,m,_⟩:=g.2.2.2.2;rw [E]at m;cases m)).symm,rfl⟩)
 have E:EG z.a.q z.a.base z.a.ranges z.a.recs=none:=by rcases Z with⟨g,_⟩|⟨_,g⟩;rw [h6]at g;cases g;exact g
 refine A7 Y rfl<|A7 Y rfl<|A7 Y rfl<|Zv (AL Y Y)<|A3 Y<|AA<|AC rfl Pu Y (by exact ⟨by first|exact GL ⟨fun g=>⟨K,O,U,h5,y.a,E,g⟩,fun g=>by obtain ⟨b,m,J⟩:=g.2.2.2.2;rw [E]at m;injection m with m;rw [m];exact J⟩|exact congrArg Value.bool (Bm (fun g:Ee base until_ z.a=>by obtain ⟨b,m,_⟩:=g.2.2.2.2;rw [E]at m;cases m)).symm,rfl⟩)
theorem vZ.mono{x:RP}{B g:Int}(h:vZ x B)(J:B<=g):vZ x g:=by
 obtain ⟨E,h2,G,I,m⟩:=h;exact ⟨by omega,by omega,by omega,by omega,fun r y=>by have:=m r y;omega⟩
structure zi(x:RP)(B:Int):Prop where
 np:x.paths.length=x.rows.length
 nr:x.rows.length<=2000
 nt:x.roots.length=16
 sr:∀s∈x.roots,s.length<=1000
 sp:∀l∈x.paths,l.length<=1000000
 b:vZ x B
theorem cB{rs:List AY}(m:BL rs)(hn:rs.length<=2000)(y:∀r∈rs,r.ok)(t c:Nat)(lo hi:Int)(g:lo<=hi)(K:-1000000000<=lo)(J:hi<=1000000000):zi (Eb rs t c lo hi) 1000000000:=by
 have I:=QH m t c lo hi g;have h2:=Jj m t c lo hi g
 have Z:=Fh m (t:Int) c;refine ⟨by rw [I];exact O7 _ _ _,by omega,FO rs,fun s E=>?_,Mf m hn t c lo hi,⟨?_,?_,?_,?_,fun r M=>?_⟩⟩
 · obtain ⟨x,_,rfl⟩:=GB.1 E
   have:=MS m hn x;omega
 · show-1000000000<=lo/\lo<=1000000000;omega
 · show-1000000000<=hi/\hi<=1000000000;omega
 · show(-1000000000:Int)<=((BI rs (t:Int) c).length:Nat)/\(((BI rs (t:Int) c).length:Nat):Int)<=1000000000;omega
 · show(-1000000000:Int)<=((CR (BI rs (t:Int) c) c lo:Nat):Int)/\((CR (BI rs (t:Int) c) c lo:Nat):Int)<=1000000000
   have:=Gj (geV c lo) (BI rs (t:Int) c);unfold CR;omega
 · have G:=(PI (ID (HI M))).1
   obtain ⟨_,⟨⟨O,U,X⟩,q4,q5⟩⟩:=And.intro G (y r G);unfold inV at O U X;omega
theorem kinds(i:Nat)(h:i<5):∃kd:Int,([I4 0,I4 1,I4 4,I4 7,I4 8]:List A4).toArray[i]?=some (I4 kd)/\(Bu kd 12=0\/Bu kd 12=1\/Bu kd 12=4\/Bu kd 12=7\/Bu kd 12=8)/\0<=kd/\kd<=8:=by
 match i,h with
 |0,_=>exact ⟨0,rfl,by decide,by decide,by decide⟩
 |1,_=>exact ⟨1,rfl,by decide,by decide,by decide⟩
 |2,_=>exact ⟨4,rfl,by decide,by decide,by decide⟩
 |3,_=>exact ⟨7,rfl,by decide,by decide,by decide⟩
 |4,_=>exact ⟨8,rfl,by decide,by decide,by decide⟩
structure ah where
 a:Int
 b:Int
 c:Int
 d:Int
def Qm(M:List AU)(v:A4)(ws:List ah):Prop:=∃p cap,v= .slice p ws.length cap/\(ws.length<=maxLen/\ws.length<=cap)/\∀(i:Nat) (z:ah),ws[i]?=some z->((-9223372036854775808<=z.a/\z.a<=9223372036854775807)/\(-9223372036854775808<=z.b/\z.b<=9223372036854775807)/\(-9223372036854775808<=z.c/\z.c<=9223372036854775807)/\(-9223372036854775808<=z.d/\z.d<=9223372036854775807))/\∃g off cur T zz,p=some ⟨g,off,none⟩/\(g,Obj.cells cur T zz)∈M/\off+i*4+4<=cur.size/\cur.extract (off+i*4) (off+i*4+4)=#[I4 z.a,I4 z.b,I4 z.c,I4 z.d]
theorem TwB.le{a:JX}{n:Nat}(h:TwB a n):∀k,TwB a (n+k)
 |0=>h
 |k+1=>(TwB.le h k).up
theorem mM{E M:List AU}{z:Fq}(hz:z.ok (E++M)){n:Nat}(hB:TwB z.a n)(hn:n<=10)(g:Int)(J:-9223372036854775808<=g)(K:g<=9223372036854775807)(m:Int)(O:-9223372036854775808<=m)(U:m<=9223372036854775807)(G:Int)(X:-9223372036854775808<=G)(Z:G<=9223372036854775807)(I:Int)(af:-9223372036854775808<=I)(ax:I<=9223372036854775807):Bz prog 23 #[.agg z.Ao7,.agg #[I4 g,I4 m,I4 G,I4 I]] [E,M] (fun r H'=>∃(y:Fq) (E2:List AU),r= .agg y.Ao7/\y.ok (E2++M)/\TwB y.a (n+1)/\H'=[E2,M]):=by
 refine Dw (tK hz hB hn g J K m O U G X Z I af ax) B3 ?_;rintro w H' ⟨y,E1,rfl,h1,h2,rfl⟩;exact ⟨_,⟨y,E1++E,V,by simpa only [D2]using h1,h2,V⟩,by simp⟩
theorem OV{l:List Bg}{i:Nat}{r:Bg}(g:l[i]?=some r)(h:Bs):JH h (l.take (i+1))=Jt (JH h (l.take i)) (Er r.p r.cs)/\CK h (l.take (i+1))=CK h (l.take i)++[2::(JH h (l.take i)++Er r.p r.cs)]:=by
 induction l generalizing i h with
 |nil=>cases g
 |cons a l ih=>
  cases i with
  |zero=>
   injection g with g
   subst g;exact ⟨V,V⟩
  |succ i=>
   rw [eE,eE];obtain ⟨m,h2⟩:=ih (by simpa using g) (Jt h (Er a.p a.cs));exact ⟨m,by show _::_=_::_;rw [h2];rfl⟩
theorem U0{h:Bs}(g:h.length=32):∀l:List Bg,(JH h l).length=32
 |[]=>g
 |r::l=>U0 (Hg _ _) l
theorem Gc(h:Bs):∀l:List Bg,(CK h l).length=l.length
 |[]=>rfl
 |r::l=>by show(CK _ l).length+1=l.length+1;rw [Gc _ l]
theorem ME{h:Bs}(m:h.length=32):∀(l:List Bg),(∀r∈l,E9 r.p r.cs)->∀s∈CK h l,s.length<=140737488354000
 |[],_,s,hs=>by cases hs
 |r::l,ho,s,hs=>by
  rcases E4.1 hs with rfl|hs
  · have g:=M7 (ho r B3)
    have h0:=(ho r B3).len;simp only [D3,zq];omega
  · exact ME (Hg _ _) l (fun x hx=>ho x (by simp [hx])) s hs
theorem aQ{L:List RP}{n:Nat}(E:∀x∈L,RgB x n)(i:Nat):((L.take i).flatMap CV).length<=2000004002*L.length:=by
 have h:∀l:List RP,(∀x∈l,RgB x n)->(l.flatMap CV).length<=2000004002*l.length:=fun l m=>by
  induction l with
  |nil=>simp
  |cons x l ih=>
   have g:=m x B3;have h2:=Pj g.pl (min x.rows.length x.paths.length)
   have G:(CV x).length<=2*x.roots.length+2+1000001*(min x.rows.length x.paths.length):=h2;have I:=ih (fun y hy=>m y (by simp [hy]))
   have J:=g.nr;have K:=g.nt
   rw [HF,zq,D3];omega
 refine SZ (h _ fun x hx=>E x (HI hx)) (Nat.mul_le_mul_left _ ?_);rw [zy];omega
theorem rJ{L:List RP}{n:Nat}(g:∀x∈L,RgB x n){root:Bs}(hv:∀x∈L,Ke root x):∀s∈L.flatMap CV,s.length<=140737488354000:=fun s m=>by
 obtain ⟨x,hx,h⟩:=N6.1 m;exact aP (hv x hx).comp (g x hx).rl (Un (hv x hx)) s h
set_option maxHeartbeats 1000000 in
theorem mV{M:List AU}{z:Fq}(hz:z.ok M)(hB:TwB z.a 0){vt:A4}{ws:List ah}(hW:Qm M vt ws):Bz prog 7 #[.agg #[I4 z.a.q.kd,I4 z.a.q.tb,I4 z.a.q.cl,I4 z.a.q.lo,I4 z.a.q.hi,I4 z.a.q.bq,I4 z.a.q.ot,.slice z.rp z.a.res.rows.length z.rc,I4 z.a.res.val,.bool z.a.res.fnd,I4 z.a.since,I4 z.a.until_,I4 z.a.base,.slice z.gp z.a.ranges.length z.gc,.slice z.cp z.a.recs.length z.cc],vt] [M] (fun r H'=>∃(y:Fq) (E:List AU),r= .agg #[I4 y.a.q.kd,I4 y.a.q.tb,I4 y.a.q.cl,I4 y.a.q.lo,I4 y.a.q.hi,I4 y.a.q.bq,I4 y.a.q.ot,.slice y.rp y.a.res.rows.length y.rc,I4 y.a.res.val,.bool y.a.res.fnd,I4 y.a.since,I4 y.a.until_,I4 y.a.base,.slice y.gp y.a.ranges.length y.gc,.slice y.cp y.a.recs.length y.cc]/\y.ok (E++M)/\TwB y.a 3/\H'=[E,M]):=by
 have l8:=mL;obtain ⟨pt,ct,rfl,⟨lv,l9⟩,gm⟩:=id hW;refine Se func7 ntmps7 [0,1] ?_;intro u R;refine A1<|Ze (Bx #[I4 z.a.q.kd,I4 z.a.q.tb,I4 z.a.q.cl,I4 z.a.q.lo,I4 z.a.q.hi,I4 z.a.q.bq,I4 z.a.q.ot,.slice z.rp z.a.res.rows.length z.rc,I4 z.a.res.val,.bool z.a.res.fnd,I4 z.a.since,I4 z.a.until_,I4 z.a.base,.slice z.gp z.a.ranges.length z.gc,.slice z.cp z.a.recs.length z.cc])<|AF fun X=>Ze (Al Hv #[_,_,_,_,_,_,_,_,_,_,_,_,_,_,_])<|AF fun bo=>AD<|Bl<|Zb [1,2,4] ?_;refine CL (e0:=[(1,_)]) (H0:=[[(X,.cells #[I4 z.a.q.kd,I4 z.a.q.tb,I4 z.a.q.cl,I4 z.a.q.lo,I4 z.a.q.hi,I4 z.a.q.bq,I4 z.a.q.ot,.slice z.rp z.a.res.rows.length z.rc,I4 z.a.res.val,.bool z.a.res.fnd,I4 z.a.since,I4 z.a.until_,I4 z.a.base,.slice z.gp z.a.ranges.length z.gc,.slice z.cp z.a.recs.length z.cc] 40 (0,0))],[]]) (fun e H=>∃(y:Fq) (E:List AU),(y.ok (E++M)/\TwB y.a 3)/\e=[]/\H=[[(X,.cells #[I4 y.a.q.kd,I4 y.a.q.tb,I4 y.a.q.cl,I4 y.a.q.lo,I4 y.a.q.hi,I4 y.a.q.bq,I4 y.a.q.ot,.slice y.rp y.a.res.rows.length y.rc,I4 y.a.res.val,.bool y.a.res.fnd,I4 y.a.since,I4 y.a.until_,I4 y.a.base,.slice y.gp y.a.ranges.length y.gc,.slice y.cp y.a.recs.length y.cc] 40 (0,0))],E]) Wp ?hx_1 ?hy_1
 case hx_1=>
  refine A1<|A3 Y<|AX<|Zb [5,1,2,4] ?_;refine BB (e0:=[(5,_)]) (fun m e H=>∃(i:Nat) (y:Fq) (E:List AU),m=ws.length -i/\((i<=3/\i<=ws.length)/\y.ok (E++M)/\TwB y.a i)/\e=[(5,I4 (i:Int))]/\H=[[(X,.cells #[I4 y.a.q.kd,I4 y.a.q.tb,I4 y.a.q.cl,I4 y.a.q.lo,I4 y.a.q.hi,I4 y.a.q.bq,I4 y.a.q.ot,.slice y.rp y.a.res.rows.length y.rc,I4 y.a.res.val,.bool y.a.res.fnd,I4 y.a.since,I4 y.a.until_,I4 y.a.base,.slice y.gp y.a.ranges.length y.gc,.slice y.cp y.a.recs.length y.cc] 40 (0,0))],E]) (by exact ⟨0,z,[],V,⟨⟨by decide,C2 _⟩,hz,hB⟩,V,V⟩) Wp ?_;rintro _ _ _ ⟨i,y,E,rfl,⟨⟨kv,kz⟩,hy,I⟩,rfl,rfl⟩;refine Zq<|A1<|Zm Y<|Zm Y<|Zv (AP underlying24 Y) ?_;first|refine Ap (Au Y Y) ?_|refine Ap (ET Y Y) ?_
  refine Zm Y ?_;first|refine Ai (t:=10) Y rfl (fun J=>?_) (fun J=>?_)|refine Ah (t:=10) Y rfl (fun J=>?_) (fun J=>?_)
  ·
   refine Zf Y Y ?_;first|refine DV Y (Au (n:=3) Y Y) rfl rfl ?_|refine DV Y (ET Y Y) rfl rfl ?_
   refine Zv (AR Y Y)<|Z0<|Zx ?_;first|refine Ak Y (fun K=>?_) (fun K=>?_)|refine Ad Y (fun K=>?_) (fun K=>?_)
   ·
    obtain ⟨w,hw⟩:∃w,ws[i]?=some w:=⟨_,zn A0⟩;obtain ⟨⟨⟨Z,af⟩,⟨ax,bf⟩,⟨bn,cu⟩,cO,d9⟩,g,off,cur,T,zz,rfl,ek,gy,O⟩:=gm i w hw;refine AB<|Zx<|Zq<|AX<|BJ (n:=7) (0::0::0::6::14::31::63::[]) 96 AG AG V<|Fc 0 V Wh (A9 (cs:=#[_,_,_,_,_,_,_,_,_,_,_,_,_,_,_]) HP F1 Y Wb (by exact BA V)) ?_;refine A2 1 rfl (AJ Y)<|A2 2 rfl (AJ Y)<|A2 3 rfl (AO underlying24 sizeOf73 Y Y CT)<|Gf (b:=g) (x:= .cells cur T zz) (D':=31) 4 rfl rfl rfl (by simp [ek]) (A9 (cs:=#[I4 w.a,I4 w.b,I4 w.c,I4 w.d]) isAgg73 sizeOf73 Y A0 O) ?_;refine Zz (l:=[5])<|BE [false,false] [] V rfl (Zw [_,_] Y call23 Y V (mM hy I A0 w.a Z af w.b ax bf w.c bn cu w.d cO d9)) ?_ Co Ay;rintro _ _ ⟨_,⟨G,E2,rfl,gq,U,rfl⟩,rfl⟩;refine BT<|Yw 6 127 V (Xw F1 #[I4 G.a.q.kd,I4 G.a.q.tb,I4 G.a.q.cl,I4 G.a.q.lo,I4 G.a.q.hi,I4 G.a.q.bq,I4 G.a.q.ot,.slice G.rp G.a.res.rows.length G.rc,I4 G.a.res.val,.bool G.a.res.fnd,I4 G.a.since,I4 G.a.until_,I4 G.a.base,.slice G.gp G.a.ranges.length G.gc,.slice G.cp G.a.recs.length G.cc])<|C3<|Ao<|Zn [1,2,4,5] ?_;refine A8<|Zx<|Zg<|Zm Y ?_;first|(refine Ap (Bp (n:=1) Y Y ?_) ?_;(focus (omega)))|(refine Ap (EU Y Y (IntWalk.i64_in _ ?_)) ?_;(focus (omega)))
    refine AH Y<|Zn [5,1,2,4] ?_;refine AZ (e':=[(5,_)]) (by exact ⟨i+1,G,E2,V,⟨⟨by omega,by omega⟩,gq,U⟩,V,V⟩)
   refine Aw<|Zt<|Zt<|AQ<|Zn [2,4] ?_;refine Aq (e':=[]) (by exact ⟨y,E,⟨hy,by have:=I.le (3 -i);rwa [show i+(3 -i)=3 by omega]at this⟩,V,V⟩)
  refine A7 Y V<|A7 Y V<|Zv (AL Y Y)<|AD<|Dj Y<|Aw<|Zt<|Zt<|AQ<|Zn [2,4] ?_;refine Aq (e':=[]) (by exact ⟨y,E,⟨hy,by have:=I.le (3 -i);rwa [show i+(3 -i)=3 by omega]at this⟩,V,V⟩)
 rintro _ _ ⟨y,E,⟨hy,I⟩,rfl,rfl⟩;refine A1<|Zo Wh (A9 (cs:=#[I4 y.a.q.kd,I4 y.a.q.tb,I4 y.a.q.cl,I4 y.a.q.lo,I4 y.a.q.hi,I4 y.a.q.bq,I4 y.a.q.ot,.slice y.rp y.a.res.rows.length y.rc,I4 y.a.res.val,.bool y.a.res.fnd,I4 y.a.since,I4 y.a.until_,I4 y.a.base,.slice y.gp y.a.ranges.length y.gc,.slice y.cp y.a.recs.length y.cc]) HP F1 Y Wb (by exact BA V)) ?_;refine Xe (BN F1 Y Y XS Wu (by exact DD rfl) Ek Wb (by exact BU _)) ?_;refine AD<|AA<|DI V results7 Y Wh (Ar HP F1 Wn (BA V)) (by exact ⟨y,E,V,hy,I,V⟩)
set_option maxHeartbeats 1000000 in
theorem Qy(h:Ct)(hh:h.ch.length=32){M:List AU}{lv:A4}{l:List Bg}(hl:Cw M lv l)(af:∀r∈l,E9 r.p r.cs)(hn:l.length<=100000):Bz prog 39 #[.agg #[I4 h.p,.string (str h.ch),.string (str h.st)],lv] [M] (fun r H'=>∃J,BZ 1 9 r (CK h.ch l).length ((CK h.ch l).map Ci) J/\H'=[J,M]):=by
 have gq:=mL;obtain ⟨pl,cl,rfl,⟨ek,gm⟩,hg⟩:=id hl;have U:(⟨#[2]⟩:ByteArray)=str [2]:=rfl
 refine Se func39 ntmps39 [0,1] ?_;intro u R;refine A1<|Ze (Bx #[I4 h.p,.string (str h.ch),.string (str h.st)])<|AF fun ba=>A3 Y<|A1<|A3 Y<|A1<|Zh 1 HD V rfl CH Y<|Zl Fm Y ?_;refine A3 Y<|Zq<|A1<|A3 Y<|AX<|Bl<|Zb [5,6,7,1] ?_;refine BB (e0:=[(5,_),(6,_),(7,_)]) (fun m e H=>∃(i:Nat) (vo:A4) (J:List AU),m=l.length -i/\(i<=l.length/\BZ 1 9 vo (CK h.ch (l.take i)).length ((CK h.ch (l.take i)).map Ci) J)/\e=[(5,vo),(6,.string (str (JH h.ch (l.take i)))),(7,I4 (i:Int))]/\H=[J]) (by exact ⟨0,.slice none 0 0,[],V,⟨C2 _,Ba 1 _⟩,V,V⟩) Wp ?_;rintro _ _ _ ⟨i,vo,J,rfl,⟨hi,y⟩,rfl,rfl⟩;obtain ⟨qo,co,rfl⟩:=y.form;have cO:=U0 hh (l.take i)
 have X:=Gc h.ch (l.take i);rw [zy]at X;refine Zq<|A1<|Zm Y<|Zm Y<|Zv (AP Fl Y) ?_;first|refine Ap (Au Y Y) ?_|refine Ap (ET Y Y) ?_
 refine Z0<|Zx ?_;first|refine Ak Y (fun G=>?_) (fun G=>?_)|refine Ad Y (fun G=>?_) (fun G=>?_)
 ·
  obtain ⟨r,O⟩:∃r,l[i]?=some r:=⟨_,zn A0⟩;obtain ⟨ax,g,off,cur,T,zz,rfl,Z,bf,K⟩:=hg i r O;have I:=af r (Cd O)
  have d9:=M7 I;have gy:=I.len
  have kv:=BO (JH h.ch (l.take i));have kz:=BO (Er r.p r.cs)
  refine AB<|Zx<|Zq<|AX<|A1<|Zm Y<|Zm Y<|Ap (AO Fl E6 Y Y CT)<|Ca (cs:=[(g,.cells cur T zz)]) (by simp [Z]) (A9 (cs:=#[I4 r.p,.slice r.q r.cs.length r.cap]) HX E6 Y A0 K) rfl rfl ?_;refine Xr [_] Y call65 Y V (VH r.p r.q r.cap r.cs M ax I) ?_;refine Zm Y<|Zd Y V<|Zd Y V<|Za Y<|AH Y<|Zn [1,5,6,7,8] ?_;refine Zx<|A1<|Zm Y<|Zm Y<|Ap (CY Y Y (by rw [U,BO,BO];simp;omega))<|Zm Y<|Ap (CY Y Y (by rw [U,CZ,BO,BO];simp;omega)) ?_;rw [U,CZ,CZ];refine Ze (Af (vs:=[_]) (cs:=[_]) Bk CH HR Y V rfl V rfl V)<|AF fun gs=>Ze (BR (by_:=16) (sz:=1) Bk (V:Tryz.prog.info? 9=some Tryz.t9) V rfl V rfl Y (y) Y (Dy 1 gs 1 1 9 (0,0) [Ci ([2]++(JH h.ch (l.take i))++Er r.p r.cs)] V) Wo Wo (by simp [Ci,Value.oneCell']) A0 A0) ?_;rintro _ _ ⟨l8,E,rfl⟩;obtain ⟨cu,bn,rfl⟩:=E.form;refine A3 Y<|Zg<|Zm Y<|Zm Y<|Xr [_,_] Y call66 Y V (Qw (JH h.ch (l.take i)) (Er r.p r.cs) A0) ?_;refine AH Y<|A8<|Zx<|Zg<|Zm Y ?_;first|(refine Ap (Bp (n:=1) Y Y ?_) ?_;(focus (omega)))|(refine Ap (EU Y Y (IntWalk.i64_in _ ?_)) ?_;(focus (omega)))
  refine AH Y<|Zn [5,6,7,1] ?_;refine AZ (e':=[(5,_),(6,_),(7,_)]) (by exact ⟨i+1,_,_,rfl,⟨by omega,BH E (by rw [(OV O h.ch).2,zq];rfl) (by rw [(OV O h.ch).2,Dg];rfl)⟩,by rw [(OV O h.ch).1],rfl⟩)
 have ei:i=l.length:=by omega
 subst ei;rw [G0]at y⊢;refine Aw<|Zt<|Zt<|AQ<|Zx<|A1<|Zm Y<|A3 Y<|AA<|AC V results39 Y (by exact ⟨J,y,V⟩)
theorem aA:Bz prog 15 #[] [] (fun r H'=>∃m y E g,r=I6 g 3 3/\H'=[[(m,.cells #[I4 0,I4 5,.bool false,I4 0,I4 0,I4 0,.bool true,I4 10,I4 0,I4 0] 106 (0,0))],[(y,.cells #[I4 0,I4 6,.bool false,I4 0,I4 0,I4 0,.bool true,I4 99,I4 0,I4 0] 106 (0,0))],[(E,.cells #[I4 0,I4 7,.bool false,I4 0,I4 0,I4 0,.bool true,I4 11,I4 0,I4 0] 106 (0,0))],[(g,.cells #[I4 1,I6 m 1 1,I4 2,I6 y 1 1,I4 3,I6 E 1 1] 81 (0,0))]]):=by
 refine Se func15 ntmps15 [] ?_;intro u R;refine A1<|A3 Y<|A1<|Zv (BQ (vs:=[(0,_),(1,_),(2,_)]) (cs:=#[_,_,_]) Y (Cv V0 G1 A5 V))<|Zv (BQ (vs:=[(1,I4 5),(4,.bool true),(5,.agg #[I4 10,I4 0,I4 0])]) (cs:=#[I4 0,I4 5,.bool false,I4 0,I4 0,I4 0,.bool true,I4 10,I4 0,I4 0]) Y (Aa (pl:=#[(0,1),(1,1),(2,1),(3,3),(6,1),(7,3)]) K1 B9 (fun _=>by kernel_rfl) AG))<|Ze (Af (vs:=[_]) (cs:=[_,_,_,_,_,_,_,_,_,_]) Fk C5 K1 Y V rfl V rfl V)<|AF fun m=>Zv (BQ (vs:=[(0,_),(1,_)]) (cs:=#[_,_]) Y (Aa (pl:=#[(0,1),(1,1)]) Pc Ft (fun _=>by kernel_rfl) V))<|Zv (BQ (vs:=[(0,_),(1,_),(2,_)]) (cs:=#[_,_,_]) Y (Cv V0 G1 A5 V))<|Zv (BQ (vs:=[(1,I4 6),(4,.bool true),(5,.agg #[I4 99,I4 0,I4 0])]) (cs:=#[I4 0,I4 6,.bool false,I4 0,I4 0,I4 0,.bool true,I4 99,I4 0,I4 0]) Y (Aa (pl:=#[(0,1),(1,1),(2,1),(3,3),(6,1),(7,3)]) K1 B9 (fun _=>by kernel_rfl) AG))<|Ze (Af (vs:=[_]) (cs:=[_,_,_,_,_,_,_,_,_,_]) Fk C5 K1 Y V rfl V rfl V)<|AF fun y=>Zv (BQ (vs:=[(0,_),(1,_)]) (cs:=#[_,_]) Y (Aa (pl:=#[(0,1),(1,1)]) Pc Ft (fun _=>by kernel_rfl) V))<|Zv (BQ (vs:=[(0,_),(1,_),(2,_)]) (cs:=#[_,_,_]) Y (Cv V0 G1 A5 V))<|Zv (BQ (vs:=[(1,I4 7),(4,.bool true),(5,.agg #[I4 11,I4 0,I4 0])]) (cs:=#[I4 0,I4 7,.bool false,I4 0,I4 0,I4 0,.bool true,I4 11,I4 0,I4 0]) Y (Aa (pl:=#[(0,1),(1,1),(2,1),(3,3),(6,1),(7,3)]) K1 B9 (fun _=>by kernel_rfl) AG))<|Ze (Af (vs:=[_]) (cs:=[_,_,_,_,_,_,_,_,_,_]) Fk C5 K1 Y V rfl V rfl V)<|AF fun E=>Zv (BQ (vs:=[(0,_),(1,_)]) (cs:=#[_,_]) Y (Aa (pl:=#[(0,1),(1,1)]) Pc Ft (fun _=>by kernel_rfl) V))<|Ze (Af (vs:=[_,_,_]) (cs:=[_,_,_,_,_,_]) Fl E6 Pc Y V rfl V rfl V)<|AF fun g=>AH Y<|Zn [0] ?_;refine Zx<|AA<|AC V results15 Y (by exact ⟨m,y,E,g,V,V⟩)
structure zG(l:List Bg):Prop where
 ok:DN l
 len:l.length=3
 one:∃x,Ed l 1 2 exQ=some x/\x.res.val=1/\x.since=1/\x.until_=2
 two:∃y,Ed l 1 3 exQ=some y/\y.res.val=2/\y.since=3/\y.until_=3
 third:EG exQ 1 (Em (Bd (l.take 1)) exQ) (FC l 2 l.length)=none
theorem XT{M:List AU}{g:Nat}{T:AM}{z:Nat×Nat}{cur:AN}{c:Chg}(y:(g,Obj.cells cur T z)∈M)(E:10<=cur.size)(m:cur.extract 0 10=c.Ao4):Dq M (I6 g [c].length 1) [c]:=⟨_,_,rfl,by show 1<=maxLen;decide,fun i x hx=>by
 match i,hx with
 |0,hx=>injection hx with hx;subst hx;exact ⟨g,0,cur,T,z,rfl,y,by omega,by simpa using m⟩
 |i+1,hx=>simp at hx⟩
theorem lC:Bz prog 15 #[] [] (fun r H'=>∃(l:List Bg) (p:B7) (cap:Nat) (M:List AU),zG l/\Cw M (.slice p l.length cap) l/\r= .slice p l.length cap/\H'=[M]):=by
 refine Dw aA V ?_;rintro r H' ⟨E,G,I,y,rfl,rfl⟩;obtain ⟨J,h2⟩:=qy (some ⟨E,0,none⟩) (some ⟨G,0,none⟩) (some ⟨I,0,none⟩);refine ⟨_,⟨exL (some ⟨E,0,none⟩) (some ⟨G,0,none⟩) (some ⟨I,0,none⟩),some ⟨y,0,none⟩,3,[(E,.cells #[I4 0,I4 5,.bool false,I4 0,I4 0,I4 0,.bool true,I4 10,I4 0,I4 0] 106 (0,0)),(G,.cells #[I4 0,I4 6,.bool false,I4 0,I4 0,I4 0,.bool true,I4 99,I4 0,I4 0] 106 (0,0)),(I,.cells #[I4 0,I4 7,.bool false,I4 0,I4 0,I4 0,.bool true,I4 11,I4 0,I4 0] 106 (0,0)),(y,.cells #[I4 1,I6 E 1 1,I4 2,I6 G 1 1,I4 3,I6 I 1 1] 81 (0,0))],⟨eH _ _ _,V,J,h2,qm _ _ _⟩,⟨_,_,V,⟨by show 3<=maxLen;decide,B8 _⟩,fun i r m=>?_⟩,V,V⟩,by simp⟩
 match i,m with
 |0,m=>injection m with m;subst m;exact ⟨XT (g:=E) (c:=exC 5 10) (.head _) AK rfl,y,0,_,_,_,rfl,.tail _ (.tail _ (.tail _ (.head _))),W7 rfl,rfl⟩
 |1,m=>injection m with m;subst m;exact ⟨XT (g:=G) (c:=exC 6 99) (.tail _ (.head _)) AK rfl,y,0,_,_,_,rfl,.tail _ (.tail _ (.tail _ (.head _))),W7 rfl,rfl⟩
 |2,m=>injection m with m;subst m;exact ⟨XT (g:=I) (c:=exC 7 11) (.tail _ (.tail _ (.head _))) AK rfl,y,0,_,_,_,rfl,.tail _ (.tail _ (.tail _ (.head _))),W7 rfl,rfl⟩
 |i+3,m=>simp [exL]at m
theorem RJ{l:List Bg}(E:DN l)(m:l.length<=20){a b:Nat}(G:a<=b)(M:b<=l.length){q:QM}(J:BS q){x:JX}(h:Ed l a b q=some x):(∀y∈x.ranges,y.small)/\x.ranges.length<=1000000/\(-1000000000000<=x.base/\x.base<=1000000000000)/\(∀r∈x.recs,r.cs.length<=1000)/\Cz x.q x.ranges=some (D5 (Bd (l.take a)) q):=by
 obtain ⟨K,hn⟩:=E.rows a A0;have g:=GD E m (by omega:a<=l.length) q
 have I:=FY K hn (E.rowsOk a A0) J g;have O:=LF (Bd (l.take a)) q
 obtain ⟨e,_⟩:=Gv E m G M J h;rw [e];exact ⟨Z6 K hn q,by show(Em _ _).length<=_;omega,by show _<=(a:Int)/\(a:Int)<=_;omega,Ku E a b,I⟩
theorem TY{v:A4}{l:List Bg}{n:Nat}{s:List AU}(h:BZ 3 48 v n (IX (Ms l n)) s)(hn:0<n):∃g cap cur z,v=I6 g n cap/\s=[(g,.cells cur 48 z)]/\∀i,i<n->0+i*3+3<=cur.size/\cur.extract (0+i*3) (0+i*3+3)=#[I4 (Dr l i).p,.string (str (Dr l i).ch),.string (str (Dr l i).st)]:=by
 obtain ⟨g,cap,cur,z,rfl,rfl,_,_⟩:=EE h hn;refine ⟨g,cap,cur,z,V,V,fun i hi=>?_⟩;obtain ⟨J,G,I,K,hv,y,E,m⟩:=Ir h i hi;injection y with y
 injection y with hs1 hs2
 injection hs2 with hs2 hs3 hs4
 subst hs2;rw [C6];refine ⟨E,MA.1 ?_⟩;rw [m];exact Gq (fun h:Ct=>[I4 h.p,.string (str h.ch),.string (str h.st)]) 3 (fun _=>rfl) (Ms l n) i (Dr l i) (by unfold Ms;rw [FG,cH hi];rfl)
theorem uK{A M:List AU}{x y:Fq}(hx:x.ok (A++M))(hy:y.ok (A++M)):BC prog 19 #[.agg x.Ao7,.agg y.Ao7] [A,M] (.bool (decide (x.a.eqv y.a))):=by
 refine Dw (O6 hx hy) B3 ?_;rintro r H' ⟨rfl,rfl⟩;exact ⟨_,⟨V,V⟩,by simp⟩
theorem uJ{A B M:List AU}{x y:Fq}(hx:x.ok (A++M))(hy:y.ok (B++M)):BC prog 19 #[.agg x.Ao7,.agg y.Ao7] [A,B,M] (.bool (decide (x.a.eqv y.a))):=by
 refine Dw (O6 (hx.mono (M':=A++(B++M)) (fun c hc=>by rcases DM.1 hc with h9|h9;exact E3 _ h9;exact DA _ (DA _ h9))) (hy.mono (fun c hc=>DA A hc))) B3 ?_;rintro r H' ⟨rfl,rfl⟩;exact ⟨_,⟨V,V⟩,by simp⟩
theorem lU:¬BS ⟨0,0,0,0,0,0,0⟩:=by decide
set_option maxHeartbeats 4000000 in
theorem wY(Tg:AM)(zg:Nat×Nat):BC prog 4 #[] [[(1,.cells (Di.map CB).toArray Tg zg)]] (.bool true):=by
 have yt:=mL;refine Se func4 ntmps4 [] ?_;intro u R;refine A1<|A3 Y<|A1<|Zc [] Y call15 Y V (lC) ?_;rintro _ _ ⟨_,⟨l,p,cap,M,m,ek,rfl,rfl⟩,rfl⟩;have pz:=m.len
 obtain ⟨L1,J⟩:∃L,L=Em (Bd (l.take 1)) exQ:=⟨_,rfl⟩;refine A3 Y<|A1<|Zv (BQ (vs:=[(0,I4 3),(2,I4 1),(3,I4 10),(4,I4 19)]) (cs:=#[I4 3,I4 0,I4 1,I4 10,I4 19,I4 0,I4 0]) Y (Aa (pl:=#[(0,1),(1,1),(2,1),(3,1),(4,1),(5,1),(6,1)]) Pr CN (fun _=>by kernel_rfl) AG))<|Ze (Al Pr #[_,_,_,_,_,_,_])<|AF fun bq=>Xe (Xw CM #[I4 3,I4 0,I4 1,I4 10,I4 19,I4 0,I4 0]) ?_;refine AD<|A1<|Zm Y<|Zo Wh (A9 (cs:=#[_,_,_,_,_,_,_]) F2 CM Y Wb (by exact BA V)) ?_;refine Zc [_,_,_,_] Y call6 Y V (XY ek m.ok A0 1 2 AK A0 exQ Gt Tg zg) ?_;rintro _ _ ⟨_,⟨G,E1,t1,wo,qh,vw,mR,rfl,rfl⟩,rfl⟩;obtain ⟨x1,qd,vo,q9,tT⟩:=m.one;obtain ⟨rfl,gq,X⟩:t1=true/\Ed l 1 2 exQ=some G.a/\G.ok (E1++M):=by rcases vw with I|⟨_,I,_⟩;exact I;rw [qd]at I;cases I
 obtain rfl:x1=G.a:=by rw [qd]at gq;injection gq
 rw [<-J]at mR⊢;obtain ⟨qz,qA,r9,sj,sw⟩:=RJ m.ok A0 AK A0 Gt gq;have p8:=RL m.ok A0 (by decide:1<=2) A0 Gt gq
 refine Zm Y<|Zd Y V<|Zd Y V<|Zd Y V<|Ze (Al Wg #[_,_,_,_,_,_,_,_,_,_])<|AF fun b3=>Ze (Al Hv #[_,_,_,_,_,_,_,_,_,_,_,_,_,_,_])<|AF fun b4=>Xe (Xw Vc #[I4 3,I4 0,I4 1,I4 10,I4 19,I4 0,I4 0,I4 0,I4 1,.slice wo L1.length qh]) ?_;refine Xe (Xw F1 #[I4 G.a.q.kd,I4 G.a.q.tb,I4 G.a.q.cl,I4 G.a.q.lo,I4 G.a.q.hi,I4 G.a.q.bq,I4 G.a.q.ot,.slice G.rp G.a.res.rows.length G.rc,I4 G.a.res.val,.bool G.a.res.fnd,I4 G.a.since,I4 G.a.until_,I4 G.a.base,.slice G.gp G.a.ranges.length G.gc,.slice G.cp G.a.recs.length G.cc]) ?_;refine AH Y<|Zn [1,2,3,4,5] ?_;refine Zx<|A1<|Zm Y<|Zo Wh (A9 (cs:=#[_,_,_,_,_,_,_]) F2 CM Y Wb (by exact BA V)) ?_;refine Zc [_,_,_,_] Y call6 Y V (XY ek m.ok A0 1 3 AK A0 exQ Gt Tg zg) ?_;rintro _ _ ⟨_,⟨g,E2,t2,wz,qo,vz,sO,rfl,rfl⟩,rfl⟩;obtain ⟨x2,qg,qc,qa,ve⟩:=m.two;obtain ⟨rfl,af,Z⟩:t2=true/\Ed l 1 3 exQ=some g.a/\g.ok (E2++M):=by rcases vz with I|⟨_,I,_⟩;exact I;rw [qg]at I;cases I
 obtain rfl:x2=g.a:=by rw [qg]at af;injection af
 rw [<-J]at sO⊢;obtain ⟨kv,kz,l8,l9,lv⟩:=RJ m.ok A0 AK A0 Gt af;have p9:=RL m.ok A0 (by decide:1<=3) A0 Gt af
 refine Zm Y<|Zd Y V<|Zd Y V<|Zd Y V<|Ze (Al Wg #[_,_,_,_,_,_,_,_,_,_])<|AF fun b6=>Ze (Al Hv #[_,_,_,_,_,_,_,_,_,_,_,_,_,_,_])<|AF fun b7=>Xe (Xw Vc #[I4 3,I4 0,I4 1,I4 10,I4 19,I4 0,I4 0,I4 0,I4 1,.slice wz L1.length qo]) ?_;refine Xe (Xw F1 #[I4 g.a.q.kd,I4 g.a.q.tb,I4 g.a.q.cl,I4 g.a.q.lo,I4 g.a.q.hi,I4 g.a.q.bq,I4 g.a.q.ot,.slice g.rp g.a.res.rows.length g.rc,I4 g.a.res.val,.bool g.a.res.fnd,I4 g.a.since,I4 g.a.until_,I4 g.a.base,.slice g.gp g.a.ranges.length g.gc,.slice g.cp g.a.recs.length g.cc]) ?_;refine A3 Y<|Zb [3,1,4,5,7,8] ?_;refine CL (e0:=[(3,_)]) (H0:=[E1,M]) (fun e H=>(True)/\e=[(10,.bool false)]/\H=[E1,M]) Wp ?hx_1 ?hy_1
 case hx_1=>
  refine BJ (n:=10) (0::0::2::7::15::31::31::0::191::511::[]) 392 AG AG V<|Fc 0 V Wh (A9 (cs:=#[_,_,_,_,_,_,_,_,_,_]) isAgg35 Vc Y (by exact B8 _) (by exact BA V)) ?_;refine A2 1 rfl (AJ Y)<|A2 2 rfl (Bn (l:=2) Fl E6 Y Y A0)<|Zz (l:=[3,7])<|BE [false] [] rfl rfl (Zw [_,_] Y call16 Y rfl (Pf exQ 0 1 AK mR (by rw [J];have:=LF (Bd (l.take 1)) exQ;have:=GD m.ok A0 (by omega:1<=l.length) exQ;omega) (by rw [J];exact FY (m.ok.rows 1 A0).1 (m.ok.rows 1 A0).2 (m.ok.rowsOk 1 A0) Gt (GD m.ok A0 A0 exQ)) (Ey (Ma (a:=2) ek A0 (B8 _)) (fun c hc=>DA E1 hc)) (Ku m.ok 2 l.length))) ?_ Co ?_;·
   rintro _ _ ⟨_,⟨E,s9,t9,o9,rfl,rfl⟩,rfl⟩;refine ⟨Ae,?_⟩;obtain rfl:t9=false:=by rcases o9 with⟨_,I,_⟩|⟨I,_⟩;rw [J,show(l.drop 2).take (l.length -2)=FC l 2 l.length from rfl,m.third]at I;cases I;exact I
   refine A2 4 V (AJ Y)<|A2 5 V (Ch Y V)<|A2 6 V (Ch Y V)<|Zz (l:=[7])<|BE [] [] V rfl (Al Hv #[_,_,_,_,_,_,_,_,_,_,_,_,_,_,_]) ?_ (fun _ _ h=>h.elim) Ay;rintro _ _ ⟨b9,rfl,rfl⟩;refine BT<|Yw 8 511 V (Xw F1 #[I4 E.a.q.kd,I4 E.a.q.tb,I4 E.a.q.cl,I4 E.a.q.lo,I4 E.a.q.hi,I4 E.a.q.bq,I4 E.a.q.ot,.slice E.rp E.a.res.rows.length E.rc,I4 E.a.res.val,.bool E.a.res.fnd,I4 E.a.since,I4 E.a.until_,I4 E.a.base,.slice E.gp E.a.ranges.length E.gc,.slice E.cp E.a.recs.length E.cc])<|C3<|A2 9 V (BF Y)<|Ao<|Zn [10,1,4,5,7,8] ?_;refine Aq (e':=[(10,_)]) (by exact ⟨trivial,V,V⟩)
  refine BE [true] [(0,(_,_))] V rfl (Al Hv #[_,_,_,_,_,_,_,_,_,_,_,_,_,_,_]) ?_ (fun _ _ h=>h.elim) Ay;rintro _ _ ⟨b9,rfl,rfl⟩;refine BT<|Zz (l:=[3])<|BE [false] [] rfl rfl (Zw [_,_] Y call16 Y rfl (Pf exQ 0 1 AK mR (by rw [J];have:=LF (Bd (l.take 1)) exQ;have:=GD m.ok A0 (by omega:1<=l.length) exQ;omega) (by rw [J];exact FY (m.ok.rows 1 A0).1 (m.ok.rows 1 A0).2 (m.ok.rowsOk 1 A0) Gt (GD m.ok A0 A0 exQ)) (Ey (Ma (a:=2) ek A0 (B8 _)) (fun c hc=>DA E1 hc)) (Ku m.ok 2 l.length))) ?_ Co Ay;rintro _ _ ⟨_,⟨E,s9,t9,o9,rfl,rfl⟩,rfl⟩;refine ⟨Ae,?_⟩;obtain rfl:t9=false:=by rcases o9 with⟨_,I,_⟩|⟨I,_⟩;rw [J,show(l.drop 2).take (l.length -2)=FC l 2 l.length from rfl,m.third]at I;cases I;exact I
  refine A2 4 V (AJ Y)<|A2 5 V (Ch Y V)<|A2 6 V (Ch Y V)<|Zz (l:=[8])<|BE [] [] V rfl (Xw F1 #[I4 E.a.q.kd,I4 E.a.q.tb,I4 E.a.q.cl,I4 E.a.q.lo,I4 E.a.q.hi,I4 E.a.q.bq,I4 E.a.q.ot,.slice E.rp E.a.res.rows.length E.rc,I4 E.a.res.val,.bool E.a.res.fnd,I4 E.a.since,I4 E.a.until_,I4 E.a.base,.slice E.gp E.a.ranges.length E.gc,.slice E.cp E.a.recs.length E.cc]) ?_ (fun _ _ h=>h.elim) Ay;rintro _ _ ⟨rfl,rfl⟩;refine BT<|A2 9 V (BF Y)<|Ao<|Zn [10,1,4,5,7,8] ?_;refine Aq (e':=[(10,_)]) (by exact ⟨trivial,V,V⟩)
 rintro _ _ ⟨_,rfl,rfl⟩;refine A1<|Zm Y<|Zc [_] Y call8 Y V (QE ek m.ok A0) ?_;rintro _ _ ⟨_,⟨sh,qb,rfl⟩,rfl⟩;rw [pz]at qb;obtain ⟨gh,ch,y9,zh,rfl,rfl,hw⟩:=TY qb AK;have O:=hw 1 AK
 have gm:=hw 2 AK;have U:=hw 3 AK
 have q8:=(Fj m.ok A0 2 A0).2.1;obtain ⟨h1,gy⟩:∃h,h=Dr l 1:=⟨_,rfl⟩;obtain ⟨h2,o8⟩:∃h,h=Dr l 2:=⟨_,rfl⟩;obtain ⟨K,pq⟩:∃h,h=Dr l 3:=⟨_,rfl⟩;rw [<-gy]at O;rw [<-o8]at gm;rw [<-pq]at U;rw [<-gy,<-o8]at p8;rw [<-gy,<-pq]at p9;rw [<-o8]at q8;obtain ⟨e1,_⟩:=Gv m.ok A0 (by decide:1<=3) A0 Gt af;have pg:g.a.base=1:=by rw [e1];rfl
 have qw:¬Ee h1 K (⟨⟨g.a.q,⟨g.a.res.rows,1,g.a.res.fnd⟩,g.a.since,g.a.until_,g.a.base,g.a.ranges,g.a.recs⟩,g.rp,g.rc,g.gp,g.gc,g.cp,g.cc⟩:Fq).a:=fun I=>by have h8:=(ed m.ok A0 (by decide:1<=3) A0 Gt af (y:=(⟨⟨g.a.q,⟨g.a.res.rows,1,g.a.res.fnd⟩,g.a.since,g.a.until_,g.a.base,g.a.ranges,g.a.recs⟩,g.rp,g.rc,g.gp,g.gc,g.cp,g.cc⟩:Fq).a) ⟨rfl,rfl,rfl,rfl⟩ (u:=K) (by rw [<-gy];exact I)).1.2.2.2.2.1;have h7:=congrArg CP.val h8;rw [qc]at h7;revert h7;show¬(1:Int)=2;decide
 have qx:¬Ee h2 K g.a:=fun I=>by have h8:=I.1;rw [q8,pg]at h8;revert h8;decide
 have x9:G.a.eqv G.a:=G.a.eqv_refl;have y5:¬G.a.eqv g.a:=fun I=>by have h8:=I.2.1;rw [q9,qa]at h8;revert h8;decide
 refine A3 Y<|A1<|Zo Wh (A9 (cs:=#[I4 g.a.q.kd,I4 g.a.q.tb,I4 g.a.q.cl,I4 g.a.q.lo,I4 g.a.q.hi,I4 g.a.q.bq,I4 g.a.q.ot,.slice g.rp g.a.res.rows.length g.rc,I4 g.a.res.val,.bool g.a.res.fnd,I4 g.a.since,I4 g.a.until_,I4 g.a.base,.slice g.gp g.a.ranges.length g.gc,.slice g.cp g.a.recs.length g.cc]) HP F1 Y Wb (by exact BA V)) ?_;refine Ze (Al Hv #[_,_,_,_,_,_,_,_,_,_,_,_,_,_,_])<|AF fun bc=>Xe (Xw F1 #[I4 g.a.q.kd,I4 g.a.q.tb,I4 g.a.q.cl,I4 g.a.q.lo,I4 g.a.q.hi,I4 g.a.q.bq,I4 g.a.q.ot,.slice g.rp g.a.res.rows.length g.rc,I4 g.a.res.val,.bool g.a.res.fnd,I4 g.a.since,I4 g.a.until_,I4 g.a.base,.slice g.gp g.a.ranges.length g.gc,.slice g.cp g.a.recs.length g.cc]) ?_;refine AD<|A1<|Zh 7 BW rfl rfl B6 Y<|Zv (Aj (off:=1) Cp rfl rfl A5 Y)<|Xe (Zs A5 Y Y rfl (hc:=by exact (rfl:_=(#[I4 g.a.q.kd,I4 g.a.q.tb,I4 g.a.q.cl,I4 g.a.q.lo,I4 g.a.q.hi,I4 g.a.q.bq,I4 g.a.q.ot,.slice g.rp g.a.res.rows.length g.rc,I4 1,.bool g.a.res.fnd,I4 g.a.since,I4 g.a.until_,I4 g.a.base,.slice g.gp g.a.ranges.length g.gc,.slice g.cp g.a.recs.length g.cc]:AN))) (hi:=by first|omega|decide|(simp;done))) ?_;refine AD<|A1<|Zc [] Y call18 Y V (nC) ?_;rintro _ _ ⟨_,⟨zb,za,rfl,rfl⟩,rfl⟩;refine Zv (BQ (vs:=[]) (cs:=#[I4 0,I4 0,I4 0,I4 0,I4 0,I4 0,I4 0]) Y (Aa (pl:=#[(0,1),(1,1),(2,1),(3,1),(4,1),(5,1),(6,1)]) Pr CN (fun _=>by kernel_rfl) AG))<|Xr [_,_] Y call17 Y V (pI (s:=[]) ⟨0,0,0,0,0,0,0⟩ lU) ?_;refine Zm Y<|Zd Y V<|Zd Y V<|Za Y<|AH Y<|Zn [4,5,7,8,10,11,12,14] ?_
 refine Zx<|Zq<|BJ (n:=98) (0::1::3::7::15::31::63::127::255::511::1023::2047::4095::8191::16383::32767::65535::131071::262143::524287::1048575::2097151::4194303::8388607::16777215::33554431::67108863::134217727::268435455::536870911::1073741823::2147483647::4294967295::8589934591::17179869183::34359738367::68719476735::137438953471::274877906943::549755813887::1099511627775::2199023255551::4398046511103::8796093022207::2199023255551::19791209299967::54975581388799::2199023255551::281474976710655::562949953421311::1125899906842623::2251799813685247::4503599627370495::9007199254740991::2251799813685247::20266198323167231::56294995342131199::2251799813685247::288230376151711743::576460752303423487::1152921504606846975::2305843009213693951::4611686018427387903::9223372036854775807::2305843009213693951::20752587082923245567::57646075230342348799::2305843009213693951::295147905179352825855::590295810358705651711::1180591620717411303423::2361183241434822606847::4722366482869645213695::9444732965739290427391::18889465931478580854783::4722366482869645213695::42501298345826806923263::118059162071741130342399::4722366482869645213695::604462909807314587353087::1208925819614629174706175::2417851639229258349412351::4835703278458516698824703::9671406556917033397649407::9671406556917033397649407::38685626227668133590597631::77371252455336267181195263::154742504910672534362390527::309485009821345068724781055::309485009821345068724781055::1237940039285380274899124223::2475880078570760549798248447::4951760157141521099596496895::9903520314283042199192993791::19807040628566084398385987583::39614081257132168796771975167::79228162514264337593543950335::158456325028528675187087900671::[]) 1277230423859272753558323200 AG AG V ?_;refine A2 0 V (AJ Y)<|A2 1 V (AJ Y)<|Ck (t:=50) Y (fun k1=>?_) (fun k1=>?_);·
  first|rw [CA k1]|rw [k1]|skip
  refine B1 2 V (AJ Y)<|A2 3 V (AR Y Y)<|A2 4 V (AJ Y)<|Ck (t:=53) Y (fun k2=>?_) (fun k2=>?_);·
   first|rw [CA k2]|rw [k2]|skip
   refine B1 5 V (AJ Y)<|B1 6 V (Cj Y)<|A2 7 V (AR Y Y)<|A2 8 V (AJ Y)<|Ck (t:=57) Y (fun k3=>?_) (fun k3=>?_);·
    first|rw [CA k3]|rw [k3]|skip
    refine B1 9 V (AV (off:=7) BW V rfl B6 Y)<|B1 10 V (Aj (off:=1) Cp V rfl A5 Y)<|D4 11 V Wh (Bj AE Y An) ?_;refine B1 12 V (Br Y Y)<|A2 13 V (AR Y Y)<|A2 14 V (AJ Y)<|Cc (t:=63) Y (fun k4=>?_) (fun k4=>?_);·
     first|rw [CA k4]|rw [k4]|skip
     refine B1 15 V (AV (off:=10) BW V rfl A5 Y)<|D4 16 V Wh (Bj AE Y An) ?_;refine B1 17 V (Br Y Y)<|A2 18 V (AR Y Y)<|A2 19 V (AJ Y)<|Cc (t:=68) Y (fun k5=>?_) (fun k5=>?_);·
      first|rw [CA k5]|rw [k5]|skip
      refine B1 20 V (AV (off:=11) BW V rfl A5 Y)<|D4 21 V Wh (Bj AE Y An) ?_;refine B1 22 V (Br Y Y)<|A2 23 V (AR Y Y)<|A2 24 V (AJ Y)<|Cc (t:=73) Y (fun k6=>?_) (fun k6=>?_);·
       first|rw [CA k6]|rw [k6]|skip
       refine B1 25 V (AV (off:=7) BW V rfl B6 Y)<|B1 26 V (Aj (off:=1) Cp V rfl A5 Y)<|D4 27 V Wh (Bj AE Y An) ?_;refine B1 28 V (Br Y Y)<|A2 29 V (AR Y Y)<|A2 30 V (AJ Y)<|Cc (t:=79) Y (fun k7=>?_) (fun k7=>?_);·
        first|rw [CA k7]|rw [k7]|skip
        refine B1 31 V (AV (off:=10) BW V rfl A5 Y)<|D4 32 V Wh (Bj AE Y An) ?_;refine B1 33 V (Br Y Y)<|A2 34 V (AR Y Y)<|A2 35 V (AJ Y)<|Cc (t:=84) Y (fun k8=>?_) (fun k8=>?_);·
         first|rw [CA k8]|rw [k8]|skip
         refine B1 36 V (AV (off:=11) BW V rfl A5 Y)<|D4 37 V Wh (Bj AE Y An) ?_;refine B1 38 V (Br Y Y)<|A2 39 V (AR Y Y)<|A2 40 V (AJ Y)<|Cc (t:=89) Y (fun k9=>?_) (fun k9=>?_);·
          first|rw [CA k9]|rw [k9]|skip
          refine B1 41 V (AJ Y)<|B1 42 V (AO (j:=1) My DG Y Y A0)<|D4 43 V Wh (A9 (cs:=#[I4 h1.p,.string (str h1.ch),.string (str h1.st)]) HC DG Y (O).1 (O).2) ?_;refine B1 44 V (AJ Y)<|B1 45 V (AO (j:=2) My DG Y Y A0)<|D4 46 V Wh (A9 (cs:=#[I4 h2.p,.string (str h2.ch),.string (str h2.st)]) HC DG Y (gm).1 (gm).2) ?_;refine D4 47 V Wh (A9 (cs:=#[_,_,_,_,_,_,_,_,_,_,_,_,_,_,_]) HP F1 Y (by exact B8 _) (by exact BA V)) ?_;refine Yw 48 562949953421311 V (Zu [_,_,_] Y call9 Y V (Pb h1 h2 X qz qA r9 sj sw Tg zg)) ?_;rintro _ _ ⟨rfl,rfl⟩;rw [CA p8];refine A2 49 V (AR Y Y)<|A2 50 V (AJ Y)<|Ck (t:=99) Y (fun ax=>?_) (fun ax=>?_);·
           first|rw [CA ax]|rw [ax]|skip
           refine B1 51 V (AJ Y)<|B1 52 V (AO (j:=1) My DG Y Y A0)<|D4 53 V Wh (A9 (cs:=#[I4 h1.p,.string (str h1.ch),.string (str h1.st)]) HC DG Y (O).1 (O).2) ?_;refine B1 54 V (AJ Y)<|B1 55 V (AO (j:=3) My DG Y Y A0)<|D4 56 V Wh (A9 (cs:=#[I4 K.p,.string (str K.ch),.string (str K.st)]) HC DG Y (U).1 (U).2) ?_;refine D4 57 V Wh (A9 (cs:=#[_,_,_,_,_,_,_,_,_,_,_,_,_,_,_]) HP F1 Y (by exact B8 _) (by exact BA V)) ?_;refine Yw 58 576460752303423487 V (Zu [_,_,_] Y call9 Y V (Pb h1 K Z kv kz l8 l9 lv Tg zg)) ?_;rintro _ _ ⟨rfl,rfl⟩;rw [CA p9];refine A2 59 V (AR Y Y)<|A2 60 V (AJ Y)<|Ck (t:=109) Y (fun bf=>?_) (fun bf=>?_);·
            first|rw [CA bf]|rw [bf]|skip
            refine B1 61 V (AJ Y)<|B1 62 V (AO (j:=1) My DG Y Y A0)<|D4 63 V Wh (A9 (cs:=#[I4 h1.p,.string (str h1.ch),.string (str h1.st)]) HC DG Y (O).1 (O).2) ?_;refine B1 64 V (AJ Y)<|B1 65 V (AO (j:=3) My DG Y Y A0)<|D4 66 V Wh (A9 (cs:=#[I4 K.p,.string (str K.ch),.string (str K.st)]) HC DG Y (U).1 (U).2) ?_;refine D4 67 V Wh (A9 (cs:=#[_,_,_,_,_,_,_,_,_,_,_,_,_,_,_]) HP F1 Y (by exact B8 _) (by exact BA V)) ?_;refine Yw 68 590295810358705651711 V (Zu [_,_,_] Y call9 Y V (Pb h1 K (z:=(⟨⟨g.a.q,⟨g.a.res.rows,1,g.a.res.fnd⟩,g.a.since,g.a.until_,g.a.base,g.a.ranges,g.a.recs⟩,g.rp,g.rc,g.gp,g.gc,g.cp,g.cc⟩:Fq)) Z kv kz l8 l9 lv Tg zg)) ?_;rintro _ _ ⟨rfl,rfl⟩;rw [Bm qw];refine B1 69 V (Cj Y)<|A2 70 V (AR Y Y)<|A2 71 V (AJ Y)<|Ck (t:=120) Y (fun bn=>?_) (fun bn=>?_);·
             first|rw [CA bn]|rw [bn]|skip
             refine B1 72 V (AJ Y)<|B1 73 V (AO (j:=2) My DG Y Y A0)<|D4 74 V Wh (A9 (cs:=#[I4 h2.p,.string (str h2.ch),.string (str h2.st)]) HC DG Y (gm).1 (gm).2) ?_;refine B1 75 V (AJ Y)<|B1 76 V (AO (j:=3) My DG Y Y A0)<|D4 77 V Wh (A9 (cs:=#[I4 K.p,.string (str K.ch),.string (str K.st)]) HC DG Y (U).1 (U).2) ?_;refine D4 78 V Wh (A9 (cs:=#[_,_,_,_,_,_,_,_,_,_,_,_,_,_,_]) HP F1 Y (by exact B8 _) (by exact BA V)) ?_;refine Yw 79 1208925819614629174706175 V (Zu [_,_,_] Y call9 Y V (Pb h2 K Z kv kz l8 l9 lv Tg zg)) ?_;rintro _ _ ⟨rfl,rfl⟩;rw [Bm qx];refine B1 80 V (Cj Y)<|A2 81 V (AR Y Y)<|A2 82 V (AJ Y)<|Ck (t:=131) Y (fun cu=>?_) (fun cu=>?_);·
              first|rw [CA cu]|rw [cu]|skip
              refine D4 83 V Wh (A9 (cs:=#[_,_,_,_,_,_,_,_,_,_,_,_,_,_,_]) HP F1 Y (by exact B8 _) (by exact BA V)) ?_;refine D4 84 V Wh (A9 (cs:=#[_,_,_,_,_,_,_,_,_,_,_,_,_,_,_]) HP F1 Y (by exact B8 _) (by exact BA V)) ?_;refine Yw 85 77371252455336267181195263 V (Zu [_,_] Y call19 Y V (uK X X)) ?_;rintro _ _ ⟨rfl,rfl⟩;rw [CA x9];refine A2 86 V (AR Y Y)<|A2 87 V (AJ Y)<|Ck (t:=136) Y (fun cO=>?_) (fun cO=>?_);·
               first|rw [CA cO]|rw [cO]|skip
               refine D4 88 V Wh (A9 (cs:=#[_,_,_,_,_,_,_,_,_,_,_,_,_,_,_]) HP F1 Y (by exact B8 _) (by exact BA V)) ?_;refine D4 89 V Wh (A9 (cs:=#[_,_,_,_,_,_,_,_,_,_,_,_,_,_,_]) HP F1 Y (by exact B8 _) (by exact BA V)) ?_;refine Yw 90 2475880078570760549798248447 V (Zu [_,_] Y call19 Y V (uJ X Z)) ?_;rintro _ _ ⟨rfl,rfl⟩;rw [Bm y5];refine B1 91 V (Cj Y)<|A2 92 V (AR Y Y)<|A2 93 V (AJ Y)<|Ck (t:=142) Y (fun d9=>?_) (fun d9=>?_);·
                first|rw [CA d9]|rw [d9]|skip
                refine B1 94 V (AJ Y)<|B1 95 V (Bb (n:=50) Y Y)<|A2 96 V (AR Y Y)<|A2 97 V (BF Y)<|Ao<|Zn [0] ?_;refine Zx<|AA<|AC V results4 Y (by exact ⟨V,V⟩)
               first|rw [Bm d9]|rw [d9]|skip
               cases d9
              first|rw [Bm cO]|rw [cO]|skip
              cases cO
             first|rw [Bm cu]|rw [cu]|skip
             cases cu
            first|rw [Bm bn]|rw [bn]|skip
            cases bn
           first|rw [Bm bf]|rw [bf]|skip
           cases bf
          first|rw [Bm ax]|rw [ax]|skip
          cases ax
         first|rw [Bm k9]|rw [k9]|skip
         exact absurd ve k9
        first|rw [Bm k8]|rw [k8]|skip
        exact absurd qa k8
       first|rw [Bm k7]|rw [k7]|skip
       exact absurd qc k7
      first|rw [Bm k6]|rw [k6]|skip
      exact absurd tT k6
     first|rw [Bm k5]|rw [k5]|skip
     exact absurd q9 k5
    first|rw [Bm k4]|rw [k4]|skip
    exact absurd vo k4
   first|rw [Bm k3]|rw [k3]|skip
   cases k3
  first|rw [Bm k2]|rw [k2]|skip
  cases k2
 first|rw [Bm k1]|rw [k1]|skip
 cases k1
theorem YZ{rs:List AY}(O:BL rs)(hn:rs.length<=2000)(E:∀r∈rs,r.ok)(t c:Nat)(lo hi:Int)(m:lo<=hi)(y:-1000000000<=lo)(g:hi<=1000000000):RgB (Eb rs t c lo hi) 0:=by
 obtain ⟨Z,h2,h3,I,J,K⟩:=cB O hn E t c lo hi m y g;obtain ⟨_,_,U,X,G⟩:=K;exact ⟨by omega,by omega,h2,by omega,by omega,I,J,fun r M=>by have:=G r M;omega⟩
theorem uY{rs:List AY}(E:BL rs)(hn:rs.length<=2000)(g:∀r∈rs,r.ok){q:QM}(G:BS q):∀x∈Em rs q,RgB x 0:=fun x hx=>by
 have m:=G.2.2.1;unfold Em at hx;rcases E4.1 hx with rfl|hx
 · exact YZ E hn g _ _ _ _ m.2.1 m.1 m.2.2
 · split at hx
   · obtain ⟨r,I,rfl⟩:=GB.1 hx
     have y:=NF (g r (GV I)) q.bq;exact YZ E hn g _ _ _ _ (cT _) y.1 y.2
   · cases hx
theorem mP{l:List Bg}(g:DN l)(m:l.length<=20)(E:WP l){a b:Nat}(G:a<=b)(y:b<=l.length){q:QM}(I:BS q){x:JX}(h:Ed l a b q=some x):TwB x 0:=by
 obtain ⟨Z,hn⟩:=g.rows a A0;have J:=GD g m (by omega:a<=l.length) q
 have hm:=LF (Bd (l.take a)) q;have M:=FY (g.rows b y).1 (g.rows b y).2 (g.rowsOk b y) I (GD g m y q)
 obtain ⟨_,h1,h2,h3⟩:=Og M;obtain ⟨e,K⟩:=Gv g m G y I h;have h4:=K.le
 have h5:=QJ (a:=a) y;have U:=Ku g a b
 have X:=uY Z hn (g.rowsOk a A0) I;rw [e];refine ⟨?_,?_,?_,?_,?_,?_,?_,fun r O=>⟨U r O,E r (ID (HI O))⟩,X⟩<;>(simp only;omega)
theorem tL:TwB AZ0.a 0:=by
 refine ⟨?_,?_,?_,?_,?_,?_,?_,fun x hx=>(by cases hx),fun x hx=>(by cases hx)⟩<;>decide
theorem zA(M:List AU):AZ0.ok M:=⟨⟨none,0,rfl,⟨C2 _,B8 _⟩,fun i z hz=>by cases hz⟩,⟨[],⟨none,0,rfl,⟨C2 _,B8 _⟩,fun i z hz=>by cases hz⟩,rfl⟩,⟨none,0,rfl,⟨C2 _,B8 _⟩,fun i z hz=>by cases hz⟩⟩
theorem wm{M:List AU}{p:B7}{cap:Nat}{L:List RP}(h:FE M (.slice p L.length cap) L){i:Nat}{x:RP}(hx:L[i]?=some x):∃z:RPZ,z.x=x/\z.ok M/\∃g off cur T zz,p=some ⟨g,off,none⟩/\(g,Obj.cells cur T zz)∈M/\off+i*9+9<=cur.size/\cur.extract (off+i*9) (off+i*9+9)=#[I4 z.x.tb,I4 z.x.cl,I4 z.x.lo,I4 z.x.hi,I4 z.x.ct,I4 z.x.fi,.slice z.qr z.x.rows.length z.cr,.slice z.qp z.x.paths.length z.cp,.slice z.qt z.x.roots.length z.ct]:=by
 obtain ⟨Z,⟨G,E,e,_,y⟩,rfl⟩:=h;injection e with e1 _ _
 subst e1;rw [FG]at hx;cases hz:Z[i]?with
 |none=>rw [hz]at hx;cases hx
 |some z=>
  rw [hz]at hx;injection hx with hx
  obtain ⟨m,h2⟩:=y i z hz;exact ⟨z,hx,m,h2⟩
theorem Vw{α β:Type}{f:α->List β}{l:List α}{i:Nat}{x:α}(hx:l[i]?=some x):(l.take (i+1)).flatMap f=(l.take i).flatMap f++f x:=by
 rw [Kx,hx,Ly];simp
theorem jO{M:List AU}{p:B7}{cap a:Nat}{l:List Bg}(h:Cw M (.slice p l.length cap) l)(m:a<=l.length):Cw M (.slice (EF p a cap 2) (l.length -a) (cap -a)) (l.drop a):=by
 have g:=Ma h m (B8 _);rwa [HK (by rw [C0];exact B8 _)]at g
theorem iU{l:List Bg}(m:DN l)(a:Nat):∀r∈l.drop a,E9 r.p r.cs:=fun r y=>by
 obtain ⟨j,g⟩:=H4 y;rw [Hh]at g;exact (m _ r g).1.ok
set_option maxHeartbeats 2000000 in
theorem UG{M:List AU}{p:B7}{cap:Nat}{l:List Bg}(O:Cw M (.slice p l.length cap) l)(y:DN l)(y5:l.length<=20){z:Fq}(hz:z.ok M){a:Nat}(ha:a<=l.length)(vz:z.a.base=(a:Int))(hB:TwB z.a 3)(hv:∀x∈z.a.ranges,Ke (Dr l a).st x)(gy:∀r∈z.a.recs,E9 r.p r.cs):Bz prog 13 #[.slice p l.length cap,.agg #[I4 z.a.q.kd,I4 z.a.q.tb,I4 z.a.q.cl,I4 z.a.q.lo,I4 z.a.q.hi,I4 z.a.q.bq,I4 z.a.q.ot,.slice z.rp z.a.res.rows.length z.rc,I4 z.a.res.val,.bool z.a.res.fnd,I4 z.a.since,I4 z.a.until_,I4 z.a.base,.slice z.gp z.a.ranges.length z.gc,.slice z.cp z.a.recs.length z.cc]] [M] (fun r H'=>∃v1 v2 s1 s2,r= .tuple #[v1,v2]/\BZ 1 9 v1 (z.a.ranges.flatMap CV++CK (Dr l a).ch z.a.recs).length ((z.a.ranges.flatMap CV++CK (Dr l a).ch z.a.recs).map Ci) s1/\BZ 1 9 v2 (Kc (Bd (l.take a))++CK (Dr l a).ch (l.drop a)).length ((Kc (Bd (l.take a))++CK (Dr l a).ch (l.drop a)).map Ci) s2/\H'=[s1,s2,M]):=by
 have y9:=mL;have wo:=hB.nr
 have wz:=hB.nc;have I:=(Fj y A0 a ha).1.2.1
 have gq:l.length<=cap:=by obtain ⟨p9,qg,e9,⟨_,gq⟩,_⟩:=id O;injection e9 with e91 e92 e93;subst e93;exact gq
 refine Se func13 ntmps13 [0,1] ?_;intro u R;refine A1<|Ze (Bx #[I4 z.a.q.kd,I4 z.a.q.tb,I4 z.a.q.cl,I4 z.a.q.lo,I4 z.a.q.hi,I4 z.a.q.bq,I4 z.a.q.ot,.slice z.rp z.a.res.rows.length z.rc,I4 z.a.res.val,.bool z.a.res.fnd,I4 z.a.since,I4 z.a.until_,I4 z.a.base,.slice z.gp z.a.ranges.length z.gc,.slice z.cp z.a.recs.length z.cc])<|AF fun bz=>Za Y<|A3 Y<|A1<|Zm Y<|Zc [_] Y call8 Y V (QE O y A0) ?_;rintro _ _ ⟨_,⟨sh,qa,rfl⟩,rfl⟩;obtain ⟨gh,ch,qh,zh,rfl,rfl,hw⟩:=TY qa A0;have K:=hw a A0
 obtain ⟨G,o9⟩:∃h,h=Dr l a:=⟨_,rfl⟩;rw [<-o9]at K hv I⊢;refine A3 Y<|A1<|Zh 12 BW V rfl A5 Y<|Zl AE Y ?_;first|refine Ap (Jl Y Y) ?_|refine Ap (Kz Y Y) ?_
 refine Zm Y<|Zv (AP Fl Y) ?_;first|refine Ap (Ky Y Y) ?_|refine Ap (Vb Y Y) ?_
 refine AH Y<|Zn [0,3,6,7] ?_;refine Zx<|Zq ?_;rw [show min (max z.a.base 0) (l.length:Int)=(a:Int) by omega];refine Zg<|A3 Y<|Zq<|A1<|A3 Y<|AX<|Bl<|Zb [8,9,0,3,6,7] ?_;refine BB (e0:=[(8,_),(9,_)]) (fun m e H=>∃(i:Nat) (vo:A4) (so:List AU),m=z.a.ranges.length -i/\(i<=z.a.ranges.length/\BZ 1 9 vo ((z.a.ranges.take i).flatMap CV).length (((z.a.ranges.take i).flatMap CV).map Ci) so)/\e=[(8,vo),(9,I4 (i:Int))]/\H=[so]) (by exact ⟨0,.slice none 0 0,[],V,⟨C2 _,Ba 1 _⟩,V,V⟩) Wp ?_;rintro _ _ _ ⟨i,vo,so,rfl,⟨hi,U⟩,rfl,rfl⟩;obtain ⟨qo,co,rfl⟩:=U.form;have o8:=aQ hB.rg i
 refine Zq<|A1<|Zm Y<|Zh 13 BW V rfl DB Y<|Zl E0 Y ?_;refine Zv (AP DQ Y) ?_;first|refine Ap (Au Y Y) ?_|refine Ap (ET Y Y) ?_
 refine Z0<|Zx ?_;first|refine Ak Y (fun ax=>?_) (fun ax=>?_)|refine Ad Y (fun ax=>?_) (fun ax=>?_)
 ·
  obtain ⟨x,hx⟩:∃x,z.a.ranges[i]?=some x:=⟨_,zn A0⟩;have l9:=Cd hx
  have kz:=hv x l9;obtain ⟨q1,q2,q3,q4,q5,q6,q7,q8⟩:=hB.rg x l9;have x9:=XQ q7 q5 q3
  obtain ⟨E,qb,pg,g,off,cur,T,zz,pq,p8,qx,gm⟩:=wm hz.2.1 hx;rw [pq];subst qb;have pz:=pg.rp
  refine AB<|Zx<|Zq<|AX<|Zg<|Zm Y<|Zh 13 BW V rfl DB Y<|Zl E0 Y ?_;refine Zm Y<|Ap (AO DQ DE Y Y CT)<|Ca (cs:=[(g,.cells cur T zz)]) (by simp [p8]) (A9 (cs:=#[I4 E.x.tb,I4 E.x.cl,I4 E.x.lo,I4 E.x.hi,I4 E.x.ct,I4 E.x.fi,.slice E.qr E.x.rows.length E.cr,.slice E.qp E.x.paths.length E.cp,.slice E.qt E.x.roots.length E.ct]) LI DE Y A0 gm) rfl rfl ?_;refine Zc [_] Y call38 Y V (X4 (M:=M) pz kz.comp q5 q6 q7 (Un kz)) ?_;rintro _ _ ⟨_,⟨sw,l8,rfl⟩,rfl⟩;obtain ⟨qp,cp,rfl⟩:=l8.form;refine Ze (BR (by_:=16) (sz:=1) Bk (V:Tryz.prog.info? 9=some Tryz.t9) V rfl V rfl Y (U) Y (Ig l8) Wo Wo (by exact Je _) A0 A0) ?_;rintro _ _ ⟨yt,X,rfl⟩;obtain ⟨tT,r9,rfl⟩:=X.form;refine AH Y<|Zn [0,3,6,7,8,9] ?_;refine A8<|Zx<|Zg<|Zm Y ?_;first|(refine Ap (Bp (n:=1) Y Y ?_) ?_;(focus (omega)))|(refine Ap (EU Y Y (IntWalk.i64_in _ ?_)) ?_;(focus (omega)))
  refine AH Y<|Zn [8,9,0,3,6,7] ?_;refine AZ (e':=[(8,_),(9,_)]) (by exact ⟨i+1,_,_,rfl,⟨by omega,BH X (by rw [Vw hx,zq]) (by rw [Vw hx,Dg])⟩,rfl,rfl⟩)
 have ei:i=z.a.ranges.length:=by omega
 subst ei;rw [G0]at U o8⊢;refine Aw<|Zt<|Zt<|AQ<|Zx<|Zq<|BJ (n:=10) (0::0::0::6::14::0::32::126::255::511::[]) 384 AG AG rfl<|A2 0 rfl (AJ Y)<|A2 1 rfl (AJ Y)<|A2 2 rfl (AJ Y)<|A2 3 rfl (AO My DG Y Y CT)<|Fc 4 rfl Wh (A9 (cs:=#[I4 G.p,.string (str G.ch),.string (str G.st)]) HC DG Y (K).1 (K).2) ?_;refine A2 5 V (AV (off:=14) BW V rfl Kf Y)<|B2 6 V MY Y ?_;refine Zz (l:=[7])<|BE [false,false] [] V rfl (Zw [_,_] Y call39 Y V (Qy G I hz.2.2 gy A0)) ?_ Co Ay;rintro _ _ ⟨_,⟨sc,cu,rfl⟩,rfl⟩;refine ⟨Ae,?_⟩;have qw:=Gc G.ch z.a.recs
 obtain ⟨qc,qz,rfl⟩:=cu.form;refine Yw 8 511 V (BR (by_:=16) (sz:=1) Bk (V:Tryz.prog.info? 9=some Tryz.t9) V rfl V rfl Y (U) Y (Ig cu) Wo Wo (by exact Je _) A0 A0) ?_;rintro _ _ ⟨za,Z,rfl⟩;have lv:=BH Z (n':=(z.a.ranges.flatMap CV++CK G.ch z.a.recs).length) (xs':=(z.a.ranges.flatMap CV++CK G.ch z.a.recs).map Ci) (by rw [zq]) (by rw [Dg])
 obtain ⟨ve,sj,rfl⟩:=Z.form;refine A2 9 V (BF Y)<|Ao<|Zn [0,6,7,8] ?_;refine Zx<|A1<|Zm Y<|Zm Y<|Zc [_,_] Y call40 Y V (yF p cap l M O y A0 a ha) ?_;rintro _ _ ⟨_,⟨rp,w,sv,rfl,kv,rfl⟩,rfl⟩;obtain ⟨bn,bf⟩:=y.rows a ha;have J:=y.rowsOk a ha
 have d9:=ru bn bf J;obtain ⟨rs,q9⟩:∃r,r=Bd (l.take a):=⟨_,rfl⟩;rw [<-q9]at bn bf J d9 kv⊢;refine Zm Y<|Zd Y rfl<|Zd Y rfl<|Za Y<|A3 Y<|Zq<|BJ (n:=14) (0::0::2::0::0::24::56::0::0::384::1022::2046::4095::8191::[]) 3076 AG AG rfl<|A2 0 rfl (AJ Y)<|A2 1 rfl (AJ Y)<|A2 3 rfl (AJ Y)<|A2 4 rfl (AJ Y)<|A2 5 rfl (AO My DG Y Y CT)<|Fc 6 rfl Wh (A9 (cs:=#[I4 G.p,.string (str G.ch),.string (str G.st)]) HC DG Y (K).1 (K).2) ?_;refine A2 7 rfl (AJ Y)<|A2 8 rfl (AJ Y)<|A2 9 rfl (Bn Fl E6 Y Y CT)<|Zz (l:=[2])<|BE [true] [(6,(_,_))] rfl rfl (Zw [_] Y call41 Y rfl (uH rp (a:Int) w rs sv kv bf bn J)) ?_ Co Ay;rintro _ _ ⟨_,⟨sA,hA,rfl⟩,rfl⟩;refine ⟨Zk (Ae),?_⟩;obtain ⟨qA,cA,rfl⟩:=hA.form;refine Zz (l:=[10])<|BE [false] [] rfl rfl (Zw [_,_] Y call39 Y rfl (Qy G I (jO O ha) (iU y a) (by rw [C0];omega))) ?_ Co Ay;rintro _ _ ⟨_,⟨sd,cO,rfl⟩,rfl⟩;refine ⟨Ae,?_⟩;have ek:=Gc G.ch (l.drop a)
 rw [C0]at ek;obtain ⟨qd,cd,rfl⟩:=cO.form;refine Yw 11 4095 V (BR (by_:=16) (sz:=1) Bk (V:Tryz.prog.info? 9=some Tryz.t9) V rfl V rfl Y (hA) Y (Ig cO) Wo Wo (by exact Je _) A0 A0) ?_;rintro _ _ ⟨zb,af,rfl⟩;have mR:=BH af (n':=(Kc rs++CK G.ch (l.drop a)).length) (xs':=(Kc rs++CK G.ch (l.drop a)).map Ci) (by rw [zq]) (by rw [Dg])
 obtain ⟨vw,sO,rfl⟩:=af.form;refine A2 12 V (BF Y)<|A2 13 V (BF Y)<|Ao<|Zn [4,5] ?_;refine Zx<|AA<|Dv V results13 Y Y (by exact ⟨_,_,_,_,V,lv,mR,V⟩)
theorem rA(rs:List AY)(q:QM):(D5 rs q).rows.length<=2*rs.length:=by
 have g:(CX rs q).length<=rs.length:=(@Lf rs q.tb q.cl.toNat q.lo q.hi).1;have h2:=TS q (CX rs q) (G9 rs q.ot)
 unfold D5 EZ;split;· simp
 · split
   · simp
   · split
     · rw [show(Ej (fun a b=>decide (a<b)) (Cy q (CX rs q))).rows=[] from NV (fun a b=>decide (a<b)) (Cy q (CX rs q)) CP.none];simp
     · split
       · rw [show(Ej (fun a b=>decide (b<a)) (Cy q (CX rs q))).rows=[] from NV (fun a b=>decide (b<a)) (Cy q (CX rs q)) CP.none];simp
       · split<;>(simp only;omega)
theorem vN{base u:Ct}{z:JX}(h:Ee base u z):BS z.q:=by
 obtain ⟨_,_,_,_,y,g,_⟩:=h;unfold EG at g;cases hst:Cz z.q z.ranges with
 |none=>rw [hst]at g;cases g
 |some r=>exact (Og hst).1
theorem Y0{l:List Bg}(m:DN l)(G:l.length<=20){a b:Nat}(I:a<=b)(Z:b<=l.length){z:JX}(E:TwB z 3){g h2:Ct}(e1:g=Dr l a)(e2:h2=Dr l b)(hc:Ee g h2 z):BS z.q/\z.base=(a:Int)/\z.until_=(b:Int)/\(∀x∈z.ranges,Ke g.st x)/\(∀r∈z.recs,E9 r.p r.cs)/\(Rn l a b z\/NC (z.ranges.flatMap CV++CK g.ch z.recs) (Kc (Bd (l.take a))++CK g.ch (l.drop a)))/\(z.ranges.flatMap CV++CK g.ch z.recs).length<=1000000000000/\(∀s∈(z.ranges.flatMap CV++CK g.ch z.recs),s.length<=140737488354000)/\(Kc (Bd (l.take a))++CK g.ch (l.drop a)).length<=1000000000000/\∀s∈(Kc (Bd (l.take a))++CK g.ch (l.drop a)),s.length<=140737488354000:=by
 subst e1 e2;obtain ⟨M,O,_⟩:=Fj m A0 a A0;obtain ⟨_,K,_⟩:=Fj m A0 b Z;have hv:=hc.2.2.2.1
 have hr:=(Jy _ hc.2.2.1.2.2).2.2;have hn:=aQ E.rg z.ranges.length
 have hs:=rJ E.rg hv;have ax:=E.nr
 have af:=E.nc;have y:=M.2.1
 obtain ⟨X,U⟩:=m.rows a A0;have J:=ru X U (m.rowsOk a A0)
 rw [G0]at hn;refine ⟨vN hc,hc.1.symm.trans O,hc.2.1.symm.trans K,hv,hr,tN m G I Z hc,?_,fun s h=>?_,?_,fun s h=>?_⟩;· rw [zq,Gc];omega
 · rcases DM.1 h with h9|h9
   · exact hs s h9
   · exact ME y _ hr s h9
 · rw [zq,Gc,C0];omega
 · rcases DM.1 h with h9|h9
   · have:=J.1 s h9;omega
   · exact ME y _ (iU m a) s h9
theorem mU{E s M:List AU}{z:Fq}(hz:z.ok (E++s))(Z:TwB z.a 0){G:A4}{ws:List ah}(hW:Qm M G ws):Bz prog 7 #[.agg z.Ao7,G] [E,s,M] (fun r H'=>∃(y:Fq) (E2:List AU),r= .agg y.Ao7/\y.ok (E2++(s++M))/\TwB y.a 3/\H'=[E2,s,M]):=by
 refine Dw (mV (M:=E++(s++M)) (hz.mono fun c hc=>by rw [<-D2];exact E3 _ hc) Z (ws:=ws) ?_) B3 ?_
 · obtain ⟨p,cap,m,h2,J⟩:=hW
   refine ⟨p,cap,m,h2,fun i w hw=>?_⟩;obtain ⟨K,g,off,cur,T,zz,O,U,X⟩:=J i w hw;exact ⟨K,g,off,cur,T,zz,O,DA _ (DA _ U),X⟩
 · rintro w H' ⟨y,I,rfl,m,h2,rfl⟩
   exact ⟨_,⟨y,I++E,V,by simpa only [D2]using m,h2,V⟩,by simp⟩
theorem vP{E s M:List AU}(base until_:Ct){z:Fq}(hz:z.ok (E++(s++M)))(g:TwB z.a 3)(m:AM)(I:Nat×Nat)(G:Addr)(y:AM)(J:Nat×Nat):BC prog 9 #[.agg #[I4 base.p,.string (str base.ch),.string (str base.st)],.agg #[I4 until_.p,.string (str until_.ch),.string (str until_.st)],.agg z.Ao7] [[(1,.cells (Di.map CB).toArray m I)],E,s,M,[(0,.cells #[.iface 339 (.pointer (some G))] y J)]] (.bool (decide (Ee base until_ z.a))):=by
 have O:=g.nr;have h2:=g.base
 refine Dw (vM base until_ hz (fun x hx=>⟨fun s K=>by have:=(g.rg x hx).rl s K;omega,(g.rg x hx).pl⟩) A0 A0 (fun x hx=>(g.cs x hx).1) m I G y J) B3 ?_;rintro r H' ⟨rfl,rfl⟩;exact ⟨_,⟨V,V⟩,by simp⟩
theorem vI{A E s M:List AU}{g m:A4}{x y:CP}(G:Da A g x.rows)(I:Da (E++(s++M)) m y.rows):BC prog 12 #[.agg #[g,I4 x.val,.bool x.fnd],.agg #[m,I4 y.val,.bool y.fnd]] [A,E,s,M] (.bool (decide (x=y))):=by
 refine Dw (Tt (M:=A++(E++(s++M))) (G.mono (fun c hc=>E3 _ hc)) (I.mono (fun c hc=>DA A hc))) B3 ?_;rintro r H' ⟨rfl,rfl⟩;exact ⟨_,⟨V,V⟩,by simp⟩
theorem xW{E s M:List AU}{p:B7}{cap:Nat}{l:List Bg}(J:Cw s (.slice p l.length cap) l)(m:DN l)(O:l.length<=20){z:Fq}(hz:z.ok (E++(s++M))){a:Nat}(Z:a<=l.length)(K:z.a.base=(a:Int))(X:TwB z.a 3){g:Ct}(U:g=Dr l a)(hv:∀x∈z.a.ranges,Ke g.st x)(y:∀r∈z.a.recs,E9 r.p r.cs):Bz prog 13 #[.slice p l.length cap,.agg z.Ao7] [E,s,M] (fun r H'=>∃G I s1 s2,r= .tuple #[G,I]/\BZ 1 9 G (z.a.ranges.flatMap CV++CK g.ch z.a.recs).length ((z.a.ranges.flatMap CV++CK g.ch z.a.recs).map Ci) s1/\BZ 1 9 I (Kc (Bd (l.take a))++CK g.ch (l.drop a)).length ((Kc (Bd (l.take a))++CK g.ch (l.drop a)).map Ci) s2/\H'=[s1,s2,E,s,M]):=by
 subst U;refine Dw (UG (M:=E++(s++M)) (Ey J fun c hc=>DA _ (E3 _ hc)) m O hz Z K X hv y) B3 ?_;rintro r H' ⟨G,I,s1,s2,rfl,g,h2,rfl⟩;exact ⟨_,⟨G,I,s1,s2,V,g,h2,V⟩,by simp⟩
set_option maxHeartbeats 4000000 in
theorem j3{M:List AU}{v:A4}{xs:List (List Int)}(hX:Pm M v xs)(q0 q1 q2 q3 q4 cb cu:Int)(lv:-9223372036854775808<=q0)(mR:q0<=9223372036854775807)(o8:-9223372036854775808<=q1)(o9:q1<=9223372036854775807)(p8:-9223372036854775808<=q2)(pg:q2<=9223372036854775807)(pq:-9223372036854775808<=q3)(pz:q3<=9223372036854775807)(q8:-9223372036854775808<=q4)(q9:q4<=9223372036854775807)(ek:-9223372036854775808<=cb)(gm:cb<=9223372036854775807)(gq:-9223372036854775808<=cu)(gy:cu<=9223372036854775807){tw:A4}{ws:List ah}(hT:Qm M tw ws)(Tg:AM)(zg:Nat×Nat)(pa:Addr)(Tx:AM)(zx:Nat×Nat):BC prog 3 #[.agg #[v,I4 q0,I4 q1,I4 q2,I4 q3,I4 q4,I4 cb,I4 cu,tw]] [[(1,.cells (Di.map CB).toArray Tg zg)],[(0,.cells #[.iface 339 (.pointer (some pa))] Tx zx)],M] (.bool true):=by
 have y5:=mL;refine Se func3 ntmps3 [0] ?_;intro u R;refine A1<|Ze (Bx #[v,I4 q0,I4 q1,I4 q2,I4 q3,I4 q4,I4 cb,I4 cu,tw])<|AF fun bc=>A3 Y<|A1<|Xr [] Y call4 Y V (wY Tg zg) ?_;refine A3 Y<|A1<|Zo Wh (A9 (cs:=#[_,_,_,_,_,_,_,_,_]) isAgg26 sizeOf26 Y (by first|omega|decide|exact B8 _|(simp;done)|(simp;omega)) (by exact BA rfl)) ?_;refine Zc [_] Y call5 Y V (Yc hX q0 q1 q2 q3 q4 cb cu lv mR o8 o9 p8 pg pq pz q8 q9 ek gm gq gy tw) ?_;rintro _ _ ⟨_,⟨l,p,cap,s,q,a,b,g,O,U,hq,Z,hb,rfl,rfl⟩,rfl⟩;obtain ⟨O,af⟩:=O;obtain ⟨p9,vo,e9,⟨wz,x9⟩,wo⟩:=id U;injection e9 with e91 e92 e93
 subst e91 e93;refine Zm Y<|Zd Y V<|Zd Y V<|Zd Y V<|Zd Y V<|Ze (Al Pr #[_,_,_,_,_,_,_])<|AF fun bq=>Za Y<|Xe (Xw CM #[I4 q.kd,I4 q.tb,I4 q.cl,I4 q.lo,I4 q.hi,I4 q.bq,I4 q.ot]) ?_;refine Za Y<|AH Y<|Zn [1,3,4,5,6,7] ?_;refine Zx<|A1<|Zm Y<|Zm Y<|Zm Y<|Zo Wh (A9 (cs:=#[_,_,_,_,_,_,_]) F2 CM Y (by first|omega|decide|exact B8 _|(simp;done)|(simp;omega)) (by exact BA rfl)) ?_;refine Zc [_,_,_,_] Y call6 Y V (XY U g O a b Z hb q hq Tg zg) ?_;rintro _ _ ⟨_,⟨I,E1,t1,ve,qc,tT,K,rfl,rfl⟩,rfl⟩;obtain ⟨L1,qg⟩:∃L,L=Em (Bd (l.take a)) q:=⟨_,rfl⟩;rw [<-qg]at K⊢;have qb:I.ok (E1++s)/\TwB I.a 0:=by rcases tT with⟨_,h8,G⟩|⟨_,_,G⟩;exact ⟨G,mP g O af Z hb hq h8⟩;subst G;exact ⟨zA _,tL⟩
 refine Zm Y<|Zd Y V<|Zd Y V<|Zd Y V<|Ze (Al Wg #[_,_,_,_,_,_,_,_,_,_])<|AF fun b3=>Ze (Al Hv #[_,_,_,_,_,_,_,_,_,_,_,_,_,_,_])<|AF fun b4=>Xe (Xw Vc #[I4 q.kd,I4 q.tb,I4 q.cl,I4 q.lo,I4 q.hi,I4 q.bq,I4 q.ot,I4 0,I4 (a:Int),.slice ve L1.length qc]) ?_;refine Xe (Xw F1 #[I4 I.a.q.kd,I4 I.a.q.tb,I4 I.a.q.cl,I4 I.a.q.lo,I4 I.a.q.hi,I4 I.a.q.bq,I4 I.a.q.ot,.slice I.rp I.a.res.rows.length I.rc,I4 I.a.res.val,.bool I.a.res.fnd,I4 I.a.since,I4 I.a.until_,I4 I.a.base,.slice I.gp I.a.ranges.length I.gc,.slice I.cp I.a.recs.length I.cc]) ?_;refine AH Y<|Zn [1,3,4,6,7,9] ?_;refine Zx<|A1<|Zo Wh (A9 (cs:=#[_,_,_,_,_,_,_,_,_,_,_,_,_,_,_]) HP F1 Y (by first|omega|decide|exact B8 _|(simp;done)|(simp;omega)) (by exact BA rfl)) ?_;refine Zh 8 aq V rfl sizeOf24 Y<|Zl isAgg24 Y ?_;refine Zc [_,_] Y call7 Y V (mU qb.1 qb.2 hT) ?_;rintro _ _ ⟨_,⟨y,E,rfl,hy,d9,rfl⟩,rfl⟩;refine Xe (Xw F1 #[I4 y.a.q.kd,I4 y.a.q.tb,I4 y.a.q.cl,I4 y.a.q.lo,I4 y.a.q.hi,I4 y.a.q.bq,I4 y.a.q.ot,.slice y.rp y.a.res.rows.length y.rc,I4 y.a.res.val,.bool y.a.res.fnd,I4 y.a.since,I4 y.a.until_,I4 y.a.base,.slice y.gp y.a.ranges.length y.gc,.slice y.cp y.a.recs.length y.cc]) ?_;refine AD<|A1<|Zm Y<|Zc [_] Y call8 Y V (QE U g A0) ?_;rintro _ _ ⟨_,⟨sh,sO,rfl⟩,rfl⟩;obtain ⟨gh,ch,vw,zh,rfl,rfl,hw⟩:=TY sO A0;have bn:=hw a A0
 have cO:=hw b A0;obtain ⟨X,ax⟩:∃h,h=Dr l a:=⟨_,rfl⟩;obtain ⟨h2,kz⟩:∃h,h=Dr l b:=⟨_,rfl⟩;rw [<-ax]at bn;rw [<-kz]at cO;refine A3 Y<|Zq<|Zq<|BJ (n:=11) (0::0::3::7::0::0::48::112::0::511::1023::[]) 512 AG AG rfl<|A2 0 rfl (AJ Y)<|A2 1 rfl (AJ Y)<|A2 2 rfl (AO My DG Y Y (by first|omega|decide|exact B8 _|(simp;done)|(simp;omega)))<|Fc 3 rfl Wh (A9 (cs:=#[I4 X.p,.string (str X.ch),.string (str X.st)]) HC DG Y (bn).1 (bn).2) ?_;refine A2 4 rfl (AJ Y)<|A2 5 rfl (AJ Y)<|A2 6 rfl (AO My DG Y Y (by first|omega|decide|exact B8 _|(simp;done)|(simp;omega)))<|Fc 7 rfl Wh (A9 (cs:=#[I4 h2.p,.string (str h2.ch),.string (str h2.st)]) HC DG Y (cO).1 (cO).2) ?_;refine Fc 8 rfl Wh (A9 (cs:=#[_,_,_,_,_,_,_,_,_,_,_,_,_,_,_]) HP F1 Y (by first|omega|decide|exact B8 _|(simp;done)|(simp;omega)) (by exact BA rfl)) ?_;refine Yw 9 1023 V (Zu [_,_,_] Y call9 Y V (vP X h2 hy d9 Tg zg pa Tx zx)) ?_;rintro _ _ ⟨rfl,rfl⟩;first|refine Bq (D':=2047) 10 (C9 Y) ?_|refine Bq (D':=2047) 10 (Cj Y) ?_
 refine Ao<|Zn [3,4,6,7,9,53] ?_;refine Zx<|Ad Y (fun k1=>?_) (fun k1=>?_);·
  refine A1<|Zm Y<|A3 Y<|AA<|Zt<|AC V results3 Y (by exact ⟨V,V⟩)
 have r9:Ee X h2 y.a:=by simpa using k1
 obtain ⟨f1,f2,f3,f4,f5,f6,f7,f8,f9,qd⟩:=Y0 g O Z hb d9 ax kz r9;refine AB<|Zx<|Zb [3,4,6,7,9] ?_;refine CL (e0:=[]) (H0:=[]) (fun e H=>∃(t9:Bool),((Rn l a b y.a->t9=true))/\e=[(12,.bool t9)]/\H=[]) Wp ?hx_3 ?hy_3
 case hx_3=>
  refine Zg<|Zh 12 BW V rfl A5 Y<|Zl AE Y ?_;refine Zm Y ?_;first|refine Ap (Bb Y Y) ?_|refine Ap (Br Y Y) ?_
  refine Zm Y ?_;first|refine Ai (t:=59) Y rfl (fun k2=>?_) (fun k2=>?_)|refine Ah (t:=59) Y rfl (fun k2=>?_) (fun k2=>?_)
  ·
   refine Yf 11 BW V rfl A5 Y<|Yl AE Y ?_;refine Zf Y Y ?_;first|refine DV Y (Bb Y Y) rfl rfl ?_|refine DV Y (Br Y Y) rfl rfl ?_
   refine Zv (AR Y Y)<|Zm Y ?_;first|refine Ai (t:=65) Y rfl (fun k3=>?_) (fun k3=>?_)|refine Ah (t:=65) Y rfl (fun k3=>?_) (fun k3=>?_)
   ·
    refine Yf 10 BW V rfl A5 Y<|Yl AE Y ?_;refine Zf Y Y ?_;first|refine DV Y (Fw Y Y) rfl rfl ?_|refine DV Y (I1 Y Y) rfl rfl ?_
    refine Zv (AR Y Y)<|Zm Y ?_;first|refine Ai (t:=71) Y rfl (fun k4=>?_) (fun k4=>?_)|refine Ah (t:=71) Y rfl (fun k4=>?_) (fun k4=>?_)
    ·
     refine Yf 10 BW V rfl A5 Y<|Yl AE Y ?_;refine Zf Y Y ?_;first|refine DV Y (L6 Y Y) rfl rfl ?_|refine DV Y (KI Y Y) rfl rfl ?_
     refine Zv (AR Y Y)<|AH Y<|Zn [12,3,4,6,7,9] ?_;refine Aq (e':=[(12,_)]) (by first|exact ⟨_,fun G=>CA G.hi,rfl,rfl⟩|exact ⟨false,fun G=>absurd G.lo k4,rfl,rfl⟩)
    refine A7 Y V<|A7 Y V<|A7 Y V<|A7 Y V<|Zv (AL Y Y)<|AH Y<|Zn [12,3,4,6,7,9] ?_;refine Aq (e':=[(12,_)]) (by first|exact ⟨_,fun G=>CA G.hi,rfl,rfl⟩|exact ⟨false,fun G=>absurd G.lo k4,rfl,rfl⟩)
   exact absurd f3 k3
  exact absurd f2 k2
 rintro _ _ ⟨t9,l9,rfl,rfl⟩;refine Zq<|A1<|Zh 10 BW V rfl A5 Y<|Zl AE Y ?_;refine Zm Y ?_;first|refine Ap (Jl Y Y) ?_|refine Ap (Kz Y Y) ?_
 refine A3 Y<|AX ?_;obtain ⟨p0,sw⟩:∃p0:Nat,max y.a.since (a:Int)=(p0:Int):=⟨(max y.a.since (a:Int)).toNat,by omega⟩;rw [sw];refine Zb [12,13,3,4,7,9] ?_;refine BB (e0:=[(12,_),(13,_)]) (fun m e H=>∃(p:Nat) (t8:Bool),m=b+1 -p/\((a<=p/\y.a.since<=(p:Int))/\(Rn l a b y.a->t8=true))/\e=[(12,.bool t8),(13,I4 (p:Int))]/\H=[]) (by exact ⟨p0,t9,V,⟨⟨by omega,by omega⟩,l9⟩,V,V⟩) Wp ?_;rintro _ _ _ ⟨p,t8,rfl,⟨⟨vz,qa⟩,J⟩,rfl,rfl⟩;refine Zq<|A1<|Zm Y<|Zm Y ?_;first|refine Ap (L6 Y Y) ?_|refine Ap (KI Y Y) ?_
 refine Z0<|Zx ?_;first|refine Ak Y (fun bf=>?_) (fun bf=>?_)|refine Ad Y (fun bf=>?_) (fun bf=>?_)
 ·
  refine AB<|Zx<|Zq<|AX<|A1<|Zm Y<|Zm Y<|Zc [_,_] Y call10 Y V (wL U g A0 p A0) ?_;rintro _ _ ⟨_,⟨v1,s1,rfl,qh,rfl⟩,rfl⟩;have y9:=(g.rows p A0).2
  have l8:=g.rowsOk p A0;have kv:=rA (Bd (l.take p)) y.a.q
  obtain ⟨R1,K⟩:∃x,x=D5 (Bd (l.take p)) y.a.q:=⟨_,rfl⟩;rw [<-K]at kv;refine Zm Y<|Zd Y rfl<|Zd Y rfl<|Za Y<|A3 Y<|A1<|Zm Y<|Zh 0 BW rfl rfl CM Y<|Zo Wh (A9 (cs:=#[_,_,_,_,_,_,_]) F2 CM Y (by first|omega|decide|exact B8 _|(simp;done)|(simp;omega)) (by exact (by apply MA.1;rfl))) ?_;refine Zc [_,_] Y call11 Y V (uR _ _ _ _ qh l8 y.a.q f1) ?_;rintro _ _ ⟨_,⟨w5,m5,rfl,r5,rfl⟩,rfl⟩;rw [<-K]at r5⊢;obtain ⟨g5,c5,rfl⟩:=r5.form;have qo:=D6 r5 A0
  refine Zm Y<|Zd Y V<|Zd Y V<|Ze (Al GW #[_,_,_])<|AF fun b5=>Xe (Xw B6 #[.slice g5 R1.rows.length c5,I4 R1.val,.bool R1.fnd]) ?_;refine AH Y<|Zn [3,4,7,9,12,13,15,16,17] ?_;refine Zx<|Zg<|Zm Y<|Zm Y<|Ah (t:=100) Y V (fun k5=>?_) (fun k5=>?_);·
   refine Zf Y Y ?_;first|refine DV Y (Bb (n:=0) Y Y) rfl rfl ?_|refine DV Y (Br Y Y) rfl rfl ?_
   refine Zv (AR Y Y)<|Zm Y ?_;first|refine Ai (t:=104) Y rfl (fun k6=>?_) (fun k6=>?_)|refine Ah (t:=104) Y rfl (fun k6=>?_) (fun k6=>?_)
   ·
    refine Zf Y Y ?_;first|refine DV Y (Bb (n:=0) Y Y) rfl rfl ?_|refine DV Y (Br Y Y) rfl rfl ?_
    refine Zv (AR Y Y)<|Zm Y ?_;first|refine Ai (t:=108) Y rfl (fun k7=>?_) (fun k7=>?_)|refine Ah (t:=108) Y rfl (fun k7=>?_) (fun k7=>?_)
    ·
     refine DF Y Wh (A9 (cs:=#[_,_,_]) CC B6 Y (by first|omega|decide|exact B8 _|(simp;done)|(simp;omega)) (by first|exact BA rfl|exact rfl|exact (by apply MA.1;rfl))) rfl rfl ?_;refine Yf 7 BW rfl rfl B6 Y<|DF Y Wh (A9 (cs:=#[_,_,_]) CC B6 Y (by first|omega|decide|exact B8 _|(simp;done)|(simp;omega)) (by first|exact BA rfl|exact rfl|exact (by apply MA.1;rfl))) rfl rfl ?_;refine Xr [_,_] Y call12 Y V (vI qo hy.1) ?_;refine Zv (AR Y Y)<|AH Y<|Zn [3,4,7,9,12,13] ?_;refine A8<|Zx<|Zg<|Zm Y ?_;first|(refine Ap (Bp (n:=1) Y Y ?_) ?_;(focus (omega)))|(refine Ap (EU Y Y (IntWalk.i64_in _ ?_)) ?_;(focus (omega)))
     refine AH Y<|Zn [12,13,3,4,7,9] ?_;refine AZ (e':=[(12,_),(13,_)]) (by first|exact ⟨p+1,_,rfl,⟨⟨by omega,by omega⟩,fun G=>CA (K.trans (G.at_ p qa A0))⟩,rfl,rfl⟩|exact ⟨p+1,false,rfl,⟨⟨by omega,by omega⟩,fun G=>(J G).symm.trans k5|>.symm⟩,rfl,rfl⟩|exact ⟨p+1,false,rfl,⟨⟨by omega,by omega⟩,fun G=>by have:=J G;simp_all⟩,rfl,rfl⟩)
    exact absurd V k7
   exact absurd V k6
  refine A7 Y V<|A7 Y V<|Zv (AL Y Y)<|Zm Y<|A7 Y V<|A7 Y V<|Zv (AL Y Y)<|Zm Y<|A7 Y V<|A7 Y V<|A7 Y V<|A7 Y V<|Zv (AL Y Y)<|AH Y<|Zn [3,4,7,9,12,13] ?_;refine A8<|Zx<|Zg<|Zm Y ?_;first|(refine Ap (Bp (n:=1) Y Y ?_) ?_;(focus (omega)))|(refine Ap (EU Y Y (IntWalk.i64_in _ ?_)) ?_;(focus (omega)))
  refine AH Y<|Zn [12,13,3,4,7,9] ?_;refine AZ (e':=[(12,_),(13,_)]) (by first|exact ⟨p+1,_,rfl,⟨⟨by omega,by omega⟩,fun G=>CA (K.trans (G.at_ p qa A0))⟩,rfl,rfl⟩|exact ⟨p+1,false,rfl,⟨⟨by omega,by omega⟩,fun G=>(J G).symm.trans k5|>.symm⟩,rfl,rfl⟩|exact ⟨p+1,false,rfl,⟨⟨by omega,by omega⟩,fun G=>by have:=J G;simp_all⟩,rfl,rfl⟩)
 refine Aw<|Zt<|Zt<|AQ<|Zx<|Zq<|A1<|Zm Y ?_;first|refine Ap (C9 Y) ?_|refine Ap (Cj Y) ?_
 refine AD<|Ad Y (fun k9=>?_) (fun k9=>?_);·
  have sj:NC (y.a.ranges.flatMap CV++CK X.ch y.a.recs) (Kc (Bd (l.take a))++CK X.ch (l.drop a)):=f6.resolve_left fun G=>by have:=J G;rw [this]at k9;cases k9
  refine A1<|Zm Y<|Zo Wh (A9 (cs:=#[I4 y.a.q.kd,I4 y.a.q.tb,I4 y.a.q.cl,I4 y.a.q.lo,I4 y.a.q.hi,I4 y.a.q.bq,I4 y.a.q.ot,.slice y.rp y.a.res.rows.length y.rc,I4 y.a.res.val,.bool y.a.res.fnd,I4 y.a.since,I4 y.a.until_,I4 y.a.base,.slice y.gp y.a.ranges.length y.gc,.slice y.cp y.a.recs.length y.cc]) HP F1 Y (by first|omega|decide|exact B8 _|(simp;done)|(simp;omega)) (by exact BA rfl)) ?_;refine Zc [_,_] Y call13 Y V (xW U g O hy A0 f2 d9 ax f4 f5) ?_;rintro _ _ ⟨_,⟨v8,v9,s8,s9,rfl,qz,qA,rfl⟩,rfl⟩;have qw:=Eu (BH qz rfl rfl) A0
  have qx:=Eu (BH qA rfl rfl) A0;refine Zm Y<|Zd Y V<|Zd Y V<|Za Y<|AH Y<|Zn [3,18,19] ?_;refine Zx<|A1<|Zm Y<|Zm Y<|Ah (t:=123) Y V (fun j1=>?_) (fun j1=>?_);·
   refine Zf Y Y<|Zf Y Y<|Xr [_,_] Y call14 Y V (nu qw qx f7 f8 qd) ?_;rw [CA sj];refine Zv (AR Y Y)<|A3 Y<|AA<|Zt<|AC V results3 Y (by exact ⟨V,V⟩)
  cases j1
 refine AB<|Zx<|A1<|Zm Y<|A3 Y<|AA<|AC V results3 Y (by exact ⟨V,V⟩)
end Go.Proofs.YtlkdhannldcfbaaGreatDoor
namespace Go.Proofs.YtlkdhannldcfbaaGreatDoor
open Go.Proofs.Tryz
open Go Go.RowKit Gw
set_option maxRecDepth 100000
attribute [local irreducible] Gw.At Gw.Nx Gw.Ops
open Go.ChangeShapes Go.WideShapes Go.Deep
theorem kG{l:List A4}(h:l.length=5):∃a b c d e,l=[a,b,c,d,e]:=by
 match l,h with
 |[a,b,c,d,e],_=>exact ⟨a,b,c,d,e,rfl⟩
theorem jo{H:Type}{enc:AM×A4->H}{W:A6}{base:Nat}{held:Bool}{y:Nat}{l:List A4}{x:DataW H×List MemPlace}(h:DataW.trod enc prog W base (fun _=>true) held y 23 l=some x)(hl:l.length=5):
 ∃a b c d e:Int,l=[I4 a,I4 b,I4 c,I4 d,I4 e]/\(-9223372036854775808<=a/\a<=9223372036854775807)/\(-9223372036854775808<=b/\b<=9223372036854775807)/\(-9223372036854775808<=c/\c<=9223372036854775807)/\(-9223372036854775808<=d/\d<=9223372036854775807)/\(-9223372036854775808<=e/\e<=9223372036854775807):=by
 obtain ⟨ys,m,_,_,_,af,hf⟩:=DataW.trod_array S5 h;have g:∀j,j<5->∃n:Int,l[j]?=some (I4 n)/\-9223372036854775808<=n/\n<=9223372036854775807:=fun j g=>by
  have f:=hf j g;rw [xZ,Iv,zn A0]at f;have E:j<l.length:=by omega
  have e:(l.drop j).take 1=[l[j]]:=by rw [RC E];rfl
  rw [e]at f;obtain ⟨k,O,_,U⟩:=DataW.trod_int F0 f;injection O with O _
  exact ⟨k,by rw [zn E,O],bounds_i64 U⟩
 obtain ⟨v0,v1,v2,v3,v4,rfl⟩:=kG hl;obtain ⟨a,X,G⟩:=g 0 AK;obtain ⟨b,Z,I⟩:=g 1 AK;obtain ⟨c,hc,J⟩:=g 2 AK;obtain ⟨d,hd,K⟩:=g 3 AK;obtain ⟨e,he,M⟩:=g 4 AK;simp at X Z hc hd he;subst X Z hc hd he;exact ⟨a,b,c,d,e,V,G,I,J,K,M⟩
theorem dO{P:Program}{w:A6}{r:Reach}{base:Nat}{t:AM}{fs:Array Field}{v:A4}(m:P.underlying t=some (.struct fs))(h:Value.okWide P w r base t v):∃cs,v= .agg cs/\cs.size=P.cellsOf t:=by
 unfold Value.okWide at h;rw [m]at h;obtain ⟨cs,rfl,g,_⟩:=h;exact ⟨cs,V,g⟩
theorem xY:Tryz.prog.cellsOf 73=4:=by kernel_rfl
theorem kF{l:List A4}(h:l.length=4):∃a b c d,l=[a,b,c,d]:=by
 match l,h with
 |[a,b,c,d],_=>exact ⟨a,b,c,d,rfl⟩
theorem oW{H:Type}{enc:AM×A4->H}{W:A6}{base:Nat}{held:Bool}{y:Nat}{l:List A4}{x:DataW H×List MemPlace}(h:DataW.trod enc prog W base (fun _=>true) held y 73 l=some x)(hl:l.length=4):
 ∃a b c d:Int,l=[I4 a,I4 b,I4 c,I4 d]/\(-9223372036854775808<=a/\a<=9223372036854775807)/\(-9223372036854775808<=b/\b<=9223372036854775807)/\(-9223372036854775808<=c/\c<=9223372036854775807)/\(-9223372036854775808<=d/\d<=9223372036854775807):=by
 obtain ⟨ys,m,_,_,_,af,hf⟩:=DataW.trod_array FA h;have g:∀j,j<4->∃n:Int,l[j]?=some (I4 n)/\-9223372036854775808<=n/\n<=9223372036854775807:=fun j g=>by
  have f:=hf j g;rw [xZ,Iv,zn A0]at f;have E:j<l.length:=by omega
  have e:(l.drop j).take 1=[l[j]]:=by rw [RC E];rfl
  rw [e]at f;obtain ⟨k,M,_,O⟩:=DataW.trod_int F0 f;injection M with M _
  exact ⟨k,by rw [zn E,M],bounds_i64 O⟩
 obtain ⟨v0,v1,v2,v3,rfl⟩:=kF hl;obtain ⟨a,U,G⟩:=g 0 AK;obtain ⟨b,X,I⟩:=g 1 AK;obtain ⟨c,hc,J⟩:=g 2 AK;obtain ⟨d,Z,K⟩:=g 3 AK;simp at U X hc Z;subst U X hc Z;exact ⟨a,b,c,d,V,G,I,J,K⟩
theorem ql{cur:AN}{o:Nat}{a b c d:Int}(h:∀(j:Nat) (n:Int),[a,b,c,d][j]?=some n->cur[o+j]?=some (I4 n)):o+4<=cur.size/\cur.extract o (o+4)=#[I4 a,I4 b,I4 c,I4 d]:=by
 have g:=h 3 d rfl;have m:=(Hc.1 g).1
 refine ⟨by omega,Array.ext_getElem? fun i=>?_⟩;rw [Z1];by_cases hi:i<4
 · rw [B0 A0]
   rcases (by omega:i=0\/i=1\/i=2\/i=3)with rfl|rfl|rfl|rfl
   · exact h 0 a rfl
   · exact h 1 b rfl
   · exact h 2 c rfl
   · exact h 3 d rfl
 · rw [As A0]
   exact (I3 Lo).symm
theorem Yx{H:Type}{enc:AM×A4->H}{W:A6}{base:Nat}{held:Bool}{U X:AM}{zg zx:Nat×Nat}{pa:Addr}(h4:WK W U zg pa X zx){m:Nat}{cs:List A4}{x:DataW H×List MemPlace}(h:DataW.trod enc prog W base (fun _=>true) held m 24 cs=some x):
 ∃v xs,cs=[v]/\Qm (MZ W [1,0]) v xs:=by
 obtain ⟨p,len,cap,rfl,hl,J⟩:=TF underlying24 xY AK h;obtain ⟨xs,h1,h2⟩:=KM len (fun i (z:ah)=>((-9223372036854775808<=z.a/\z.a<=9223372036854775807)/\(-9223372036854775808<=z.b/\z.b<=9223372036854775807)/\(-9223372036854775808<=z.c/\z.c<=9223372036854775807)/\(-9223372036854775808<=z.d/\z.d<=9223372036854775807))/\∃g o cur T zz,p=some ⟨g,o,none⟩/\(g,Obj.cells cur T zz)∈MZ W [1,0]/\o+i*4+4<=cur.size/\cur.extract (o+i*4) (o+i*4+4)=#[I4 z.a,I4 z.b,I4 z.c,I4 z.d]) (fun i hi=>by
  obtain ⟨cs',n,z,E,ht,g,o,cur,T,zz,hp,M,hc⟩:=J i hi;obtain ⟨a,b,c,d,rfl,ha,G,I,hd⟩:=oW ht E;have y:∀(j:Nat) (n:Int),[a,b,c,d][j]?=some n->cur[o+i*4+j]?=some (I4 n):=fun j n O=>by
   have K:=(zt.1 O).1;rw [hc j (by simpa using K)];have h9:([a,b,c,d].map (Value.int .i64))[j]?=some (I4 n):=by rw [FG,O];rfl
   exact h9
  obtain ⟨Z,e2⟩:=ql y;exact ⟨⟨a,b,c,d⟩,⟨ha,G,I,hd⟩,g,o,cur,T,zz,hp,PO M (ZP h4 M (y 0 a V) V),Z,e2⟩)
 subst h1;exact ⟨_,xs,V,p,cap,V,hl,h2⟩
theorem xc:Tryz.prog.cellsOf 26=9:=by kernel_rfl
open Go.ChangeShapes Go.WideShapes Go.Deep
section
variable{H:Type}{enc:AM×A4->H}{W:A6}{base:Nat}{held:Bool}
theorem dN{Tg Tx:AM}{zg zx:Nat×Nat}{pa:Addr}(h4:WK W Tg zg pa Tx zx){G:Nat}{cs:List A4}{x:DataW H×List MemPlace}(h:DataW.trod enc prog W base (fun _=>true) held G 26 cs=some x)(hl:cs.length=9):
 ∃(p:B7) (cap:Nat) (ys:List (List Int)) (J K M O U X Z:Int) (tw:A4) (ws:List ah),cs=[.slice p ys.length cap,I4 J,I4 K,I4 M,I4 O,I4 U,I4 X,I4 Z,tw]/\Pm (MZ W [1,0]) (.slice p ys.length cap) ys/\Qm (MZ W [1,0]) tw ws/\(-9223372036854775808<=J/\J<=9223372036854775807)/\(-9223372036854775808<=K/\K<=9223372036854775807)/\(-9223372036854775808<=M/\M<=9223372036854775807)/\(-9223372036854775808<=O/\O<=9223372036854775807)/\(-9223372036854775808<=U/\U<=9223372036854775807)/\(-9223372036854775808<=X/\X<=9223372036854775807)/\(-9223372036854775808<=Z/\Z<=9223372036854775807):=by
 obtain ⟨xs,m,_,hx,ek,ax,I⟩:=DataW.trod_struct aq h
 match cs,hl with
 |[a0,a1,a2,a3,a4,a5,a6,a7,a8],_=>
  have hy:∀i,i<5->∃y,xs[i]?=some y:=fun i hi=>⟨_,zn (by rw [ax];exact hi)⟩;obtain ⟨y0,bf⟩:=hy 0 AK;obtain ⟨y1,bn⟩:=hy 1 AK;obtain ⟨y2,cu⟩:=hy 2 AK;obtain ⟨y3,cO⟩:=hy 3 AK;obtain ⟨u,g,hu,hm⟩:=Yv h4 ((I 0 _ rfl).trans bf);obtain ⟨J,K,M,O,U,e1,b0,b1,b2,b3,b4⟩:=jo ((I 1 _ rfl).trans bn) rfl;obtain ⟨X,e5,_,b5⟩:=DataW.trod_int F0 ((I 2 _ rfl).trans cu);obtain ⟨Z,e6,_,b6⟩:=DataW.trod_int F0 ((I 3 _ rfl).trans cO);obtain ⟨y4,d9⟩:=hy 4 AK;obtain ⟨u8,g8,E,af⟩:=Yx h4 ((I 4 _ rfl).trans d9);change [a8]=[_]at E;injection E with E
  subst E;obtain ⟨p,cap,e,hz⟩:=id hm;subst e;change [a0]=[_]at hu;change [a1,a2,a3,a4,a5]=[_,_,_,_,_]at e1;change [a6]=[_]at e5;change [a7]=[_]at e6;injection hu with hu
  injection e1 with e1 e2
  injection e2 with e2 e3
  injection e3 with e3 e4
  injection e4 with e4 e7
  injection e7 with e7
  injection e5 with e5
  injection e6 with e6
  subst hu e1 e2 e3 e4 e7 e5 e6;exact ⟨p,cap,g,J,K,M,O,U,X,Z,a8,g8,V,hm,af,b0,b1,b2,b3,b4,bounds_i64 b5,bounds_i64 b6⟩
end
end Go.Proofs.YtlkdhannldcfbaaGreatDoor
namespace Go.Proofs.YtlkdhannldcfbaaGreatDoor
open Go.Proofs.Tryz
open Go Go.RowKit Gw
set_option maxRecDepth 100000
attribute [local irreducible] Gw.At Gw.Nx Gw.Ops
theorem bG(p:B7)(cap:Nat)(ys:List (List Int))(M:List AU)(hX:Pm M (.slice p ys.length cap) ys)(K O U X Z n5 n6:Int)(g:-9223372036854775808<=K/\K<=9223372036854775807)(m:-9223372036854775808<=O/\O<=9223372036854775807)(y:-9223372036854775808<=U/\U<=9223372036854775807)(E:-9223372036854775808<=X/\X<=9223372036854775807)(G:-9223372036854775808<=Z/\Z<=9223372036854775807)(I:-9223372036854775808<=n5/\n5<=9223372036854775807)(J:-9223372036854775808<=n6/\n6<=9223372036854775807)(tw:A4)(ws:List ah)(hT:Qm M tw ws)(Tg:AM)(zg:Nat×Nat)(pa:Addr)(Tx:AM)(zx:Nat×Nat):BC prog 3 #[.agg #[.slice p ys.length cap,I4 K,I4 O,I4 U,I4 X,I4 Z,I4 n5,I4 n6,tw]] [[(1,.cells (Di.map CB).toArray Tg zg)],[(0,.cells #[.iface 339 (.pointer (some pa))] Tx zx)],M] (.bool true):=j3 hX K O U X Z n5 n6 g.1 g.2 m.1 m.2 y.1 y.2 E.1 E.2 G.1 G.2 I.1 I.2 J.1 J.2 hT Tg zg pa Tx zx
end Go.Proofs.YtlkdhannldcfbaaGreatDoor
namespace Go.Proofs.YtlkdhannldcfbaaGreatDoor
open Go.Proofs.Tryz
open Go Go.RowKit Gw
set_option maxRecDepth 100000
attribute [local irreducible] Gw.At Gw.Nx Gw.Ops
open Go.ChangeShapes Go.WideShapes Go.ChangeAt
theorem XF{P:Program}{f:FuncId}{g:Func}{s:ChangeSpec}{c:OpenClaim}(h0:c.wf (OpenSpec.ofChange s)=true)(h1:laidOutB P=true)(h2:mapsRowed P=true)(h3:g.params.all (P.readableRec ·)=true)(h4:namedTie P c.named s.vars=true)(h5:(c.stops== [])=true)(h6:(P.stops== [])=true)(h7:(c.knobs== [])=true)(h8:(P.stopKnobs== [])=true)(h9:(c.inPlace==P.inPlace f)=true)(m:(c.unfollowed==P.unfollowed f)=true)(y:(c.recurses==P.recurses f)=true)(E:(c.named==P.varsNamed f)=true)(G:(c.maps==(g.params.toList++s.plain.varTypes P).any (P.mapsRec ·))=true)(I:(c.ifaces==(g.params.toList++s.plain.varTypes P).any (P.ifacesRec ·))=true)(J:(c.mapsOut==P.mapsAmong g.resultTypes.toList)=true)(K:(c.loops==(g.params.toList++s.plain.varTypes P).any (P.loopsFrom ·))=true)(M:(c.wideKeys==(g.params.toList++s.plain.varTypes P++g.resultTypes.toList).any (P.wideKeysFrom ·))=true)(O:s.vars.all (P.varReadable ·)=true)(U:g.resultTypes.all (fun t=>P.readableRec t&&decide (t<P.types.size))=true)(X:(c.ifacesOut==g.resultTypes.toList.any (P.ifacesRec ·))=true)(Z:(c.loopsOut==g.resultTypes.toList.any (P.loopsFrom ·))=true)(af:(c.plainKeys==P.plainKeys)=true)(ax:c.shortTexts.isNone=true)(bf:P.stopsHeard=true)(bn:P.mayEnter=true)(cu:(c.lifted==P.liftsFinal)=true)(cO:(P.make==some c.make)=true)(d9:(c.kinds==(if c.domain.isEmpty then []else g.params.toList.map fun t=>match P.underlying t with|some (.int k)=>some k|_=>none))=true)(ek:(c.pinned==c.pinnedBy)=true)(gm:(c.veiled==(g.params.toList++s.plain.varTypes P++g.resultTypes.toList).any (P.veiledRec ·))=true)(gq:c.veiledFits P g.params.toList (g.params.toList++s.plain.varTypes P++g.resultTypes.toList)=true):joinedFacts P f g s c=true:=by
 unfold joinedFacts;simp only [Fo];exact ⟨⟨⟨⟨⟨⟨⟨⟨⟨⟨⟨⟨⟨⟨⟨⟨⟨⟨⟨⟨⟨⟨⟨⟨⟨⟨⟨⟨⟨⟨⟨h0,h1⟩,h2⟩,h3⟩,h4⟩,h5⟩,h6⟩,h7⟩,h8⟩,h9⟩,m⟩,y⟩,E⟩,G⟩,I⟩,J⟩,K⟩,M⟩,O⟩,U⟩,X⟩,Z⟩,af⟩,ax⟩,bf⟩,bn⟩,cu⟩,cO⟩,d9⟩,ek⟩,gm⟩,gq⟩
end Go.Proofs.YtlkdhannldcfbaaGreatDoor
