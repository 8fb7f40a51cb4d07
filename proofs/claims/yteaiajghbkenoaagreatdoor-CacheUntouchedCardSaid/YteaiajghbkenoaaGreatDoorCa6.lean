/- What a cache keeps; after, forget, remember. -/
/- A cache in memory; Drop, Keys, Position, Used, Touch. -/
/- Entry, Get. -/
/- prepared. -/
import Derived.Test.YteaiajghbkenoaaGreatDoorEz
import Derived.Test.YteaiajghbkenoaaGreatDoorCo1
import Derived.Test.YteaiajghbkenoaaGreatDoorMm3
import Derived.Test.YteaiajghbkenoaaGreatDoorPy5
import Derived.Test.YteaiajghbkenoaaGreatDoorEx36
set_option linter.unusedVariables false
set_option linter.unusedSimpArgs false
namespace Go.Proofs.YteaiajghbkenoaaGreatDoor
open Go.Proofs.Tryz
open Go Go.RowKit Gw
set_option maxRecDepth 100000
attribute [local irreducible] Gw.At Gw.Nx Gw.Ops
structure ItM where
 b:Nat
 id:Int
 q:QM
 tn:Int
 base:Int
 rq:Option Addr
 rc:Nat
 L:List RP
 res:CE
 wq:Option Addr
 wc:Nat
 since:Int
abbrev ItM.A32(c:ItM):Array Go.Value:=#[I4 c.q.kd,I4 c.q.tb,I4 c.q.cl,I4 c.q.lo,I4 c.q.hi,I4 c.q.bq,I4 c.q.ot,I4 c.tn,I4 c.base,.slice c.rq c.L.length c.rc,I4 c.id,.slice c.wq c.res.rows.length c.wc,I4 c.res.val,.bool c.res.fnd,I4 c.since]
def ItM.key(x:ItM):ByteArray:=str (Cv x.q)
def ItM.iq(x:ItM):Int×QM:=(x.id,x.q)
def ItM.obj(x:ItM):Obj:= .cells x.A32 126 (0,0)
def ItM.ch(x:ItM):A9:=(x.b,x.obj)
def DI(pos base:Int)(win:List BU):List BU:=win.drop (win.length -(pos -base).toNat)
structure ItM.ok(M MR:List A9)(pos:Int)(win:List BU)(x:ItM):Prop where
 q:BJ x.q
 base:0<=x.base/\x.base<=10000
 tn:0<=x.tn/\x.tn<=1000000
 rp:G8 M (.slice x.rq x.L.length x.rc) x.L
 rl:x.L.length<=1000000
 fit:∀y∈x.L,y.fits
 rw:De MR (.slice x.wq x.res.rows.length x.wc) x.res.rows
 reach:(pos -x.base).toNat<=win.length
 run:∃r0,EX x.q x.L=some r0/\GD x.q x.base 0 (r0,x.base) (DI pos x.base win)=some (x.res,x.since)
variable{pos:Int}{x:ItM}
theorem ItM.ok.mono{M m MR g:List A9}{win:List BU}(h:x.ok M MR pos win)(B:∀c∈M,c∈m)(G:∀c∈MR,c∈g):x.ok m g pos win:=⟨h.q,h.base,h.tn,h.rp.mono B,h.rl,h.fit,h.rw.mono G,h.reach,h.run⟩
structure GQ(its:List ItM)(next:Int)(esQ:Array MapEntry)(ckQ:Nat)(lmQ:List (Int×Value))(lv:Value)(ML:List A9)(esI:Array MapEntry)(ckI:Nat)(lmI:List (ByteArray×Value))(esK:Array MapEntry)(ckK:Nat)(lmK:List (Int×Value))(SI:List A9):Prop where
 idx:Ee (its.map ItM.iq) esQ ckQ lmQ
 ist:WN (its.map ItM.iq) lv ML
 im:Ck (fun k:ByteArray=>Value.string k) esI ckI lmI
 imem:∀p,p∈lmI↔∃x∈its,p=(x.key,pV x.b)
 km:Ck (fun n:Int=>Value.int .i64 n) esK ckK lmK
 kmem:∀p,p∈lmK↔∃x∈its,p=(x.id,.string x.key)
 keys:(its.map ItM.key).Nodup
 ids:∀x∈its,1<=x.id/\x.id<=next
 nx:0<=next/\next<=1000000000
 len:its.length<=500
 q:∀x∈its,BJ x.q
 sub:∀x∈its,x.ch∈SI
variable{its:List ItM}{next:Int}{esQ esI esK:Array MapEntry}{ckQ ckI ckK:Nat}{lmQ lmK:List (Int×Value)}{lv:Value}{ML SI:List A9}{lmI:List (ByteArray×Value)}
theorem GQ.get(h:GQ its next esQ ckQ lmQ lv ML esI ckI lmI esK ckK lmK SI)(g:x∈its):EG x.key lmI=some (pV x.b):=D5 h.im.keys ((h.imem _).2 ⟨x,g,rfl⟩)
theorem GQ.none{its:List ItM}{next:Int}{esQ:Array MapEntry}{ckQ:Nat}{lmQ:List (Int×Value)}{lv:Value}{ML:List A9}{esI:Array MapEntry}{ckI:Nat}{lmI:List (ByteArray×Value)}{esK:Array MapEntry}{ckK:Nat}{lmK:List (Int×Value)}{SI:List A9}(h:GQ its next esQ ckQ lmQ lv ML esI ckI lmI esK ckK lmK SI){K:ByteArray}(g:∀x∈its,x.key≠K):EG K lmI=none:=DW fun p m=>by
 obtain ⟨x,B,rfl⟩:=(h.imem p).1 m;exact g x B
theorem GQ.len_eq(h:GQ its next esQ ckQ lmQ lv ML esI ckI lmI esK ckK lmK SI):(lmI.map (·.1)).Perm (its.map ItM.key):=by
 refine (OR h.im.keys h.keys).2 fun a=>?_;constructor
 · intro g
   obtain ⟨p,B,rfl⟩:=Bk.1 g;obtain ⟨x,m,rfl⟩:=(h.imem p).1 B;exact DO m
 · intro g
   obtain ⟨x,m,rfl⟩:=Bk.1 g;exact Bk.2 ⟨_,(h.imem _).2 ⟨x,m,V⟩,V⟩
theorem XJ(B:(its.map ItM.key).Nodup)(hi:((its.map ItM.iq).map (·.1)).Nodup){y:ItM}(g:x∈its)(m:y∈its):y.key≠x.key↔y.id≠x.id:=by
 rw [K0]at hi;constructor
 · intro h e;exact h (by rw [FV hi g m e.symm])
 · intro h e;exact h (by rw [FV B g m e.symm])
theorem xE(h:GQ its next esQ ckQ lmQ lv ML esI ckI lmI esK ckK lmK SI)(hx:x∈its)
 {Z:Array MapEntry}{U:Nat}{af:List (Int×Value)}(hq:Ee ((its.map ItM.iq).filter fun y=>y.1≠x.id) Z U af){W:Array MapEntry}{J:Nat}{B:List (ByteArray×Value)}(hm:Ck (fun k:ByteArray=>Value.string k) W J B)(hp:∀p,p∈B↔p∈lmI/\p.1≠x.key)
 {X:Array MapEntry}{O:Nat}{G:List (Int×Value)}(hk:Ck (fun n:Int=>Value.int .i64 n) X O G)(ax:∀p,p∈G↔p∈lmK/\p.1≠x.id):GQ (its.filter fun y=>y.key≠x.key) next Z U af (.pointer none) [] W J B X O G SI:=by
 have m:=h.idx.ids;have e1:(its.filter fun y=>y.key≠x.key).map ItM.iq=(its.map ItM.iq).filter fun y=>y.1≠x.id:=by
  rw [List.filter_map];congr 1;refine fz fun y g=>?_;exact decide_eq_decide.2 (XJ h.keys m hx g)
 have I:∀y,y∈(its.filter fun y=>y.key≠x.key)↔y∈its/\y.key≠x.key:=fun y=>by rw [Ek];simp
 refine ⟨by rw [e1];exact hq,.inl ⟨rfl,rfl⟩,hm,fun p=>?_,hk,fun p=>?_,h.keys.sublist (SU.map _),fun y g=>h.ids y ((I y).1 g).1,h.nx,Mb (MD _ _) h.len,fun y g=>h.q y ((I y).1 g).1,fun y g=>h.sub y ((I y).1 g).1⟩
 · rw [hp,h.imem]
   constructor
   · rintro ⟨⟨y,g,rfl⟩,hn⟩;exact ⟨y,(I y).2 ⟨g,hn⟩,rfl⟩
   · rintro ⟨y,g,rfl⟩;exact ⟨⟨y,((I y).1 g).1,rfl⟩,((I y).1 g).2⟩
 · rw [ax,h.kmem]
   constructor
   · rintro ⟨⟨y,g,rfl⟩,hn⟩;exact ⟨y,(I y).2 ⟨g,(XJ h.keys m hx g).2 hn⟩,rfl⟩
   · rintro ⟨y,g,rfl⟩;exact ⟨⟨y,((I y).1 g).1,rfl⟩,(XJ h.keys m hx ((I y).1 g).1).1 ((I y).1 g).2⟩
theorem xG(h:GQ its next esQ ckQ lmQ lv ML esI ckI lmI esK ckK lmK SI)(hx:∀y∈its,y.key≠x.key)(af:x.id=next+1)(hn:next<1000000000)(hl:its.length<500)(hv:BJ x.q)
 {W:Array MapEntry}{J:Nat}{X:List (Int×Value)}(hq:Ee (its.map ItM.iq++[(x.id,x.q)]) W J X){O:Array MapEntry}{G:Nat}{m:List (ByteArray×Value)}(hm:Ck (fun k:ByteArray=>Value.string k) O G m)(hp:∀p,p∈m↔p=(x.key,pV x.b)\/(p∈lmI/\p.1≠x.key))
 {U:Array MapEntry}{I:Nat}{B:List (Int×Value)}(hk:Ck (fun n:Int=>Value.int .i64 n) U I B)(Z:∀p,p∈B↔p=(x.id,.string x.key)\/(p∈lmK/\p.1≠x.id)):GQ (its++[x]) (next+1) W J X (.pointer none) [] O G m U I B (SI++[x.ch]):=by
 have ax:=h.nx;refine ⟨by rw [Bm];exact hq,.inl ⟨rfl,rfl⟩,hm,fun p=>?_,hk,fun p=>?_,?_,fun y g=>?_,by omega,by rw [B7];simp;omega,fun y g=>?_,fun y g=>?_⟩
 · rw [hp,h.imem]
   constructor
   · rintro (rfl|⟨⟨y,g,rfl⟩,_⟩)
     · exact ⟨x,by simp,rfl⟩
     · exact ⟨y,DP _ g,rfl⟩
   · rintro ⟨y,g,rfl⟩
     rcases BE.1 g with g|g
     · exact .inr ⟨⟨y,g,rfl⟩,hx y g⟩
     · rw [BT.1 g];exact .inl rfl
 · rw [Z,h.kmem]
   constructor
   · rintro (rfl|⟨⟨y,g,rfl⟩,_⟩)
     · exact ⟨x,by simp,rfl⟩
     · exact ⟨y,DP _ g,rfl⟩
   · rintro ⟨y,g,rfl⟩
     rcases BE.1 g with g|g
     · have:=h.ids y g
       exact .inr ⟨⟨y,g,V⟩,by show y.id≠x.id;omega⟩
     · rw [BT.1 g];exact .inl rfl
 · rw [Bm,Ge]
   refine ⟨h.keys,by simp,fun a ha b hb=>?_⟩;obtain ⟨y,g,rfl⟩:=Bk.1 ha;obtain rfl:=BT.1 hb;exact hx y g
 · rcases BE.1 g with g|g
   · have:=h.ids y g;omega
   · rw [BT.1 g];omega
 · rcases BE.1 g with g|g
   · exact h.q y g
   · rw [BT.1 g];exact hv
 · rcases BE.1 g with g|g
   · exact DP _ (h.sub y g)
   · rw [BT.1 g];simp
variable{mq:Nat}
theorem XM{B:Nat}{es:Array MapEntry}{ck:Nat}{lm:List (Int×Value)}(G:Ee (its.map ItM.iq) es ck lm)(J:x∈its):BZ prog 98 #[I5 B,I4 x.id] [[(B,.cells #[.map (some mq),lv] 186 (0,0))],[(mq,.map es ck)]]
 (fun r H'=>∃m g I,r= .bool true/\Ee ((its.map ItM.iq).filter fun y=>y.1≠x.id) m g I/\H'=[[(B,.cells #[.map (some mq),.pointer none] 186 (0,0))],[(mq,.map m g)]]):=WQ G (x:=x.iq) (DO J)
theorem NT{M:List A9}{p:Option Addr}{cap a:Nat}{l:List BU}(h:EU M (.slice p l.length cap) l)(X:a<=l.length):EU M (.slice (ES p a cap 2) (l.length -a) (cap -a)) (l.drop a):=by
 obtain ⟨p',G,e,⟨Z,O⟩,J⟩:=h;injection e with e1 e2 e3
 subst e1 e3;refine ⟨_,_,by rw [C2],⟨by rw [C2];omega,by rw [C2];omega⟩,fun i x B=>?_⟩;rw [PA]at B;have hi:=(B9.1 B).1
 obtain ⟨I,g,off,cur,T,zz,rfl,U,W,m⟩:=J (a+i) x B;have hc:ES (some ⟨g,off,none⟩) a cap 2=some ⟨g,off+a*2,none⟩:=by
  unfold ES;rw [AK A1,N2,CX]
 rw [hc];exact ⟨I,g,_,cur,T,zz,rfl,U,by omega,by rw [show off+a*2+i*2=off+(a+i)*2 by omega];exact m⟩
theorem JE(n:Int):BI prog 41 #[I4 n] [] (.bool (decide (0<=n/\n<=10000))):=by
 refine Se func41 ntmps41 [0] ?_;intro u R;refine A0<|A3 Y<|A0<|Zm Y<|Zv (H9 Y Y)<|Zm Y<|Am (t:=5) Y V (fun g=>?_) (fun g=>?_)
 ·
  refine Zf Y Y<|Yg (NC Y Y)<|Zv (AV Y Y)<|A3 Y<|AJ<|AP V results41 Y (by exact ⟨congrArg Value.bool (by simp [g]),V⟩)
 refine A7 Y V<|A7 Y V<|Zv (AL Y Y)<|A3 Y<|AJ<|AP V results41 Y (by exact ⟨congrArg Value.bool (by simp [g]),V⟩)
variable{mk mi ip r cp:Nat}
theorem O0{wq:Option Addr}{wn wc:Nat}(J:0<=pos/\pos<=10000)(base:Int)(I:0<=base/\base<=10000)(O:wn<=wc/\wn<=1000000):BI prog 59 #[I5 cp,I4 base] [[(cp,.cells #[I4 pos,.slice wq wn wc,I5 r,I5 ip,.map (some mi),.map (some mk),I4 next] 120 (0,0))]] (if(pos -base).toNat<=wn then .tuple #[.slice (ES wq (wn -(pos -base).toNat) wc 2) (pos -base).toNat (wc -(wn -(pos -base).toNat)),.bool true]else .tuple #[.slice none 0 0,.bool false]):=by
 have B:=mL;obtain ⟨n,G⟩:∃n:Nat,n=(pos -base).toNat:=⟨_,rfl⟩;have g:max (pos -base) 0=(n:Int):=by omega
 rw [<-G];refine Se func59 ntmps59 [0,1] ?_;intro u R;refine A0<|Za Y<|A3 Y<|A0<|Zm Y<|Zp Y V<|Zh 0 F0 V rfl A5 Y<|Zl AE Y ?_;refine Zm Y ?_
 (refine BX (GG Y Y (IntWalk.i64_in _ ?_)) ?_;(focus (omega)))
 refine Zv (Q9 Y Y)<|A3 Y<|Zq<|Zq ?_;rw [g];refine Zg<|Zm Y<|Zm Y<|Zp Y V<|Zh 1 F0 V rfl S6 Y<|Zl isAgg25 Y ?_;refine Zv (Aa GC Y)<|Zv (DJ Y Y)<|Z0<|Zn [0,6,20] ?_;refine Zx<|Au Y (fun m=>?_) (fun m=>?_)
 ·
  refine A0<|Za Y<|A3 Y<|AJ<|Zt<|Cy rfl results59 Y Y (by exact ⟨by rw [AK A1],rfl⟩)
 refine AC<|Zx<|Zq<|Az (n:=14) (0::1::3::7::0::16::48::112::240::0::1008::2047::4095::8191::[]) 0 A6 A6 V<|A2 0 V (AO Y)<|A2 1 V (Aq Y V)<|A2 2 V (AB (off:=1) F0 V rfl S6 Y)<|B3 3 V isAgg25 Y ?_;refine A2 4 V (AO Y)<|A2 5 V (Aq Y V)<|A2 6 V (AB (off:=1) F0 V rfl S6 Y)<|B3 7 V isAgg25 Y ?_;refine A2 8 V (Aa GC Y)<|A2 9 V (AO Y) ?_
 (refine Dp (D':=2047) 10 (CO Y Y ?_ ?_) ?_;(focus (omega));(focus (omega)))
 refine A2 11 V (CB GC F2 Y Y A1)<|A2 12 V (Aw Y)<|A2 13 V (Aw Y)<|Ah<|Zn [4,5] ?_;refine Zx<|AJ<|Cy rfl results59 Y Y (by exact ⟨by rw [AM A1,show wn -(wn -n)=n by omega],rfl⟩)
variable{wv:Value}
theorem Vs(h:GQ its next esQ ckQ lmQ lv ML esI ckI lmI esK ckK lmK SI)(hx:x∈its):BZ prog 47 #[I5 cp,.string x.key] [[(cp,.cells #[I4 pos,wv,I5 r,I5 ip,.map (some mi),.map (some mk),I4 next] 120 (0,0))],[(ip,.cells #[.map (some mq),lv] 186 (0,0))],[(mq,.map esQ ckQ)],[(mi,.map esI ckI)],[(mk,.map esK ckK)],SI] (fun v H'=>v= .bool true/\∃J B bn G g af I m ax,GQ (its.filter fun y=>y.key≠x.key) next J B bn (.pointer none) [] G g af I m ax SI/\H'=[[(cp,.cells #[I4 pos,wv,I5 r,I5 ip,.map (some mi),.map (some mk),I4 next] 120 (0,0))],[(ip,.cells #[.map (some mq),.pointer none] 186 (0,0))],[(mq,.map J B)],[(mi,.map G g)],[(mk,.map I m)],SI]):=by
 have hg:=h.get hx;have X:(x.b,Obj.cells x.A32 126 (0,0))∈SI:=h.sub x hx
 have kv:x.iq∈its.map ItM.iq:=DO hx;refine Se func47 ntmps47 [0,1] ?_;intro u R;refine A0<|A3 Y<|A0<|Zm Y<|Zp Y V<|Zh 4 F0 V rfl O2 Y<|Zl Mz Y ?_;refine Zm Y<|Zo Wh (E9 (Dj GF (D:=fun _=>True)) N5 Ss h.im (fun _ _=>trivial) (trivial) (⟨by rw [hg];first|done|rfl,by rw [hg];first|done|rfl⟩) Y Y) ?_;refine Zm Y<|Zd Y V<|Zd Y V<|Za Y<|A3 Y<|Zq<|A0<|Zm Y<|Zv (Bo Y)<|Z0<|Zn [0,1,5,17] ?_;refine Zx<|AX Y (fun W=>by cases W)<|fun W=>AC<|Zx<|Zq<|Az (n:=9) (0::1::3::7::0::16::48::112::255::[]) 256 A6 A6 V<|A2 0 V (AO Y)<|A2 1 V (Aq Y V)<|A2 2 V (AB (off:=3) F0 V rfl sizeOf116 Y)<|B3 3 V isAgg116 Y ?_;refine A2 4 V (AO Y)<|A2 5 V (Aq Y V)<|A2 6 V (AB (off:=10) HO V rfl A5 Y)<|D8 (D':=255) 7 V rfl V (FL Wo (X)) (BO AE Y AN) ?_;refine Zz (l:=[8])<|B1 [false,false] [] V rfl (Zw [_,_] Y call98 Y V (XM h.idx hx)) ?_ Bz Ai;rintro _ _ ⟨_,⟨U,O,cu,rfl,Z,rfl⟩,rfl⟩;refine B5<|Ah<|Zx<|Zq<|Az (n:=9) (0::1::3::7::0::16::48::112::255::[]) 256 A6 A6 V<|A2 0 V (AO Y)<|A2 1 V (Aq Y V)<|A2 2 V (AB (off:=5) F0 V rfl sizeOf91 Y)<|B3 3 V isAgg91 Y ?_;refine A2 4 V (AO Y)<|A2 5 V (Aq Y V)<|A2 6 V (AB (off:=10) HO V rfl A5 Y)<|D8 (D':=255) 7 V rfl V (FL Wo (X)) (BO AE Y AN) ?_;refine Yw 8 511 V (LK (Ca Cp (D:=fun _=>True)) cW h.km (fun _ _=>trivial) (trivial) Y Y Wo) ?_;rintro _ _ ⟨rfl,ek,cO,j3,gq,gB,rfl⟩;refine Ah<|Zn [0,1] ?_;refine Zx<|A0<|Zm Y<|Zp Y V<|Zh 4 F0 V rfl O2 Y<|Zl Mz Y ?_;refine Zm Y<|Ze (LK (Dj GF (D:=fun _=>True)) N5 h.im (fun _ _=>trivial) (trivial) Y Y Wo) ?_;rintro _ _ ⟨rfl,gm,d9,j5,gy,ic,rfl⟩;refine A4<|A0<|A3 Y<|AJ<|AP V results47 Y (by exact ⟨V,U,O,cu,gm,d9,j5,ek,cO,j3,xE h hx Z gy ic gq gB,V⟩)
variable{K:ByteArray}
theorem mR(h:GQ its next esQ ckQ lmQ lv ML esI ckI lmI esK ckK lmK SI)(B:∀y∈its,y.key≠K):BI prog 47 #[I5 cp,.string K] [[(cp,.cells #[I4 pos,wv,I5 r,I5 ip,.map (some mi),.map (some mk),I4 next] 120 (0,0))],[(mi,.map esI ckI)]] (.bool false):=by
 have m:=h.none B;refine Se func47 ntmps47 [0,1] ?_;intro u R;refine A0<|A3 Y<|A0<|Zm Y<|Zp Y V<|Zh 4 F0 V rfl O2 Y<|Zl Mz Y ?_;refine Zm Y<|Zo Wh (E9 (Dj GF (D:=fun _=>True)) N5 Ss h.im (fun _ _=>trivial) (trivial) (⟨by rw [m];first|done|rfl,by rw [m];first|done|rfl⟩) Y Y) ?_;refine Zm Y<|Zd Y V<|Zd Y V<|Za Y<|A3 Y<|Zq<|A0<|Zm Y<|Zv (Bo Y)<|Z0<|Zn [0,1,5,17] ?_;refine Zx<|AX Y (fun g=>?_) (fun g=>?_)
 ·
  refine A0<|A3 Y<|AJ<|Zt<|AP V results47 Y (by exact ⟨V,V⟩)
 cases g
theorem N7(h:GQ its next esQ ckQ lmQ lv ML esI ckI lmI esK ckK lmK SI)(hx:∀y∈its,y.key≠x.key)(g:x.id=next+1)(hn:next<1000000000)(hl:its.length<500)(hv:BJ x.q):BZ prog 48 #[I5 cp,.string x.key,.pointer (some ⟨x.b,0,none⟩)] [[(cp,.cells #[I4 pos,wv,I5 r,I5 ip,.map (some mi),.map (some mk),I4 next] 120 (0,0))],[(ip,.cells #[.map (some mq),lv] 186 (0,0))],[(mq,.map esQ ckQ)],[(mi,.map esI ckI)],[(mk,.map esK ckK)],[(x.b,.cells #[I4 x.q.kd,I4 x.q.tb,I4 x.q.cl,I4 x.q.lo,I4 x.q.hi,I4 x.q.bq,I4 x.q.ot,I4 x.tn,I4 x.base,.slice x.rq x.L.length x.rc,I4 0,.slice x.wq x.res.rows.length x.wc,I4 x.res.val,.bool x.res.fnd,I4 x.since] 126 (0,0))],SI] (fun v H'=>v=undef/\∃O G bn I m af J B ax,GQ (its++[x]) (next+1) O G bn (.pointer none) [] I m af J B ax (SI++[x.ch])/\H'=[[(cp,.cells #[I4 pos,wv,I5 r,I5 ip,.map (some mi),.map (some mk),I4 (next+1)] 120 (0,0))],[(ip,.cells #[.map (some mq),.pointer none] 186 (0,0))],[(mq,.map O G)],[(mi,.map I m)],[(mk,.map J B)],(SI++[x.ch])]):=by
 rw [<-g];have hg:=h.none hx
 have qo:=h.nx;have ic:EG x.id lmK=none:=DW fun p hp=>by
  obtain ⟨y,hy,rfl⟩:=(h.kmem p).1 hp;have:=h.ids y hy
  show y.id≠x.id;omega
 have gB:∀y∈its.map ItM.iq,y.1≠x.id:=fun y hy=>by
  obtain ⟨z,hz,rfl⟩:=Bk.1 hy;have:=h.ids z hz
  show z.id≠x.id;omega
 refine Se func48 ntmps48 [0,1,2] ?_;intro u R;refine A0<|Zm Y<|Zp Y V<|Zh 6 F0 V rfl A5 Y<|Zl AE Y ?_;refine Yi Y Y<|Zp Y V<|Zh 6 F0 V rfl A5 Y<|Xe (Zs A5 Y Y V) ?_;refine A4<|Zq ?_;rw [<-g];refine Zg<|Zm Y<|Zm Y<|Zp Y V<|Zh 6 F0 V rfl A5 Y<|Zl AE Y ?_;refine Zp Y V<|Zh 10 HO V rfl A5 Y<|Xe (Zs A5 Y Y V) ?_;refine Z0<|Zn [0,1,2] ?_;refine Zx<|Zq<|Az (n:=21) (0::1::3::7::0::0::32::96::224::0::512::1536::3584::0::0::8191::40959::114687::245759::507903::1048575::[]) 1474560 A6 A6 V<|A2 0 V (AO Y)<|A2 1 V (Aq Y V)<|A2 2 V (AB (off:=4) F0 V rfl O2 Y)<|B3 3 V Mz Y ?_;refine A2 4 V (AO Y)<|A2 5 V (AO Y)<|A2 6 V (Aq Y V)<|A2 7 V (AB (off:=5) F0 V rfl sizeOf91 Y)<|B3 8 V isAgg91 Y ?_;refine A2 9 V (AO Y)<|A2 10 V (Aq Y V)<|A2 11 V (AB (off:=10) HO V rfl A5 Y)<|B3 12 V AE Y ?_;refine A2 13 rfl (AO Y)<|A2 14 rfl (AO Y)<|Zz (l:=[15])<|B1 [false,false,false] [] rfl rfl (KU (Dj GF (D:=fun _=>True)) N5 Ss h.im (fun _ _=>trivial) (trivial) (by rw [hg];first|done|rfl) Y Y Wo) ?_ (fun _ _ h=>h.elim) Ai;rintro _ _ ⟨qj,qa,qw,j3,qz,rfl,l8,kv,gq,p8,rfl⟩;refine B5<|A2 16 V (C8 Y V)<|Zz (l:=[17])<|B1 [] [] V rfl (Ip l8 kv gq Y Y Y Wo) ?_ (fun _ _ h=>h.elim) Ai;rintro _ _ ⟨rfl,ek,cO,pz,l9,p9,rfl⟩;refine B5<|Yw 18 524287 rfl (KU (Ca Cp (D:=fun _=>True)) cW HQ h.km (fun _ _=>trivial) (trivial) (by rw [ic];first|done|rfl) Y Y Wo) ?_;rintro _ _ ⟨ql,qb,qx,j5,r9,rfl,o8,l5,gy,pg,rfl⟩;refine A2 19 V (C8 Y V)<|Zz (l:=[20])<|B1 [] [] V rfl (Ip o8 l5 gy Y Y Y Wo) ?_ (fun _ _ h=>h.elim) Ai;rintro _ _ ⟨rfl,gm,d9,q9,o9,pq,rfl⟩;refine B5<|Ah<|Zn [0,2] ?_;refine Zx<|CK (s1:=SI) (s2:=[x.ch]) Wo Wo ?_;have X:(x.b,Obj.cells x.A32 126 (0,0))∈SI++[x.ch]:=Fm _ (BT.2 rfl)
 refine Az (n:=14) (0::1::3::7::0::16::48::112::0::256::768::1792::3840::8191::[]) 8192 A6 A6 V<|A2 0 V (AO Y)<|A2 1 V (Aq Y V)<|A2 2 V (AB (off:=3) F0 V rfl sizeOf116 Y)<|B3 3 V isAgg116 Y ?_;refine A2 4 V (AO Y)<|A2 5 V (Aq Y V)<|A2 6 V (AB (off:=10) HO V rfl A5 Y)<|D8 (D':=255) 7 V rfl V (FL Wo (X)) (BO AE Y AN) ?_;refine A2 8 V (AO Y)<|A2 9 V (Aq Y V)<|A2 10 V (AB (off:=0) HO V rfl Gk Y)<|A2 11 V (Ap (off:=0) Fk V rfl CC Y)<|D8 (D':=8191) 12 V rfl V (FL Wo (X)) (AA (cs:=x.q.A30) E4 CC Y Wn (by exact (by apply HC.1;rfl))) ?_;refine Zz (l:=[13])<|B1 [false,false,false] [] rfl rfl (Zw [_,_,_] Y call99 Y rfl (jW h.idx gB hv (by rw [B2];exact hl))) ?_ Bz Ai;rintro _ _ ⟨_,⟨W,U,cu,rfl,Z,rfl⟩,rfl⟩;refine B5<|Ah<|Cz rfl results48 (by exact ⟨rfl,W,U,cu,ek,cO,pz,gm,d9,q9,by rw [g];exact xG h hx g hn hl hv Z l9 (fun p=>by rw [p9,p8];exact OB _ _ _ _) o9 (fun p=>by rw [pq,pg];exact OB _ _ _ _),rfl⟩)
structure CZ where
 cp:Nat
 pos:Int
 wq:Option Addr
 wc:Nat
 win:List BU
 sW:List A9
 z:Bj
 ns:Nat
 PL:List Bv
 mb:Nat
 esP:Array MapEntry
 ckP:Nat
 lmP:List (ByteArray×Value)
 su:List A9
 ip:Nat
 mq:Nat
 mi:Nat
 mkb:Nat
 next:Int
 its:List ItM
 esQ:Array MapEntry
 ckQ:Nat
 lmQ:List (Int×Value)
 lv:Value
 ML:List A9
 esI:Array MapEntry
 ckI:Nat
 lmI:List (ByteArray×Value)
 esK:Array MapEntry
 ckK:Nat
 lmK:List (Int×Value)
 SI:List A9
 M:List A9
 MR:List A9
abbrev CZ.A33(c:CZ):Array Go.Value:=#[I4 c.pos,.slice c.wq c.win.length c.wc,.pointer (some ⟨c.z.r,0,none⟩),.pointer (some ⟨c.ip,0,none⟩),.map (some c.mi),.map (some c.mkb),I4 c.next]
structure CZ.okb(c:CZ):Prop where
 pos:0<=c.pos/\c.pos<=10000
 win:Bb 2 50 (.slice c.wq c.win.length c.wc) c.win.length (Dr c.win) c.sW
 wl:c.win.length<=64
 wp:∀(i:Nat) (r:BU),c.win[i]?=some r->r.p=c.pos -(c.win.length:Int)+1+(i:Int)/\Cr c.M (.slice r.q r.cs.length r.cap) r.cs/\EH r.p r.cs
 pool:Dl c.z c.ns c.PL c.mb c.esP c.ckP c.lmP c.su
 pk:∀k,k∈c.PL.map (·.key)↔k∈c.its.map ItM.key
 its:GQ c.its c.next c.esQ c.ckQ c.lmQ c.lv c.ML c.esI c.ckI c.lmI c.esK c.ckK c.lmK c.SI
 tns:∀x∈c.its,x.tn<(c.ns:Int)
structure CZ.ok(c:CZ):Prop extends CZ.okb c where
 all:∀x∈c.its,x.ok c.M c.MR c.pos c.win
structure CZ.like(c d:CZ):Prop where
 cp:d.cp=c.cp
 pos:d.pos=c.pos
 win:d.win=c.win
 ns:d.ns=c.ns
 cap:d.z.cap=c.z.cap
variable{c:CZ}
theorem CZ.like.trans{a b:CZ}(h:a.like b)(k:b.like c):a.like c:=⟨k.cp.trans h.cp,k.pos.trans h.pos,k.win.trans h.win,k.ns.trans h.ns,k.cap.trans h.cap⟩
theorem iD(h:c.okb):EU (c.sW++c.M) (.slice c.wq c.win.length c.wc) c.win:=Jz h.win (by have:=h.wl;have g:maxLen=9223372036854775807:=rfl;omega) fun r m=>by
 obtain ⟨i,hi⟩:=GW m;exact (h.wp i r hi).2.1
theorem Uz{α:Type}{l:List α}{x:α}(h:x∈l):∃A B,l=A++x::B:=aq h
theorem VP{PL:List Bv}(hk:∀k,k∈PL.map (·.key)↔k∈its.map ItM.key){O U:List Bv}{e:Bv}(Z:PL=O++e::U)(m:(PL.map (·.key)).Nodup)(X:e.key=K):∀k,k∈(O++U).map (·.key)↔k∈(its.filter fun y=>y.key≠K).map ItM.key:=by
 intro k;subst Z X;have W:=hk k
 rw [Bm,DQ,Ge,Hi]at m;constructor
 · intro h
   rw [Bm,BE]at h;have B:k≠e.key:=by
    rintro rfl;rcases h with h|h
    · exact m.2.2 _ h _ (Dd ..) rfl
    · exact m.2.1.1 h
   obtain ⟨y,G,rfl⟩:=Bk.1 (W.1 (by rw [Bm,DQ,BE,D2];rcases h with h|h;exact .inl h;exact .inr (.inr h)));exact Bk.2 ⟨y,Ek.2 ⟨G,by simpa using B⟩,V⟩
 · intro h
   obtain ⟨y,G,rfl⟩:=Bk.1 h;obtain ⟨I,J⟩:=Ek.1 G;have g:=W.2 (DO I)
   rw [Bm,DQ,BE,D2]at g;rw [Bm,BE];rcases g with g|g|g
   · exact .inl g
   · simp [g]at J
   · exact .inr g
theorem XY(h:c.okb)(Z:x∈c.its):BZ prog 26 #[.pointer (some ⟨c.cp,0,none⟩),.string x.key] [[(c.cp,.cells #[I4 c.pos,.slice c.wq c.win.length c.wc,.pointer (some ⟨c.z.r,0,none⟩),.pointer (some ⟨c.ip,0,none⟩),.map (some c.mi),.map (some c.mkb),I4 c.next] 120 (0,0))],c.sW,c.z.S,[(c.mb,.map c.esP c.ckP)],c.su,[(c.ip,.cells #[.map (some c.mq),c.lv] 186 (0,0))],[(c.mq,.map c.esQ c.ckQ)],c.ML,[(c.mi,.map c.esI c.ckI)],[(c.mkb,.map c.esK c.ckK)],c.SI,c.M,c.MR] (fun v H'=>v= .bool true/\∃d:CZ,d.okb/\c.like d/\d.next=c.next/\(d.M=c.M/\d.MR=c.MR)/\d.SI=c.SI/\d.mi=c.mi/\d.its=(c.its.filter fun y=>y.key≠x.key)/\(∀e∈d.PL,e∈c.PL)/\H'=[[(d.cp,.cells #[I4 d.pos,.slice d.wq d.win.length d.wc,.pointer (some ⟨d.z.r,0,none⟩),.pointer (some ⟨d.ip,0,none⟩),.map (some d.mi),.map (some d.mkb),I4 d.next] 120 (0,0))],d.sW,d.z.S,[(d.mb,.map d.esP d.ckP)],d.su,[(d.ip,.cells #[.map (some d.mq),d.lv] 186 (0,0))],[(d.mq,.map d.esQ d.ckQ)],d.ML,[(d.mi,.map d.esI d.ckI)],[(d.mkb,.map d.esK d.ckK)],d.SI,d.M,d.MR]):=by
 obtain ⟨e,he,B⟩:=Bk.1 ((h.pk x.key).2 (DO Z));obtain ⟨L1,L2,m⟩:=Uz he;have g:=h.pool
 rw [m]at g;rw [<-B];refine Se func26 ntmps26 [0,1] ?_;intro u R;refine A0<|A3 Y<|Zq<|Zq<|BV<|GM (s:=c.z.S) Wo (fun X=>?_);rw [Bj.keys]at X;refine Zg<|Zm Y<|Zv (Be N6 Y Y)<|A4<|AX Y (fun G=>by cases G)<|fun G=>AC<|Zx<|A0<|Zm Y<|Zp Y V<|Zh 2 F0 V rfl sizeOf113 Y<|Zl Iv Y ?_;refine Zm Y<|Zc [_,_] Y call71 Y V (kF g X) ?_;rintro _ _ ⟨_,⟨rfl,z2,es2,ck2,lm2,su2,U,O,af,J,rfl⟩,rfl⟩;refine A4<|A0<|Zm Y<|Zm Y ?_;rw [B];refine Zc [_,_] Y call47 Y V (Vs h.its Z) ?_;rintro _ _ ⟨_,⟨rfl,eq3,cq3,lq3,ei3,ci3,li3,ek3,ck3,lk3,I,rfl⟩,rfl⟩;refine AG Y<|Zn [4] ?_;refine Zx<|AJ<|AP V results26 Y (by
  refine ⟨rfl,({c with z:=z2,PL:=L1++L2,esP:=es2,ckP:=ck2,lmP:=lm2,su:=su2,its:=c.its.filter fun y=>y.key≠x.key,esQ:=eq3,ckQ:=cq3,lmQ:=lq3,lv:= .pointer none,ML:=[],esI:=ei3,ckI:=ci3,lmI:=li3,esK:=ek3,ckK:=ck3,lmK:=lk3}:CZ),⟨h.pos,h.win,h.wl,h.wp,J,VP h.pk m h.pool.keys B,I,fun y W=>h.tns y (Ek.1 W).1⟩,⟨rfl,rfl,rfl,rfl,O⟩,rfl,⟨rfl,rfl⟩,rfl,rfl,rfl,fun y W=>by rw [m];rcases BE.1 W with h9|h9<;>simp [h9],?_⟩;simp only [U];rfl)
theorem Nv(h:c.okb):BZ prog 19 #[.pointer (some ⟨c.cp,0,none⟩)] [[(c.cp,.cells c.A33 120 (0,0))],[(c.mi,.map c.esI c.ckI)]] (fun r H'=>∃(zs:List ByteArray) (s':List A9),zs.Perm (c.its.map ItM.key)/\(zs.Pairwise fun x y=>x.data.toList<=y.data.toList)/\Row 9 r (zs.map Value.string) s'/\H'=[[(c.cp,.cells c.A33 120 (0,0))],[(c.mi,.map c.esI c.ckI)],s']):=by
 have m:=h.its.len_eq;have I:=m.length_eq
 rw [B2,B2]at I;have U:=h.its.len
 refine Se func19 ntmps19 [0] ?_;intro u R;refine A0<|A3 Y<|Zq<|A0<|Zm Y<|Zv (Be N6 Y Y)<|A4<|AX Y (fun g=>by cases g)<|fun g=>AC<|Zx<|A0<|Zm Y<|Zp Y V<|Zh 4 F0 V rfl O2 Y<|Zl Mz Y ?_;refine Zc [_] Y call64 Y V (fE c.mi) ?_;rintro _ _ ⟨_,⟨O,rfl,rfl⟩,rfl⟩;refine Zc [_] Y call63 Y V (Wi h.its.im A1 O c.mi (M:=[(c.mi,.map c.esI c.ckI)]) B0) ?_;rintro _ _ ⟨_,⟨zs,W,G,B,J,rfl⟩,rfl⟩;refine A3 Y<|AJ<|AP V results19 Y (by exact ⟨zs,W,G.trans m,B,J,V⟩)
theorem nD(c:CZ):BI prog 29 #[.pointer (some ⟨c.cp,0,none⟩)] [[(c.cp,.cells c.A33 120 (0,0))]] (I4 c.pos):=by
 refine Se func29 ntmps29 [0] ?_;intro u R;refine A0<|A3 Y<|Zq<|A0<|Zm Y<|Zv (Be N6 Y Y)<|A4<|AX Y (fun g=>by cases g)<|fun g=>AC<|Zx<|A0<|Zm Y<|Zp Y V<|Zh 0 F0 V rfl A5 Y<|Zl AE Y ?_;refine A3 Y<|AJ<|AP V results29 Y (by exact ⟨V,V⟩)
theorem gD(h:c.okb){k:Nat}(B:k<c.ns):BI prog 30 #[.pointer (some ⟨c.cp,0,none⟩),I4 (k:Int)] [[(c.cp,.cells c.A33 120 (0,0))],c.z.S,[(c.mb,.map c.esP c.ckP)],c.su] (I4 (FU c.PL (k:Int))):=by
 refine Se func30 ntmps30 [0,1] ?_;intro u R;refine A0<|A3 Y<|Zq<|Zq<|GM (s:=c.z.S) Wo (fun m=>?_);rw [Bj.keys]at m;refine Zg<|Zm Y<|Zv (Be N6 Y Y)<|A4<|AX Y (fun g=>by cases g)<|fun g=>AC<|Zx<|A0<|Zm Y<|Zp Y V<|Zh 2 F0 V rfl sizeOf113 Y<|Zl Iv Y ?_;refine Zm Y<|Xr [_,_] Y call77 Y V (vR h.pool m B) ?_;refine A3 Y<|AJ<|AP V results30 Y (by exact ⟨V,V⟩)
def BU.pc(r:BU):Int×List Chg:=(r.p,r.cs)
theorem OU{q:QM}{base:Int}:∀{l l':List BU} {i:Nat} {st:CE×Int},l.map BU.pc=l'.map BU.pc->GD q base i st l=GD q base i st l'
 |[],[],_,_,_=>rfl
 |[],_::_,_,_,h=>by simp at h
 |_::_,[],_,_,h=>by simp at h
 |x::l,y::l',i,st,h=>by
  rw [DQ,DQ]at h;injection h with h1 h2
  injection h1 with h3 h4
  unfold GD;rw [h3,h4];split
  · exact OU h2
  · rfl
theorem O6{base:Int}{win:List BU}(h:(pos -base).toNat<=win.length):(DI pos base win).length=(pos -base).toNat:=by
 unfold DI;rw [C2];omega
theorem PX(h:c.okb){r:BU}(g:r∈c.win):r.cs.length<=8:=by
 obtain ⟨i,hi⟩:=GW g;exact (h.wp i r hi).2.2.len.2
theorem xX{l m:List BU}(g:l.map BU.pc=m.map BU.pc){n:Nat}(h:∀y∈m,y.cs.length<=n):∀y∈l,y.cs.length<=n:=fun y O=>by
 have B:y.pc∈m.map BU.pc:=by rw [<-g];exact DO O
 obtain ⟨w,J,I⟩:=Bk.1 B;have h2:=h w J
 have G:y.cs=w.cs:=(congrArg Prod.snd I).symm;rw [G];exact h2
theorem aS(h:c.ok)(O:x∈c.its):BZ prog 21 #[.pointer (some ⟨c.cp,0,none⟩),.string x.key] [[(c.cp,.cells c.A33 120 (0,0))],[(c.mi,.map c.esI c.ckI)],c.SI,c.M] (fun r H'=>∃G B s,r= .tuple #[.agg #[I4 x.q.kd,I4 x.q.tb,I4 x.q.cl,I4 x.q.lo,I4 x.q.hi,I4 x.q.bq,I4 x.q.ot,I4 x.tn,I4 x.base,.slice G x.L.length B],.bool true]/\G8 s (.slice G x.L.length B) x.L/\H'=[[(c.cp,.cells c.A33 120 (0,0))],[(c.mi,.map c.esI c.ckI)],c.SI,c.M,s]):=by
 have W:=h.its.get O;have g:=h.all x O
 have J:(x.b,Obj.cells x.A32 126 (0,0))∈c.SI:=h.its.sub x O;refine Se func21 ntmps21 [0,1] ?_;intro u R;refine A0<|Ze (EW ZD (cs:=#[I4 0,I4 0,I4 0,I4 0,I4 0,I4 0,I4 0,I4 0,I4 0,.slice none 0 0]) A6)<|AD fun Z=>A3 Y<|Zq<|A0<|Zm Y<|Zv (Be N6 Y Y)<|Zm Y<|Ag (t:=8) Y V (fun U=>by cases U)<|fun U=>Zf Y Y<|Yg (Aq Y V)<|Yf 4 F0 V rfl O2 Y<|Yl Mz Y ?_;refine Zf Y Y<|Dv Y Wh (Db (Dj GF (D:=fun _=>True)) N5 Ss h.its.im (fun _ _=>trivial) (trivial) (by rw [W];first|done|rfl) Y Y) rfl rfl ?_;refine Yg (Be underlying121 Y Y)<|Zv (AL Y Y)<|Z0<|Zn [0,1,4,16] ?_;refine Zx<|AX Y (fun m=>by cases m)<|fun m=>AC<|Zx<|A0<|Zm Y<|Zp Y V<|Zh 4 F0 V rfl O2 Y<|Zl Mz Y ?_;refine Zm Y<|Zo Wh (Db (Dj GF (D:=fun _=>True)) N5 Ss h.its.im (fun _ _=>trivial) (trivial) (by rw [W];first|done|rfl) Y Y) ?_;refine Zp Y V<|Zh 0 HO V rfl Gk Y<|CQ (Gs Wo (J)) (AA (cs:=#[I4 x.q.kd,I4 x.q.tb,I4 x.q.cl,I4 x.q.lo,I4 x.q.hi,I4 x.q.bq,I4 x.q.ot,I4 x.tn,I4 x.base,.slice x.rq x.L.length x.rc]) SJ Gk Y Ax (by exact (by apply HC.1;rfl))) V rfl ?_;refine Zc [_] Y call66 Y V (Qk x.q x.tn x.base g.rp g.rl g.fit) ?_;rintro _ _ ⟨_,⟨G,B,X,rfl,I,rfl⟩,rfl⟩;refine Xe (BK Gk Y Y HJ Wu (by exact Du rfl) E3 AW (by exact BA _)) ?_;refine A3 Y<|AJ<|Bi V results21 Y Wh (Ak SJ Gk Wn (BM V)) Y (by exact ⟨G,B,X,V,I,V⟩)
theorem uA(h:c.ok)(B:∀y∈c.its,y.key≠K):BI prog 21 #[.pointer (some ⟨c.cp,0,none⟩),.string K] [[(c.cp,.cells c.A33 120 (0,0))],[(c.mi,.map c.esI c.ckI)]] (.tuple #[.agg #[I4 0,I4 0,I4 0,I4 0,I4 0,I4 0,I4 0,I4 0,I4 0,.slice none 0 0],.bool false]):=by
 have G:=h.its.none B;refine Se func21 ntmps21 [0,1] ?_;intro u R;refine A0<|Ze (EW ZD (cs:=#[I4 0,I4 0,I4 0,I4 0,I4 0,I4 0,I4 0,I4 0,I4 0,.slice none 0 0]) A6)<|AD fun I=>A3 Y<|Zq<|A0<|Zm Y<|Zv (Be N6 Y Y)<|Zm Y<|Ag (t:=8) Y V (fun m=>by cases m)<|fun m=>Zf Y Y<|Yg (Aq Y V)<|Yf 4 F0 V rfl O2 Y<|Yl Mz Y ?_;refine Zf Y Y<|Dv Y Wh (Db (Dj GF (D:=fun _=>True)) N5 Ss h.its.im (fun _ _=>trivial) (trivial) (by rw [G];first|done|rfl) Y Y) rfl rfl ?_;refine Yg (Jo underlying121 Y Y)<|Zv (AL Y Y)<|Z0<|Zn [0,1,4,16] ?_;refine Zx<|AX Y (fun g=>?_) (fun g=>?_)
 ·
  refine A0<|Zv (BL (vs:=[]) (cs:=#[_,_,_,_,_,_,_,_,_,_]) Y (AY (pl:=#[(0,7),(7,1),(8,1),(9,1)]) ZD Fk (fun _=>by kernel_rfl) rfl))<|Xe (BK Gk Y Y HJ Wu (by exact Du rfl) E3 Wn (by exact BA _)) ?_;refine A3 Y<|AJ<|Zt<|Bi V results21 Y Wh (Ak SJ Gk Wn (BM V)) Y (by exact ⟨V,V⟩)
 cases g
theorem zN(h:c.ok)(m:∀y∈c.its,y.key≠K):BI prog 17 #[.pointer (some ⟨c.cp,0,none⟩),.string K] [[(c.cp,.cells c.A33 120 (0,0))],[(c.mi,.map c.esI c.ckI)]] (.tuple #[.agg #[I4 0,I4 0,I4 0,I4 0,I4 0,I4 0,I4 0,.slice none 0 0,I4 0,.bool false,I4 0,I4 0,I4 0,.slice none 0 0,.slice none 0 0],.bool false]):=by
 refine Se func17 ntmps17 [0,1] ?_;intro u R;refine A0<|Ze (EW HU (cs:=#[I4 0,I4 0,I4 0,I4 0,I4 0,I4 0,I4 0,.slice none 0 0,I4 0,.bool false,I4 0,I4 0,I4 0,.slice none 0 0,.slice none 0 0]) A6)<|AD fun G=>A3 Y<|A0<|Zm Y<|Zm Y<|Xr [_,_] Y call21 Y V (uA h m) ?_;refine Zm Y<|Zd Y V<|Zd Y V<|Ze (EW ZD (cs:=#[I4 0,I4 0,I4 0,I4 0,I4 0,I4 0,I4 0,I4 0,I4 0,.slice none 0 0]) A6)<|AD fun B=>Xe (Xw Gk #[I4 0,I4 0,I4 0,I4 0,I4 0,I4 0,I4 0,I4 0,I4 0,.slice none 0 0]) ?_;refine A3 Y<|Zq<|Zq<|Az (n:=11) (0::1::3::7::15::7::39::103::231::511::1023::[]) 0 A6 A6 V<|A2 0 V (AO Y)<|A2 1 V (Bo Y)<|A2 2 V (AO Y)<|Bu (t:=21) Y (fun g=>?_) (fun g=>?_)
 ·
  rw [g];refine AF 3 V<|AF 4 V<|AF 5 V<|AF 6 V<|AF 7 V<|AF 8 V<|AF 9 V<|A2 10 V (AV Y Y)<|Ah<|Zn [0,4,6,29] ?_;refine Zx<|Cn Y<|A0<|Zv (BL (vs:=[]) (cs:=#[_,_,_,_,_,_,_,_,_,_,_,_,_,_,_]) Y (AY (pl:=#[(0,7),(7,3),(10,1),(11,1),(12,1),(13,1),(14,1)]) HU HP (fun _=>by kernel_rfl) rfl))<|Xe (BK H4 Y Y HJ Wu (by exact Du rfl) E3 Wn (by exact BA _)) ?_;refine A3 Y<|AJ<|Zt<|Bi V results17 Y Wh (Ak cJ H4 Wn (BM V)) Y (by exact ⟨V,V⟩)
 rw [g];cases g
theorem sZ(h:c.ok)(I:x∈c.its)(W:c.pos<x.base):BI prog 17 #[.pointer (some ⟨c.cp,0,none⟩),.string x.key] [[(c.cp,.cells c.A33 120 (0,0))],[(c.mi,.map c.esI c.ckI)],c.SI,c.M] (.tuple #[.agg #[I4 0,I4 0,I4 0,I4 0,I4 0,I4 0,I4 0,.slice none 0 0,I4 0,.bool false,I4 0,I4 0,I4 0,.slice none 0 0,.slice none 0 0],.bool false]):=by
 refine Se func17 ntmps17 [0,1] ?_;intro u R;refine A0<|Ze (EW HU (cs:=#[I4 0,I4 0,I4 0,I4 0,I4 0,I4 0,I4 0,.slice none 0 0,I4 0,.bool false,I4 0,I4 0,I4 0,.slice none 0 0,.slice none 0 0]) A6)<|AD fun U=>A3 Y<|A0<|Zm Y<|Zm Y<|Zc [_,_] Y call21 Y V (aS h I) ?_;rintro _ _ ⟨_,⟨J,B,X,rfl,G,rfl⟩,rfl⟩;refine Zm Y<|Zd Y V<|Zd Y V<|Ze (EW ZD (cs:=#[I4 0,I4 0,I4 0,I4 0,I4 0,I4 0,I4 0,I4 0,I4 0,.slice none 0 0]) A6)<|AD fun O=>Xe (Xw Gk #[I4 x.q.kd,I4 x.q.tb,I4 x.q.cl,I4 x.q.lo,I4 x.q.hi,I4 x.q.bq,I4 x.q.ot,I4 x.tn,I4 x.base,.slice J x.L.length B]) ?_;refine A3 Y<|Zq<|Zq<|Az (n:=11) (0::1::3::7::15::7::39::103::231::511::1023::[]) 0 A6 A6 V<|A2 0 V (AO Y)<|A2 1 V (Bo Y)<|A2 2 V (AO Y)<|Bu (t:=21) Y (fun g=>?_) (fun g=>?_)
 ·
  rw [g];cases g
 rw [g];refine AH 3 V (AB (off:=8) Fk V rfl A5 Y)<|DA 4 V Wh (BO AE Y AN) ?_;refine AH 5 V (AO Y)<|AH 6 V (Aq Y V)<|AH 7 V (AB (off:=0) F0 V rfl A5 Y)<|DA 8 V Wh (BO AE Y AN) ?_;refine AH 9 V (Er Y Y)<|A2 10 V (AL Y Y)<|Ah<|Zn [0,4,6,29] ?_;refine Zx<|Au Y (fun m=>?_) (fun m=>?_)
 ·
  refine A0<|Zv (BL (vs:=[]) (cs:=#[_,_,_,_,_,_,_,_,_,_,_,_,_,_,_]) Y (AY (pl:=#[(0,7),(7,3),(10,1),(11,1),(12,1),(13,1),(14,1)]) HU HP (fun _=>by kernel_rfl) rfl))<|Xe (BK H4 Y Y HJ Wu (by exact Du rfl) E3 Wn (by exact BA _)) ?_;refine A3 Y<|AJ<|Zt<|Bi V results17 Y Wh (Ak cJ H4 Wn (BM V)) Y (by exact ⟨V,V⟩)
 exfalso;omega
set_option maxHeartbeats 1000000 in
theorem xO(h:c.ok)(hx:x∈c.its)(hb:x.base<=c.pos):BZ prog 17 #[.pointer (some ⟨c.cp,0,none⟩),.string x.key] [[(c.cp,.cells c.A33 120 (0,0))],c.sW,[(c.mi,.map c.esI c.ckI)],c.SI,c.M] (fun w H'=>∃(z:KR) (l:List BU) (s s2:List A9),z.a=⟨x.q,x.res,x.since,c.pos,x.base,x.L,l⟩/\l.map BU.pc=(DI c.pos x.base c.win).map BU.pc/\z.ok (s++s2)/\w= .tuple #[.agg z.A31,.bool true]/\H'=[[(c.cp,.cells c.A33 120 (0,0))],c.sW,[(c.mi,.map c.esI c.ckI)],c.SI,c.M,s,s2]):=by
 have sO:=mL;have G:=h.all x hx
 obtain ⟨r0,gy,J⟩:=G.run;have l5:=G.base
 have pg:=h.pos;have ve:=h.wl
 have pq:=Et h.win;have gB:=G.reach
 obtain ⟨wl,g⟩:∃wl,wl=(DI c.pos x.base c.win):=⟨_,rfl⟩;have O:wl.length=(c.pos -x.base).toNat:=by rw [g];exact O6 gB
 have ic:EU (c.sW++c.M) (.slice (ES c.wq (c.win.length -(c.pos -x.base).toNat) c.wc 2) (c.pos -x.base).toNat (c.wc -(c.win.length -(c.pos -x.base).toNat))) wl:=by
  have h1:=NT (a:=c.win.length -(c.pos -x.base).toNat) (iD h.tookb) A1;rw [g];rwa [show c.win.length -(c.win.length -(c.pos -x.base).toNat)=(c.pos -x.base).toNat by omega]at h1
 obtain ⟨cv,ek⟩:∃cv,cv=c.wc -(c.win.length -(c.pos -x.base).toNat):=⟨_,rfl⟩;obtain ⟨pv,gq⟩:∃pv,pv=ES c.wq (c.win.length -(c.pos -x.base).toNat) c.wc 2:=⟨_,rfl⟩;rw [<-ek,<-gq,<-O]at ic;obtain ⟨p8,ql,e8,⟨sM,sJ⟩,l8⟩:=id ic;injection e8 with e81 e82 e83
 subst e81 e83;rw [<-g]at J⊢;refine Se func17 ntmps17 [0,1] ?_;intro u R;refine A0<|Ze (EW HU (cs:=#[I4 0,I4 0,I4 0,I4 0,I4 0,I4 0,I4 0,.slice none 0 0,I4 0,.bool false,I4 0,I4 0,I4 0,.slice none 0 0,.slice none 0 0]) A6)<|AD fun bo=>A3 Y<|A0<|Zm Y<|Zm Y<|Zc [_,_] Y call21 Y V (aS h hx) ?_;rintro _ _ ⟨_,⟨pz,cz,se,rfl,j3,rfl⟩,rfl⟩;refine Zm Y<|Zd Y V<|Zd Y V<|Ze (EW ZD (cs:=#[I4 0,I4 0,I4 0,I4 0,I4 0,I4 0,I4 0,I4 0,I4 0,.slice none 0 0]) A6)<|AD fun be=>Xe (Xw Gk #[I4 x.q.kd,I4 x.q.tb,I4 x.q.cl,I4 x.q.lo,I4 x.q.hi,I4 x.q.bq,I4 x.q.ot,I4 x.tn,I4 x.base,.slice pz x.L.length cz]) ?_;refine A3 Y<|Zq<|Zq<|Az (n:=11) (0::1::3::7::15::7::39::103::231::511::1023::[]) 0 A6 A6 V<|A2 0 V (AO Y)<|A2 1 V (Bo Y)<|A2 2 V (AO Y)<|Bu (t:=21) Y (fun g1=>?_) (fun g1=>?_)
 ·
  rw [g1];cases g1
 rw [g1];refine AH 3 V (AB (off:=8) Fk V rfl A5 Y)<|DA 4 V Wh (BO AE Y AN) ?_;refine AH 5 V (AO Y)<|AH 6 V (Aq Y V)<|AH 7 V (AB (off:=0) F0 V rfl A5 Y)<|DA 8 V Wh (BO AE Y AN) ?_;refine AH 9 V (Er Y Y)<|A2 10 V (AL Y Y)<|Ah<|Zn [0,4,6,29] ?_;refine Zx<|Au Y (fun kv=>by omega)<|fun kv=>AC<|Zx<|A0<|Zm Y<|Zh 8 Fk V rfl A5 Y<|Zl AE Y ?_;refine Xr [_,_] Y call59 Y V (O0 pg x.base l5 ⟨pq,by omega⟩) ?_;rw [AM gB,<-ek,<-gq,<-O];refine Zm Y<|Zd Y V<|Zd Y V<|Za Y<|A3 Y<|Zq<|CK (s1:=c.sW) (s2:=c.M) Wo Wo ?_;refine Zg<|Zm Y<|Zv (Aa GC Y)<|Ze (WV (by_:=32) (sz:=2) (l:=0) GC (V:Tryz.prog.info? 50=some Tryz.t50) V rfl V Y Y ?_ ?_ ?_) ?_
 (focus (omega))
 (focus (omega))
 (focus (omega))
 rintro _ _ ⟨gr,qo,rfl,X,rfl⟩;refine AG Y<|Zn [4,6,8,10] ?_;refine Zx<|Zq<|Zq<|BV<|Zg<|Zm Y<|Zv (Aa GC Y)<|Zm Y<|A4<|AQ<|Zb [10,43,4,6,41,42] ?_;refine BB (e0:=[(10,_),(43,_)]) (fun m e H=>∃(k:Nat) (l:List BU) (vr:Value) (W MR:List A9),m=wl.length -k/\((k<=wl.length/\l.length=k)/\Bb 2 50 vr l.length (Dr l) W/\(∀r∈l,Cr MR (.slice r.q r.cs.length r.cap) r.cs)/\l.map BU.pc=(wl.take k).map BU.pc)/\e=[(10,vr),(43,I4 (k:Int))]/\H=[W,MR]) (by exact ⟨0,[],_,_,[],V,⟨⟨C0 _,V⟩,jw A1 X,fun r Z=>absurd Z B0,V⟩,V,V⟩) Wp ?_;rintro _ _ _ ⟨k,l,vr,W,MR,rfl,⟨⟨hk,l9⟩,hR,bn,B⟩,rfl,rfl⟩;refine A0<|Zv (Av Y Y)<|A4<|Zq<|Au Y (fun o8=>?_) (fun o8=>?_)
 ·
  obtain ⟨r,Z⟩:∃r,wl[k]?=some r:=⟨_,B4 A1⟩;obtain ⟨cO,g9,r9,qw,T9,vo,p9,o9,qz,gm⟩:=l8 k r Z;rw [p9];obtain ⟨gv,af,rfl⟩:=hR.form;have qx:=PX h.tookb (r:=r) (by rw [g]at Z;exact ID (DE Z))
  refine AC<|Zx<|Zq<|AQ<|A0<|BX (Ac GC F2 Y Y A1)<|CQ (Gs Wo (o9)) (AA (cs:=#[I4 r.p,.slice r.q r.cs.length r.cap]) HW F2 Y A1 (by exact gm)) V rfl ?_;refine Ze (Al Sx #[_,_])<|AD fun br=>Xe (Xw F2 #[I4 r.p,.slice r.q r.cs.length r.cap]) ?_;refine A4<|Zg<|Zm Y<|Zo Wh (AA (cs:=#[I4 r.p,.slice r.q r.cs.length r.cap]) HW F2 Y Ax (by exact BM V)) ?_;refine Zc [_] Y call52 Y V (Qj r.p cO A1) ?_;rintro _ _ ⟨_,⟨q2,cap2,s2,rfl,cu,rfl⟩,rfl⟩;refine Ze (Aj (vs:=[_]) (cs:=[_,_]) GC F2 Sx Y V rfl V rfl V)<|AD fun gb=>Ze (BR (by_:=32) (sz:=2) GC (V:Tryz.prog.info? 50=some Tryz.t50) V rfl V rfl Y (hR) Y (DC 2 gb 1 1 50 (0,0) [I4 r.p,.slice q2 r.cs.length cap2] V) Wo Wo Fl A1 A1) ?_;rintro _ _ ⟨qj,I,rfl⟩;obtain ⟨sw,sj,rfl⟩:=I.form;refine AG Y<|A8<|Zx<|CK (s1:=s2) (s2:=MR) Wo Wo ?_;refine Zg<|Ya (n:=1) Y Y<|Zm Y<|Z0<|Zn [10,43,4,6,41,42] ?_;refine Ab (e':=[(10,_),(43,_)]) (by
   exact ⟨k+1,l++[⟨r.p,q2,cap2,r.cs⟩],_,qj,s2++MR,rfl,⟨⟨by omega,by rw [B7,l9];rfl⟩,BS I (by rw [B7];rfl) (by rw [KZ];rfl),fun y U=>by
    rcases BE.1 U with U|U
    · exact Gy (bn y U) s2
    · rw [BT.1 U];exact Jh cu MR,by rw [Bm,B,Bn Z,Bm];rfl⟩,rfl,rfl⟩)
 obtain rfl:k=wl.length:=by omega
 rw [G0]at B;obtain ⟨gv,af,rfl⟩:=hR.form;refine Ay<|Zt<|Zt<|AR<|Zx<|Zq<|jQ (s1:=c.sW) (s2:=c.M) (by repeat(first|exact Ul.here _|apply Ul.there)) ?_;refine CK (s1:=se) (s2:=W) Wo Wo ?_;refine CK (s1:=(se++W)) (s2:=MR) Wo Wo ?_;have j5:EU ((se++W)++MR) (.slice gv l.length af) l:=Ld (Jz hR A1 bn) (fun q hq=>by rcases BE.1 hq with h9|h9<;>simp [h9])
 have d9:∀y∈l,y.cs.length<=1000:=xX B fun y U=>by
  have:=PX h.tookb (r:=y) (by rw [g]at U;exact ID U);omega
 have ax:Jq x.q x.base x.L l=some ⟨x.q,x.res,x.since,c.pos,x.base,x.L,l⟩:=by
  rw [QP gy A1,OU B,J];show some (bG.mk x.q x.res x.since (x.base+(l.length:Int)) x.base x.L l)=_
  rw [show x.base+(l.length:Int)=c.pos by omega]
 refine Zg<|Zo Wh (AA (cs:=#[I4 x.q.kd,I4 x.q.tb,I4 x.q.cl,I4 x.q.lo,I4 x.q.hi,I4 x.q.bq,I4 x.q.ot,I4 x.tn,I4 x.base,.slice pz x.L.length cz]) SJ Gk Y Ax (by exact BM V)) ?_;refine Zm Y<|Zc [_,_] Y call60 Y V (xg x.q x.tn x.base A1 (j3.mono fun q hq=>by simp [hq]) G.rl gy j5 d9) ?_;rintro _ _ ⟨_,⟨z,s9,b9,q9,rfl,rfl⟩,rfl⟩;obtain ⟨rfl,qa,qb⟩:b9=true/\z.a=⟨x.q,x.res,x.since,c.pos,x.base,x.L,l⟩/\z.ok (s9++((se++W)++MR)):=by
  rcases q9 with⟨h1,h2,h3⟩|⟨_,h2⟩
  · rw [ax]at h2;injection h2 with h2;exact ⟨h1,h2.symm,h3⟩
  · rw [ax]at h2;cases h2
 refine Zd Y rfl<|Zd Y rfl<|Xe (BK H4 Y Y HJ Wu (by exact Du rfl) E3 AW (by exact BA _)) ?_;refine A3 Y<|AJ<|Bi V results17 Y Wh (Ak cJ H4 Wn (BM V)) Y (by exact ⟨z,l,s9,(se++W)++MR,qa,B,qb,V,V⟩)
theorem zO(h:c.ok)(I:x∈c.its)(G:x.base<=c.pos):BZ prog 17 #[.pointer (some ⟨c.cp,0,none⟩),.string x.key] [[(c.cp,.cells c.A33 120 (0,0))],c.sW,[(c.mi,.map c.esI c.ckI)],c.SI,c.M] (fun w H'=>∃(z:KR) (l:List BU) (s:List A9),z.a=⟨x.q,x.res,x.since,c.pos,x.base,x.L,l⟩/\l.map BU.pc=(DI c.pos x.base c.win).map BU.pc/\z.ok s/\w= .tuple #[.agg z.A31,.bool true]/\H'=[[(c.cp,.cells c.A33 120 (0,0))],c.sW,[(c.mi,.map c.esI c.ckI)],c.SI,c.M,s]):=by
 refine Gv (xO h I G) V ?_;rintro w H' ⟨z,l,s,s2,g,h2,m,B,rfl⟩;exact ⟨_,⟨z,l,s++s2,g,h2,m,B,V⟩,by simp⟩
theorem wI(h:c.ok){q:QM}(hq:BJ q)(te base:Int)(hb:0<=base/\base<=10000){pg:Option Addr}{O:Nat}{L:List RP}{I:List A9}(hL:G8 I (.slice pg L.length O) L)(cu:L.length<=1000000)(bn:∀x∈L,x.fits){G:CE}(X:EX q L=some G)(Z:¬(c.pos -base).toNat<=c.win.length)(J:TypeId)(zp:Nat×Nat):BZ prog 44 #[.pointer (some ⟨c.cp,0,none⟩),.agg #[I4 q.kd,I4 q.tb,I4 q.cl,I4 q.lo,I4 q.hi,I4 q.bq,I4 q.ot,I4 te,I4 base,.slice pg L.length O]] [[(c.cp,.cells c.A33 120 (0,0))],c.sW,c.M,I,[(1,.cells (Lib.pow10Tab.map fun z=>Value.int .u64 z).toArray J zp)]] (fun w H'=>w= .tuple #[.string ⟨#[]⟩,.pointer none,.bool false]/\H'=[[(c.cp,.cells c.A33 120 (0,0))],c.sW,c.M,I,[(1,.cells (Lib.pow10Tab.map fun z=>Value.int .u64 z).toArray J zp)]]):=by
 have cO:=mL;have W:=h.pos
 have d9:=h.wl;have af:=Et h.win
 refine Se func44 ntmps44 [0,1] ?_;intro u R;refine A0<|Ze (Bx #[I4 q.kd,I4 q.tb,I4 q.cl,I4 q.lo,I4 q.hi,I4 q.bq,I4 q.ot,I4 te,I4 base,.slice pg L.length O])<|AD fun be=>Za Y<|Za Y<|A3 Y<|A0<|Zh 0 Fk V rfl CC Y<|Zo Wh (AA (cs:=q.A30) E4 CC Y Ax (by exact (by apply HC.1;rfl))) ?_;refine Xr [_] Y call11 Y V (NW q hq J zp) ?_;refine Zm Y<|Zd Y V<|Zd Y V<|Za Y<|A3 Y<|Zq<|A0<|Zm Y<|Zv (FR (n:=0) Y Y)<|Zm Y<|Am (t:=22) Y V (fun g1=>?_) (fun g1=>?_)
 ·
  exact absurd V g1
 refine Yf 8 Fk V rfl A5 Y<|Yl AE Y ?_;refine Xr [_] Y call41 Y V (JE base) ?_;rw [CM hb];refine Yg (Bo Y)<|Zv (AL Y Y)<|Z0<|Zn [0,3,7,27] ?_;refine Zx<|AX Y (fun m=>by cases m)<|fun m=>AC<|Zx<|A0<|Zm Y<|Zh 8 Fk V rfl A5 Y<|Zl AE Y ?_;refine Xr [_,_] Y call59 Y V (O0 W base hb ⟨af,by omega⟩) ?_;rw [AK Z];refine Zm Y<|Zd Y V<|Zd Y V<|Za Y<|A3 Y<|A0<|Zh 0 Fk V rfl CC Y<|Zo Wh (AA (cs:=#[_,_,_,_,_,_,_]) E4 CC Y Ax (by exact (by apply HC.1;rfl))) ?_;refine Zh 9 Fk V rfl My Y<|Zl SD Y ?_;refine Zc [_,_] Y call90 Y V (We hL q X) ?_;rintro _ _ ⟨_,⟨ek,sr,rfl,g,rfl⟩,rfl⟩;obtain ⟨ax,U,rfl⟩:=g.form;refine Zm Y<|Zd Y V<|Zd Y V<|Ze (Al G3 #[_,_,_])<|AD fun bs=>Xe (Xw As #[.slice ax G.rows.length U,I4 G.val,.bool G.fnd]) ?_;refine AG Y<|Zn [3,7,9,10,11,12] ?_;refine Zx<|Zq<|A0<|Zm Y<|Zv (Bo Y)<|Zm Y<|Ag (t:=45) Y V (fun g2=>by cases g2)<|fun g2=>Zf Y Y<|Yg (Bo Y)<|Zv (AL Y Y)<|A4<|AX Y (fun B=>?_) (fun B=>?_)
 ·
  refine A0<|Za Y<|Za Y<|A3 Y<|AJ<|Zt<|iw V results44 Y Y Y (by exact ⟨V,V⟩)
 cases B
set_option maxHeartbeats 1000000 in
theorem RJ(h:c.ok){q:QM}(hq:BJ q)(te base:Int)(hb:0<=base/\base<=10000){pg:Option Addr}{cg:Nat}{L:List RP}{ME:List A9}(hL:G8 ME (.slice pg L.length cg) L)(d9:L.length<=1000000)(X:∀x∈L,x.fits){g:CE}(af:EX q L=some g)(ax:(c.pos -base).toNat<=c.win.length)(Tp:TypeId)(zp:Nat×Nat):BZ prog 44 #[.pointer (some ⟨c.cp,0,none⟩),.agg #[I4 q.kd,I4 q.tb,I4 q.cl,I4 q.lo,I4 q.hi,I4 q.bq,I4 q.ot,I4 te,I4 base,.slice pg L.length cg]] [[(c.cp,.cells c.A33 120 (0,0))],c.sW,c.M,ME,[(1,.cells (Lib.pow10Tab.map fun z=>Value.int .u64 z).toArray Tp zp)]] (fun w H'=>∃b rq rc wq wc s1 s2,w= .tuple #[.string (str (Cv q)),I5 b,.bool (BC q g base (DI c.pos base c.win)).2.2]/\G8 s1 (.slice rq L.length rc) L/\De s2 (.slice wq (BC q g base (DI c.pos base c.win)).1.rows.length wc) (BC q g base (DI c.pos base c.win)).1.rows/\H'=[[(c.cp,.cells c.A33 120 (0,0))],c.sW,c.M,ME,[(1,.cells (Lib.pow10Tab.map fun z=>Value.int .u64 z).toArray Tp zp)],[(b,.cells #[I4 q.kd,I4 q.tb,I4 q.cl,I4 q.lo,I4 q.hi,I4 q.bq,I4 q.ot,I4 te,I4 base,.slice rq L.length rc,I4 0,.slice wq (BC q g base (DI c.pos base c.win)).1.rows.length wc,I4 (BC q g base (DI c.pos base c.win)).1.val,.bool (BC q g base (DI c.pos base c.win)).1.fnd,I4 (BC q g base (DI c.pos base c.win)).2.1] 126 (0,0))],s1,s2]):=by
 have j3:=mL;have gq:=h.pos
 have kv:=h.wl;have gB:=Et h.win
 obtain ⟨wl,B⟩:∃wl,wl=DI c.pos base c.win:=⟨_,rfl⟩;have I:wl.length=(c.pos -base).toNat:=by rw [B];exact O6 ax
 have bn:EU (c.sW++c.M) (.slice (ES c.wq (c.win.length -(c.pos -base).toNat) c.wc 2) (c.pos -base).toNat (c.wc -(c.win.length -(c.pos -base).toNat))) wl:=by
  have h1:=NT (a:=c.win.length -(c.pos -base).toNat) (iD h.tookb) A1;rw [B];rwa [show c.win.length -(c.win.length -(c.pos -base).toNat)=(c.pos -base).toNat by omega]at h1
 obtain ⟨cv,W⟩:∃cv,cv=c.wc -(c.win.length -(c.pos -base).toNat):=⟨_,rfl⟩;obtain ⟨pv,Z⟩:∃pv,pv=ES c.wq (c.win.length -(c.pos -base).toNat) c.wc 2:=⟨_,rfl⟩;rw [<-W,<-Z,<-I]at bn;rw [<-B];have U:∀y∈wl,y.cs.length<=1000:=fun y hy=>by
  have:=PX h.tookb (r:=y) (by rw [B]at hy;exact ID hy);omega
 obtain ⟨_,j5,gy⟩:=LV af;refine Se func44 ntmps44 [0,1] ?_;intro u R;refine A0<|Ze (Bx #[I4 q.kd,I4 q.tb,I4 q.cl,I4 q.lo,I4 q.hi,I4 q.bq,I4 q.ot,I4 te,I4 base,.slice pg L.length cg])<|AD fun be=>Za Y<|Za Y<|A3 Y<|A0<|Zh 0 Fk V rfl CC Y<|Zo Wh (AA (cs:=q.A30) E4 CC Y Ax (by exact (by apply HC.1;rfl))) ?_;refine Xr [_] Y call11 Y V (NW q hq Tp zp) ?_;refine Zm Y<|Zd Y V<|Zd Y V<|Za Y<|A3 Y<|Zq<|A0<|Zm Y<|Zv (FR (n:=0) Y Y)<|Zm Y<|Am (t:=22) Y V (fun g1=>?_) (fun g1=>?_)
 ·
  exact absurd V g1
 refine Yf 8 Fk V rfl A5 Y<|Yl AE Y ?_;refine Xr [_] Y call41 Y V (JE base) ?_;rw [CM hb];refine Yg (Bo Y)<|Zv (AL Y Y)<|Z0<|Zn [0,3,7,27] ?_;refine Zx<|AX Y (fun J=>by cases J)<|fun J=>AC<|Zx<|A0<|Zm Y<|Zh 8 Fk V rfl A5 Y<|Zl AE Y ?_;refine Xr [_,_] Y call59 Y V (O0 gq base hb ⟨gB,by omega⟩) ?_;rw [AM ax,<-W,<-Z,<-I];refine Zm Y<|Zd Y V<|Zd Y V<|Za Y<|A3 Y<|A0<|Zh 0 Fk V rfl CC Y<|Zo Wh (AA (cs:=#[_,_,_,_,_,_,_]) E4 CC Y Ax (by exact (by apply HC.1;rfl))) ?_;refine Zh 9 Fk V rfl My Y<|Zl SD Y ?_;refine Zc [_,_] Y call90 Y V (We hL q af) ?_;rintro _ _ ⟨_,⟨l5,sr,rfl,G,rfl⟩,rfl⟩;obtain ⟨ic,cu,rfl⟩:=G.form;refine Zm Y<|Zd Y V<|Zd Y V<|Ze (Al G3 #[_,_,_])<|AD fun bs=>Xe (Xw As #[.slice ic g.rows.length cu,I4 g.val,.bool g.fnd]) ?_;refine AG Y<|Zn [3,7,9,10,11,12] ?_;refine Zx<|Zq<|A0<|Zm Y<|Zv (Bo Y)<|Zm Y<|Ag (t:=45) Y V (fun g2=>by cases g2)<|fun g2=>Zf Y Y<|Yg (Bo Y)<|Zv (AL Y Y)<|A4<|AX Y (fun O=>by cases O)<|fun O=>AC<|Zx<|Zq ?_;have gm:=DU G A1
 refine CK (s1:=c.sW) (s2:=c.M) Wo Wo ?_;refine Zg<|Zh 0 Fk V rfl CC Y<|Zo Wh (AA (cs:=#[_,_,_,_,_,_,_]) E4 CC Y Ax (by exact (by apply HC.1;rfl))) ?_;refine Zo Wh (AA (cs:=#[_,_,_]) BW As Y Ax (by exact BM V)) ?_;refine Zh 8 Fk V rfl A5 Y<|Zl AE Y ?_;refine Zm Y<|Zc [_,_,_,_] Y call91 Y V (QZ q hq base A1 bn A1 U gm A1 gy) ?_;rintro _ _ ⟨_,⟨l8,s3,rfl,m,rfl⟩,rfl⟩;obtain ⟨wq,wc,rfl⟩:=m.form;have cO:=MI m
 refine Zm Y<|Zd Y rfl<|Zd Y rfl<|Zd Y rfl<|Xe (BK As Y Y HJ Wu (by exact (rfl:_=(#[.slice wq (BC q g base wl).1.rows.length wc,I4 (BC q g base wl).1.val,.bool (BC q g base wl).1.fnd]:Array Value))) E3 Ax (by exact BA _)) ?_;refine Za Y<|AG Y<|Zn [3,7,11,12,13] ?_;refine Zx<|Zq<|jQ (s1:=c.sW) (s2:=c.M) (by repeat(first|exact Ul.here _|apply Ul.there)) ?_;refine Az (n:=11) (0::0::2::0::0::30::62::0::7::383::1023::[]) 68 A6 A6 V<|A2 0 V (AO Y)<|E6 1 V Wh (AA (cs:=#[_,_,_,_,_,_,_,_,_,_]) SJ Gk Y Ax (by exact BM V)) ?_;refine E6 3 V Wh (AA (cs:=#[_,_,_]) BW As Y Ax (by exact BM V)) ?_;refine A2 4 V (AO Y)<|A2 7 V (AO Y)<|Zz (l:=[2])<|B1 [true,false] [(3,(_,_))] V rfl (Zw [_] Y call66 Y V (Qk q te base hL d9 X)) ?_ Bz Ai;rintro _ _ ⟨_,⟨rq,rc,s1,rfl,ek,rfl⟩,rfl⟩;refine B5<|A2 5 V (BL (vs:=[(0,.agg #[I4 q.kd,I4 q.tb,I4 q.cl,I4 q.lo,I4 q.hi,I4 q.bq,I4 q.ot,I4 te,I4 base,.slice rq L.length rc]),(2,.agg #[.slice wq (BC q g base wl).1.rows.length wc,I4 (BC q g base wl).1.val,.bool (BC q g base wl).1.fnd]),(3,I4 (BC q g base wl).2.1)]) (cs:=#[I4 q.kd,I4 q.tb,I4 q.cl,I4 q.lo,I4 q.hi,I4 q.bq,I4 q.ot,I4 te,I4 base,.slice rq L.length rc,I4 0,.slice wq (BC q g base wl).1.rows.length wc,I4 (BC q g base wl).1.val,.bool (BC q g base wl).1.fnd,I4 (BC q g base wl).2.1]) Y (AY (pl:=#[(0,10),(10,1),(11,3),(14,1)]) zeroValue126 HO (fun _=>by kernel_rfl) A6))<|A2 8 V (Aw Y)<|Zz (l:=[6])<|B1 [false] [] V rfl (Bx #[I4 q.kd,I4 q.tb,I4 q.cl,I4 q.lo,I4 q.hi,I4 q.bq,I4 q.ot,I4 te,I4 base,.slice rq L.length rc,I4 0,.slice wq (BC q g base wl).1.rows.length wc,I4 (BC q g base wl).1.val,.bool (BC q g base wl).1.fnd,I4 (BC q g base wl).2.1]) ?_ (fun _ _ h=>h.elim) Ai;rintro _ _ ⟨b,rfl,rfl⟩;refine B5<|A2 9 V (Aw Y)<|A2 10 V (Aw Y)<|Ah<|Zx<|AJ<|iw V results44 Y Y Y (by exact ⟨b,rq,rc,wq,wc,s1,s3,V,ek,DU m cO,V⟩)
end Go.Proofs.YteaiajghbkenoaaGreatDoor
