/- What a cache keeps; after, forget, remember. -/
/- A cache in memory; Drop, Keys, Position, Used, Touch. -/
/- Entry, Get. -/
/- prepared. -/
import Derived.Test.YteaiajghbkenoaaGreatDoorEz
import Derived.Test.YteaiajghbkenoaaGreatDoorCo1
import Derived.Test.YteaiajghbkenoaaGreatDoorMm3
import Derived.Test.YteaiajghbkenoaaGreatDoorPy5
import Derived.Test.YteaiajghbkenoaaGreatDoorEx36
set_option linter.unusedVariables false
set_option linter.unusedSimpArgs false
namespace Go.Proofs.YteaiajghbkenoaaGreatDoor
open Go.Proofs.Tryz
open Go Go.RowKit Gw
set_option maxRecDepth 100000
attribute [local irreducible] Gw.At Gw.Nx Gw.Ops
structure ItM where
 b:Nat
 id:Int
 q:QM
 tn:Int
 base:Int
 rq:Option Addr
 rc:Nat
 L:List RP
 res:Bw
 wq:Option Addr
 wc:Nat
 since:Int
def ItM.key(x:ItM):ByteArray:=str (CV x.q)
def ItM.iq(x:ItM):Int×QM:=(x.id,x.q)
def ItM.obj(x:ItM):Obj:= .cells #[I4 x.q.kd,I4 x.q.tb,I4 x.q.cl,I4 x.q.lo,I4 x.q.hi,I4 x.q.bq,I4 x.q.ot,I4 x.tn,I4 x.base,.slice x.rq x.L.length x.rc,I4 x.id,.slice x.wq x.res.rows.length x.wc,I4 x.res.val,.bool x.res.fnd,I4 x.since] 126 (0,0)
def ItM.ch(x:ItM):A8:=(x.b,x.obj)
def Cv(pos base:Int)(win:List BN):List BN:=win.drop (win.length -(pos -base).toNat)
structure ItM.ok(M MR:List A8)(pos:Int)(win:List BN)(x:ItM):Prop where
 q:BH x.q
 base:0<=x.base/\x.base<=10000
 tn:0<=x.tn/\x.tn<=1000000
 rp:Fg M (.slice x.rq x.L.length x.rc) x.L
 rl:x.L.length<=1000000
 fit:∀y∈x.L,y.fits
 rw:Dh MR (.slice x.wq x.res.rows.length x.wc) x.res.rows
 reach:(pos -x.base).toNat<=win.length
 run:∃r0,ED x.q x.L=some r0/\FX x.q x.base 0 (r0,x.base) (Cv pos x.base win)=some (x.res,x.since)
variable{pos:Int}{x:ItM}
theorem ItM.ok.mono{M M' MR MR':List A8}{win:List BN}(h:x.ok M MR pos win)(hm:∀c∈M,c∈M')(hr:∀c∈MR,c∈MR'):x.ok M' MR' pos win:=⟨h.q,h.base,h.tn,h.rp.mono hm,h.rl,h.fit,h.rw.mono hr,h.reach,h.run⟩
structure Fy(its:List ItM)(next:Int)(esQ:Array MapEntry)(ckQ:Nat)(lmQ:List (Int×Value))(lv:Value)(ML:List A8)(esI:Array MapEntry)(ckI:Nat)(lmI:List (ByteArray×Value))(esK:Array MapEntry)(ckK:Nat)(lmK:List (Int×Value))(SI:List A8):Prop where
 idx:EM (its.map ItM.iq) esQ ckQ lmQ
 ist:VC (its.map ItM.iq) lv ML
 im:Ce (fun k:ByteArray=>Value.string k) esI ckI lmI
 imem:∀p,p∈lmI↔∃x∈its,p=(x.key,pV x.b)
 km:Ce (fun n:Int=>Value.int .i64 n) esK ckK lmK
 kmem:∀p,p∈lmK↔∃x∈its,p=(x.id,.string x.key)
 keys:(its.map ItM.key).Nodup
 ids:∀x∈its,1<=x.id/\x.id<=next
 nx:0<=next/\next<=1000000000
 len:its.length<=500
 q:∀x∈its,BH x.q
 sub:∀x∈its,x.ch∈SI
variable{its:List ItM}{next:Int}{esQ esI esK:Array MapEntry}{ckQ ckI ckK:Nat}{lmQ lmK:List (Int×Value)}{lv:Value}{ML SI:List A8}{lmI:List (ByteArray×Value)}
theorem Fy.get(h:Fy its next esQ ckQ lmQ lv ML esI ckI lmI esK ckK lmK SI)(hx:x∈its):Dm x.key lmI=some (pV x.b):=Ck h.im.keys ((h.imem _).2 ⟨x,hx,rfl⟩)
theorem Fy.none{its:List ItM}{next:Int}{esQ:Array MapEntry}{ckQ:Nat}{lmQ:List (Int×Value)}{lv:Value}{ML:List A8}{esI:Array MapEntry}{ckI:Nat}{lmI:List (ByteArray×Value)}{esK:Array MapEntry}{ckK:Nat}{lmK:List (Int×Value)}{SI:List A8}(h:Fy its next esQ ckQ lmQ lv ML esI ckI lmI esK ckK lmK SI){K:ByteArray}(hK:∀x∈its,x.key≠K):Dm K lmI=none:=D9 fun p hp=>by
 obtain ⟨x,hx,rfl⟩:=(h.imem p).1 hp;exact hK x hx
theorem Fy.len_eq(h:Fy its next esQ ckQ lmQ lv ML esI ckI lmI esK ckK lmK SI):(lmI.map (·.1)).Perm (its.map ItM.key):=by
 refine (AC0 h.im.keys h.keys).2 fun a=>?_;constructor
 · intro ha
   obtain ⟨p,hp,rfl⟩:=zQ.1 ha;obtain ⟨x,hx,rfl⟩:=(h.imem p).1 hp;exact zS hx
 · intro ha
   obtain ⟨x,hx,rfl⟩:=zQ.1 ha;exact zQ.2 ⟨_,(h.imem _).2 ⟨x,hx,V⟩,V⟩
theorem Vs(hk:(its.map ItM.key).Nodup)(hi:((its.map ItM.iq).map (·.1)).Nodup){y:ItM}(hx:x∈its)(hy:y∈its):y.key≠x.key↔y.id≠x.id:=by
 rw [AF0]at hi;constructor
 · intro h e;exact h (by rw [G7 hi hx hy e.symm])
 · intro h e;exact h (by rw [G7 hk hx hy e.symm])
theorem uE(h:Fy its next esQ ckQ lmQ lv ML esI ckI lmI esK ckK lmK SI)(hx:x∈its)
 {esQ':Array MapEntry}{ckQ':Nat}{lmQ':List (Int×Value)}(hq:EM ((its.map ItM.iq).filter fun y=>y.1≠x.id) esQ' ckQ' lmQ'){esI':Array MapEntry}{ckI':Nat}{lmI':List (ByteArray×Value)}(hm:Ce (fun k:ByteArray=>Value.string k) esI' ckI' lmI')(hp:∀p,p∈lmI'↔p∈lmI/\p.1≠x.key)
 {esK':Array MapEntry}{ckK':Nat}{lmK':List (Int×Value)}(hk:Ce (fun n:Int=>Value.int .i64 n) esK' ckK' lmK')(hp2:∀p,p∈lmK'↔p∈lmK/\p.1≠x.id):Fy (its.filter fun y=>y.key≠x.key) next esQ' ckQ' lmQ' (.pointer none) [] esI' ckI' lmI' esK' ckK' lmK' SI:=by
 have hids:=h.idx.ids;have e1:(its.filter fun y=>y.key≠x.key).map ItM.iq=(its.map ItM.iq).filter fun y=>y.1≠x.id:=by
  rw [List.filter_map];congr 1;refine AN0 fun y hy=>?_;exact decide_eq_decide.2 (Vs h.keys hids hx hy)
 have hf:∀y,y∈(its.filter fun y=>y.key≠x.key)↔y∈its/\y.key≠x.key:=fun y=>by rw [AA2];simp
 refine ⟨by rw [e1];exact hq,.inl ⟨rfl,rfl⟩,hm,fun p=>?_,hk,fun p=>?_,h.keys.sublist (AF5.map _),fun y hy=>h.ids y ((hf y).1 hy).1,h.nx,AK0 (AD3 _ _) h.len,fun y hy=>h.q y ((hf y).1 hy).1,fun y hy=>h.sub y ((hf y).1 hy).1⟩
 · rw [hp,h.imem]
   constructor
   · rintro ⟨⟨y,hy,rfl⟩,hn⟩;exact ⟨y,(hf y).2 ⟨hy,hn⟩,rfl⟩
   · rintro ⟨y,hy,rfl⟩;exact ⟨⟨y,((hf y).1 hy).1,rfl⟩,((hf y).1 hy).2⟩
 · rw [hp2,h.kmem]
   constructor
   · rintro ⟨⟨y,hy,rfl⟩,hn⟩;exact ⟨y,(hf y).2 ⟨hy,(Vs h.keys hids hx hy).2 hn⟩,rfl⟩
   · rintro ⟨y,hy,rfl⟩;exact ⟨⟨y,((hf y).1 hy).1,rfl⟩,(Vs h.keys hids hx ((hf y).1 hy).1).1 ((hf y).1 hy).2⟩
theorem uF(h:Fy its next esQ ckQ lmQ lv ML esI ckI lmI esK ckK lmK SI)(hx:∀y∈its,y.key≠x.key)(hid:x.id=next+1)(hn:next<1000000000)(hl:its.length<500)(hv:BH x.q)
 {esQ':Array MapEntry}{ckQ':Nat}{lmQ':List (Int×Value)}(hq:EM (its.map ItM.iq++[(x.id,x.q)]) esQ' ckQ' lmQ'){esI':Array MapEntry}{ckI':Nat}{lmI':List (ByteArray×Value)}(hm:Ce (fun k:ByteArray=>Value.string k) esI' ckI' lmI')(hp:∀p,p∈lmI'↔p=(x.key,pV x.b)\/(p∈lmI/\p.1≠x.key))
 {esK':Array MapEntry}{ckK':Nat}{lmK':List (Int×Value)}(hk:Ce (fun n:Int=>Value.int .i64 n) esK' ckK' lmK')(hp2:∀p,p∈lmK'↔p=(x.id,.string x.key)\/(p∈lmK/\p.1≠x.id)):Fy (its++[x]) (next+1) esQ' ckQ' lmQ' (.pointer none) [] esI' ckI' lmI' esK' ckK' lmK' (SI++[x.ch]):=by
 have hnx:=h.nx;refine ⟨by rw [zK];exact hq,.inl ⟨rfl,rfl⟩,hm,fun p=>?_,hk,fun p=>?_,?_,fun y hy=>?_,by omega,by rw [zG];simp;omega,fun y hy=>?_,fun y hy=>?_⟩
 · rw [hp,h.imem]
   constructor
   · rintro (rfl|⟨⟨y,hy,rfl⟩,_⟩)
     · exact ⟨x,by simp,rfl⟩
     · exact ⟨y,zR _ hy,rfl⟩
   · rintro ⟨y,hy,rfl⟩
     rcases zJ.1 hy with hy|hy
     · exact .inr ⟨⟨y,hy,rfl⟩,hx y hy⟩
     · rw [zI.1 hy];exact .inl rfl
 · rw [hp2,h.kmem]
   constructor
   · rintro (rfl|⟨⟨y,hy,rfl⟩,_⟩)
     · exact ⟨x,by simp,rfl⟩
     · exact ⟨y,zR _ hy,rfl⟩
   · rintro ⟨y,hy,rfl⟩
     rcases zJ.1 hy with hy|hy
     · have:=h.ids y hy
       exact .inr ⟨⟨y,hy,V⟩,by show y.id≠x.id;omega⟩
     · rw [zI.1 hy];exact .inl rfl
 · rw [zK,AA5]
   refine ⟨h.keys,by simp,fun a ha b hb=>?_⟩;obtain ⟨y,hy,rfl⟩:=zQ.1 ha;obtain rfl:=zI.1 hb;exact hx y hy
 · rcases zJ.1 hy with hy|hy
   · have:=h.ids y hy;omega
   · rw [zI.1 hy];omega
 · rcases zJ.1 hy with hy|hy
   · exact h.q y hy
   · rw [zI.1 hy];exact hv
 · rcases zJ.1 hy with hy|hy
   · exact zR _ (h.sub y hy)
   · rw [zI.1 hy];simp
variable{mq:Nat}
theorem Vw{bx:Nat}{es:Array MapEntry}{ck:Nat}{lm:List (Int×Value)}(hok:EM (its.map ItM.iq) es ck lm)(hx:x∈its):BR Tryz.prog 98 #[I5 bx,I4 x.id] [[(bx,.cells #[.map (some mq),lv] 186 (0,0))],[(mq,.map es ck)]]
 (fun r H'=>∃es' ck' lm',r= .bool true/\EM ((its.map ItM.iq).filter fun y=>y.1≠x.id) es' ck' lm'/\H'=[[(bx,.cells #[.map (some mq),.pointer none] 186 (0,0))],[(mq,.map es' ck')]]):=VF hok (x:=x.iq) (zS hx)
theorem NA{M:List A8}{p:Option Addr}{cap a:Nat}{l:List BN}(h:EA M (.slice p l.length cap) l)(ha:a<=l.length):EA M (.slice (En p a cap 2) (l.length -a) (cap -a)) (l.drop a):=by
 obtain ⟨p',cap',e,⟨hl,hlc⟩,hg⟩:=h;injection e with e1 e2 e3
 subst e1 e3;refine ⟨_,_,by rw [zO],⟨by rw [zO];omega,by rw [zO];omega⟩,fun i x hx=>?_⟩;rw [AE1]at hx;have hi:=(zF.1 hx).1
 obtain ⟨h1,g,off,cur,T,zz,rfl,hm,hsz,hex⟩:=hg (a+i) x hx;have hc:En (some ⟨g,off,none⟩) a cap 2=some ⟨g,off+a*2,none⟩:=by
  unfold En;rw [Am6 Ao7,AG6,Cn]
 rw [hc];exact ⟨h1,g,_,cur,T,zz,rfl,hm,by omega,by rw [show off+a*2+i*2=off+(a+i)*2 by omega];exact hex⟩
theorem Iz(n:Int):BJ Tryz.prog 41 #[I4 n] [] (.bool (decide (0<=n/\n<=10000))):=by
 refine Se func41 ntmps41 [0] ?_;intro u R;refine Zq<|Zg<|Za Y<|Z0<|Zx<|Zq<|Zg<|Zm Y<|Zv (Iq Y Y)<|Zm Y<|Ak (t:=5) Y V (fun h1=>?_) (fun h1=>?_)
 ·
  refine Zf Y Y<|Yg (OD Y Y)<|Zv (AZ Y Y)<|Za Y<|Z0<|Zx<|AC<|AL V results41 Y (by exact ⟨congrArg Value.bool (by simp [h1]),V⟩)
 refine A7 Y V<|A7 Y V<|Zv (AU Y Y)<|Za Y<|Z0<|Zx<|AC<|AL V results41 Y (by exact ⟨congrArg Value.bool (by simp [h1]),V⟩)
variable{mk mi ip r cp:Nat}
theorem Na{wq:Option Addr}{wn wc:Nat}(hp:0<=pos/\pos<=10000)(base:Int)(hb:0<=base/\base<=10000)(hw:wn<=wc/\wn<=1000000):BJ Tryz.prog 59 #[I5 cp,I4 base] [[(cp,.cells #[I4 pos,.slice wq wn wc,I5 r,I5 ip,.map (some mi),.map (some mk),I4 next] 120 (0,0))]] (if(pos -base).toNat<=wn then .tuple #[.slice (En wq (wn -(pos -base).toNat) wc 2) (pos -base).toNat (wc -(wn -(pos -base).toNat)),.bool true]else .tuple #[.slice none 0 0,.bool false]):=by
 have hml:=mL;obtain ⟨n,hn⟩:∃n:Nat,n=(pos -base).toNat:=⟨_,rfl⟩;have hmx:max (pos -base) 0=(n:Int):=by omega
 rw [<-hn];refine Se func59 ntmps59 [0,1] ?_;intro u R;refine Zq<|Zg<|Za Y<|Za Y<|Z0<|Zx<|Zq<|Zg<|Zm Y<|Zp Y V<|Zh 0 AV2 V rfl AU1 Y<|Zl AU2 Y ?_;refine Zm Y ?_
 (refine Bq (Hz Y Y (IntWalk.i64_in _ ?_)) ?_;(focus (omega)))
 refine Zv (PV Y Y)<|Za Y<|Z0<|Zx<|Zq<|Zq ?_;rw [hmx];refine Zg<|Zm Y<|Zm Y<|Zp Y V<|Zh 1 AV2 V rfl Ae8 Y<|Zl Ak3 Y ?_;refine Zv (Aa AV9 Y)<|Zv (Df Y Y)<|Z0<|Zn [0,6,20] ?_;refine Zx<|Aw Y (fun hg=>?_) (fun hg=>?_)
 ·
  refine Zq<|Zg<|Za Y<|Za Y<|Z0<|Zx<|AC<|Zt<|Ci rfl results59 Y Y (by exact ⟨by rw [Am6 Ao7],rfl⟩)
 refine AJ<|Zx<|Zq<|Az (n:=14) (0::1::3::7::0::16::48::112::240::0::1008::2047::4095::8191::[]) 0 Ao8 Ao8 V<|An9 0 V (AP Y)<|An9 1 V (Am Y V)<|An9 2 V (AB (off:=1) AV2 V rfl Ae8 Y)<|Ao0 3 V Ak3 Y ?_;refine An9 4 V (AP Y)<|An9 5 V (Am Y V)<|An9 6 V (AB (off:=1) AV2 V rfl Ae8 Y)<|Ao0 7 V Ak3 Y ?_;refine An9 8 V (Aa AV9 Y)<|An9 9 V (AP Y) ?_
 (refine Ev (D':=2047) 10 (CS Y Y ?_ ?_) ?_;(focus (omega));(focus (omega)))
 refine An9 11 V (CR AV9 AX5 Y Y Ao7)<|An9 12 V (Aq Y)<|An9 13 V (Aq Y)<|Ag<|Zn [4,5] ?_;refine Zx<|AC<|Ci rfl results59 Y Y (by exact ⟨by rw [Am7 Ao7,show wn -(wn -n)=n by omega],rfl⟩)
variable{wv:Value}
theorem Ut(h:Fy its next esQ ckQ lmQ lv ML esI ckI lmI esK ckK lmK SI)(hx:x∈its):BR Tryz.prog 47 #[I5 cp,.string x.key] [[(cp,.cells #[I4 pos,wv,I5 r,I5 ip,.map (some mi),.map (some mk),I4 next] 120 (0,0))],[(ip,.cells #[.map (some mq),lv] 186 (0,0))],[(mq,.map esQ ckQ)],[(mi,.map esI ckI)],[(mk,.map esK ckK)],SI] (fun v H'=>v= .bool true/\∃esQ' ckQ' lmQ' esI' ckI' lmI' esK' ckK' lmK',Fy (its.filter fun y=>y.key≠x.key) next esQ' ckQ' lmQ' (.pointer none) [] esI' ckI' lmI' esK' ckK' lmK' SI/\H'=[[(cp,.cells #[I4 pos,wv,I5 r,I5 ip,.map (some mi),.map (some mk),I4 next] 120 (0,0))],[(ip,.cells #[.map (some mq),.pointer none] 186 (0,0))],[(mq,.map esQ' ckQ')],[(mi,.map esI' ckI')],[(mk,.map esK' ckK')],SI]):=by
 have hg:=h.get hx;have hch:(x.b,Obj.cells #[I4 x.q.kd,I4 x.q.tb,I4 x.q.cl,I4 x.q.lo,I4 x.q.hi,I4 x.q.bq,I4 x.q.ot,I4 x.tn,I4 x.base,.slice x.rq x.L.length x.rc,I4 x.id,.slice x.wq x.res.rows.length x.wc,I4 x.res.val,.bool x.res.fnd,I4 x.since] 126 (0,0))∈SI:=h.sub x hx
 have hiq:x.iq∈its.map ItM.iq:=zS hx;refine Se func47 ntmps47 [0,1] ?_;intro u R;refine Zq<|Zg<|Za Y<|Z0<|Zx<|Zq<|Zg<|Zm Y<|Zp Y V<|Zh 4 AV2 V rfl Ad4 Y<|Zl Ae7 Y ?_;refine Zm Y<|Zo Wh (De (DT AW6 (D:=fun _=>True)) AZ2 Ab7 h.im (fun _ _=>trivial) (trivial) (⟨by rw [hg];first|done|rfl,by rw [hg];first|done|rfl⟩) Y Y) ?_;refine Zm Y<|Zd Y V<|Zd Y V<|Za Y<|Za Y<|Z0<|Zx<|Zq<|Zq<|Zg<|Zm Y<|Zv (Br Y)<|Z0<|Zn [0,1,5,17] ?_;refine Zx<|AR Y (fun hb9=>?_) (fun hb9=>?_)
 ·
  cases hb9
 refine AJ<|Zx<|Zq<|Az (n:=9) (0::1::3::7::0::16::48::112::255::[]) 256 Ao8 Ao8 V<|An9 0 V (AP Y)<|An9 1 V (Am Y V)<|An9 2 V (AB (off:=3) AV2 V rfl sizeOf116 Y)<|Ao0 3 V isAgg116 Y ?_;refine An9 4 V (AP Y)<|An9 5 V (Am Y V)<|An9 6 V (AB (off:=10) AX1 V rfl AU1 Y)<|Cw (D':=255) 7 V rfl V (F6 Wo (hch)) (BX AU2 Y Ap1) ?_;refine Zz (l:=[8])<|Ao5 [false,false] [] V rfl (Zw [_,_] Y call98 Y V (Vw h.idx hx)) ?hk_1 Bp ?hl_1
 case hk_1=>
  rintro _ _ ⟨_,⟨esQ2,ckQ2,lmQ2,rfl,hidx,rfl⟩,rfl⟩;refine ⟨AV,?_⟩;refine Ag<|Zx<|Zq<|Az (n:=9) (0::1::3::7::0::16::48::112::255::[]) 256 Ao8 Ao8 V<|An9 0 V (AP Y)<|An9 1 V (Am Y V)<|An9 2 V (AB (off:=5) AV2 V rfl sizeOf91 Y)<|Ao0 3 V isAgg91 Y ?_;refine An9 4 V (AP Y)<|An9 5 V (Am Y V)<|An9 6 V (AB (off:=10) AX1 V rfl AU1 Y)<|Cw (D':=255) 7 V rfl V (F6 Wo (hch)) (BX AU2 Y Ap1) ?_;refine Yw 8 511 V (Kq (CO AV3 (D:=fun _=>True)) Af6 h.km (fun _ _=>trivial) (trivial) Y Y Wo) ?_;rintro _ _ ⟨rfl,es5,ck5,lm5,hm5,hp5,rfl⟩;refine Ag<|Zn [0,1] ?_;refine Zx<|Zq<|Zg<|Zm Y<|Zp Y V<|Zh 4 AV2 V rfl Ad4 Y<|Zl Ae7 Y ?_;refine Zm Y<|Ze (Kq (DT AW6 (D:=fun _=>True)) AZ2 h.im (fun _ _=>trivial) (trivial) Y Y Wo) ?_;rintro _ _ ⟨rfl,es6,ck6,lm6,hm6,hp6,rfl⟩;refine Z0<|Zx<|Zq<|Zg<|Za Y<|Z0<|Zx<|AC<|AL V results47 Y (by exact ⟨V,esQ2,ckQ2,lmQ2,es6,ck6,lm6,es5,ck5,lm5,uE h hx hidx hm6 hp6 hm5 hp5,V⟩)
 exact Ae
variable{K:ByteArray}
theorem je(h:Fy its next esQ ckQ lmQ lv ML esI ckI lmI esK ckK lmK SI)(hK:∀y∈its,y.key≠K):BJ Tryz.prog 47 #[I5 cp,.string K] [[(cp,.cells #[I4 pos,wv,I5 r,I5 ip,.map (some mi),.map (some mk),I4 next] 120 (0,0))],[(mi,.map esI ckI)]] (.bool false):=by
 have hg:=h.none hK;refine Se func47 ntmps47 [0,1] ?_;intro u R;refine Zq<|Zg<|Za Y<|Z0<|Zx<|Zq<|Zg<|Zm Y<|Zp Y V<|Zh 4 AV2 V rfl Ad4 Y<|Zl Ae7 Y ?_;refine Zm Y<|Zo Wh (De (DT AW6 (D:=fun _=>True)) AZ2 Ab7 h.im (fun _ _=>trivial) (trivial) (⟨by rw [hg];first|done|rfl,by rw [hg];first|done|rfl⟩) Y Y) ?_;refine Zm Y<|Zd Y V<|Zd Y V<|Za Y<|Za Y<|Z0<|Zx<|Zq<|Zq<|Zg<|Zm Y<|Zv (Br Y)<|Z0<|Zn [0,1,5,17] ?_;refine Zx<|AR Y (fun hb9=>?_) (fun hb9=>?_)
 ·
  refine Zq<|Zg<|Za Y<|Z0<|Zx<|AC<|Zt<|AL V results47 Y (by exact ⟨V,V⟩)
 cases hb9
theorem Md(h:Fy its next esQ ckQ lmQ lv ML esI ckI lmI esK ckK lmK SI)(hx:∀y∈its,y.key≠x.key)(hid:x.id=next+1)(hn:next<1000000000)(hl:its.length<500)(hv:BH x.q):BR Tryz.prog 48 #[I5 cp,.string x.key,.pointer (some ⟨x.b,0,none⟩)] [[(cp,.cells #[I4 pos,wv,I5 r,I5 ip,.map (some mi),.map (some mk),I4 next] 120 (0,0))],[(ip,.cells #[.map (some mq),lv] 186 (0,0))],[(mq,.map esQ ckQ)],[(mi,.map esI ckI)],[(mk,.map esK ckK)],[(x.b,.cells #[I4 x.q.kd,I4 x.q.tb,I4 x.q.cl,I4 x.q.lo,I4 x.q.hi,I4 x.q.bq,I4 x.q.ot,I4 x.tn,I4 x.base,.slice x.rq x.L.length x.rc,I4 0,.slice x.wq x.res.rows.length x.wc,I4 x.res.val,.bool x.res.fnd,I4 x.since] 126 (0,0))],SI] (fun v H'=>v=undef/\∃esQ' ckQ' lmQ' esI' ckI' lmI' esK' ckK' lmK',Fy (its++[x]) (next+1) esQ' ckQ' lmQ' (.pointer none) [] esI' ckI' lmI' esK' ckK' lmK' (SI++[x.ch])/\H'=[[(cp,.cells #[I4 pos,wv,I5 r,I5 ip,.map (some mi),.map (some mk),I4 (next+1)] 120 (0,0))],[(ip,.cells #[.map (some mq),.pointer none] 186 (0,0))],[(mq,.map esQ' ckQ')],[(mi,.map esI' ckI')],[(mk,.map esK' ckK')],(SI++[x.ch])]):=by
 rw [<-hid];have hg:=h.none hx
 have hnx:=h.nx;have hgk:Dm x.id lmK=none:=D9 fun p hp=>by
  obtain ⟨y,hy,rfl⟩:=(h.kmem p).1 hp;have:=h.ids y hy
  show y.id≠x.id;omega
 have hgi:∀y∈its.map ItM.iq,y.1≠x.id:=fun y hy=>by
  obtain ⟨z,hz,rfl⟩:=zQ.1 hy;have:=h.ids z hz
  show z.id≠x.id;omega
 refine Se func48 ntmps48 [0,1,2] ?_;intro u R;refine Zq<|Zg<|Zm Y<|Zp Y V<|Zh 6 AV2 V rfl AU1 Y<|Zl AU2 Y ?_;refine Yi Y Y<|Zp Y V<|Zh 6 AV2 V rfl AU1 Y<|Xe (Zs AU1 Y Y V) ?_;refine Z0<|Zx<|Zq ?_;rw [<-hid];refine Zg<|Zm Y<|Zm Y<|Zp Y V<|Zh 6 AV2 V rfl AU1 Y<|Zl AU2 Y ?_;refine Zp Y V<|Zh 10 AX1 V rfl AU1 Y<|Xe (Zs AU1 Y Y V) ?_;refine Z0<|Zn [0,1,2] ?_;refine Zx<|Zq<|Az (n:=21) (0::1::3::7::0::0::32::96::224::0::512::1536::3584::0::0::8191::40959::114687::245759::507903::1048575::[]) 1474560 Ao8 Ao8 V<|An9 0 V (AP Y)<|An9 1 V (Am Y V)<|An9 2 V (AB (off:=4) AV2 V rfl Ad4 Y)<|Ao0 3 V Ae7 Y ?_;refine An9 4 V (AP Y)<|An9 5 V (AP Y)<|An9 6 V (Am Y V)<|An9 7 V (AB (off:=5) AV2 V rfl sizeOf91 Y)<|Ao0 8 V isAgg91 Y ?_;refine An9 9 V (AP Y)<|An9 10 V (Am Y V)<|An9 11 V (AB (off:=10) AX1 V rfl AU1 Y)<|Ao0 12 V AU2 Y ?_;refine An9 13 rfl (AP Y)<|An9 14 rfl (AP Y)<|Zz (l:=[15])<|Ao5 [false,false,false] [] rfl rfl (K6 (DT AW6 (D:=fun _=>True)) AZ2 Ab7 h.im (fun _ _=>trivial) (trivial) (by rw [hg];first|done|rfl) Y Y Wo) ?hk_1 (fun _ _ h=>h.elim) ?hl_1
 case hk_1=>
  rintro _ _ ⟨es3,ck3,lm3,j3,st3,rfl,hm3,hj3,hb3,hp3,rfl⟩;refine ⟨AV,?_⟩;refine An9 16 V (Bt Y V)<|Zz (l:=[17])<|Ao5 [] [] V rfl (IU hm3 hj3 hb3 Y Y Y Wo) ?hk_2 (fun _ _ h=>h.elim) ?hl_2
  case hk_2=>
   rintro _ _ ⟨rfl,es4,ck4,lm4,hm4,hp4,rfl⟩;refine ⟨AV,?_⟩;refine Yw 18 524287 rfl (K6 (CO AV3 (D:=fun _=>True)) Af6 AY5 h.km (fun _ _=>trivial) (trivial) (by rw [hgk];first|done|rfl) Y Y Wo) ?_;rintro _ _ ⟨es5,ck5,lm5,j5,st5,rfl,hm5,hj5,hb5,hp5,rfl⟩;refine An9 19 V (Bt Y V)<|Zz (l:=[20])<|Ao5 [] [] V rfl (IU hm5 hj5 hb5 Y Y Y Wo) ?hk_4 (fun _ _ h=>h.elim) ?hl_4
   case hk_4=>
    rintro _ _ ⟨rfl,es6,ck6,lm6,hm6,hp6,rfl⟩;refine ⟨AV,?_⟩;refine Ag<|Zn [0,2] ?_;refine Zx<|C8 (s1:=SI) (s2:=[x.ch]) Wo Wo ?_;have hch:(x.b,Obj.cells #[I4 x.q.kd,I4 x.q.tb,I4 x.q.cl,I4 x.q.lo,I4 x.q.hi,I4 x.q.bq,I4 x.q.ot,I4 x.tn,I4 x.base,.slice x.rq x.L.length x.rc,I4 x.id,.slice x.wq x.res.rows.length x.wc,I4 x.res.val,.bool x.res.fnd,I4 x.since] 126 (0,0))∈SI++[x.ch]:=zZ _ (zI.2 rfl)
    refine Az (n:=14) (0::1::3::7::0::16::48::112::0::256::768::1792::3840::8191::[]) 8192 Ao8 Ao8 V<|An9 0 V (AP Y)<|An9 1 V (Am Y V)<|An9 2 V (AB (off:=3) AV2 V rfl sizeOf116 Y)<|Ao0 3 V isAgg116 Y ?_;refine An9 4 V (AP Y)<|An9 5 V (Am Y V)<|An9 6 V (AB (off:=10) AX1 V rfl AU1 Y)<|Cw (D':=255) 7 V rfl V (F6 Wo (hch)) (BX AU2 Y Ap1) ?_;refine An9 8 V (AP Y)<|An9 9 V (Am Y V)<|An9 10 V (AB (off:=0) AX1 V rfl AY9 Y)<|An9 11 V (Ar (off:=0) AV7 V rfl AV8 Y)<|Cw (D':=8191) 12 V rfl V (F6 Wo (hch)) (AA (cs:=#[I4 x.q.kd,I4 x.q.tb,I4 x.q.cl,I4 x.q.lo,I4 x.q.hi,I4 x.q.bq,I4 x.q.ot]) AX9 AV8 Y Wn (by exact (by apply AB8.1;rfl))) ?_;refine Zz (l:=[13])<|Ao5 [false,false,false] [] rfl rfl (Zw [_,_,_] Y call99 Y rfl (fZ h.idx hgi hv (by rw [zH];exact hl))) ?hk_5 Bp ?hl_5
    case hk_5=>
     rintro _ _ ⟨_,⟨esQ2,ckQ2,lmQ2,rfl,hidx,rfl⟩,rfl⟩;refine ⟨AV,?_⟩;refine Ag<|Cj rfl results48 (by exact ⟨rfl,esQ2,ckQ2,lmQ2,es4,ck4,lm4,es6,ck6,lm6,by rw [hid];exact uF h hx hid hn hl hv hidx hm4 (fun p=>by rw [hp4,hp3];exact Nn _ _ _ _) hm6 (fun p=>by rw [hp6,hp5];exact Nn _ _ _ _),rfl⟩)
    exact Ae
   exact Ae
  exact Ae
 exact Ae
structure CZ where
 cp:Nat
 pos:Int
 wq:Option Addr
 wc:Nat
 win:List BN
 sW:List A8
 z:Bd
 ns:Nat
 PL:List Bn
 mb:Nat
 esP:Array MapEntry
 ckP:Nat
 lmP:List (ByteArray×Value)
 su:List A8
 ip:Nat
 mq:Nat
 mi:Nat
 mkb:Nat
 next:Int
 its:List ItM
 esQ:Array MapEntry
 ckQ:Nat
 lmQ:List (Int×Value)
 lv:Value
 ML:List A8
 esI:Array MapEntry
 ckI:Nat
 lmI:List (ByteArray×Value)
 esK:Array MapEntry
 ckK:Nat
 lmK:List (Int×Value)
 SI:List A8
 M:List A8
 MR:List A8
structure CZ.okb(c:CZ):Prop where
 pos:0<=c.pos/\c.pos<=10000
 win:BZ 2 50 (.slice c.wq c.win.length c.wc) c.win.length (DZ c.win) c.sW
 wl:c.win.length<=64
 wp:∀(i:Nat) (r:BN),c.win[i]?=some r->r.p=c.pos -(c.win.length:Int)+1+(i:Int)/\Ct c.M (.slice r.q r.cs.length r.cap) r.cs/\Eo r.p r.cs
 pool:DW c.z c.ns c.PL c.mb c.esP c.ckP c.lmP c.su
 pk:∀k,k∈c.PL.map (·.key)↔k∈c.its.map ItM.key
 its:Fy c.its c.next c.esQ c.ckQ c.lmQ c.lv c.ML c.esI c.ckI c.lmI c.esK c.ckK c.lmK c.SI
 tns:∀x∈c.its,x.tn<(c.ns:Int)
structure CZ.ok(c:CZ):Prop extends CZ.okb c where
 all:∀x∈c.its,x.ok c.M c.MR c.pos c.win
structure CZ.like(c d:CZ):Prop where
 cp:d.cp=c.cp
 pos:d.pos=c.pos
 win:d.win=c.win
 ns:d.ns=c.ns
 cap:d.z.cap=c.z.cap
variable{c:CZ}
theorem CZ.like.trans{a b:CZ}(h:a.like b)(k:b.like c):a.like c:=⟨k.cp.trans h.cp,k.pos.trans h.pos,k.win.trans h.win,k.ns.trans h.ns,k.cap.trans h.cap⟩
theorem VJ(h:c.okb):EA (c.sW++c.M) (.slice c.wq c.win.length c.wc) c.win:=Ji h.win (by have:=h.wl;have hml:maxLen=9223372036854775807:=rfl;omega) fun r hr=>by
 obtain ⟨i,hi⟩:=AA1 hr;exact (h.wp i r hi).2.1
theorem UA{α:Type}{l:List α}{x:α}(h:x∈l):∃A B,l=A++x::B:=AI8 h
theorem UV{PL:List Bn}(hk:∀k,k∈PL.map (·.key)↔k∈its.map ItM.key){L1 L2:List Bn}{e:Bn}(he:PL=L1++e::L2)(hn:(PL.map (·.key)).Nodup)(hK:e.key=K):∀k,k∈(L1++L2).map (·.key)↔k∈(its.filter fun y=>y.key≠K).map ItM.key:=by
 intro k;subst he hK;have h1:=hk k
 rw [zK,zx,AA5,AB9]at hn;constructor
 · intro h
   rw [zK,zJ]at h;have hne:k≠e.key:=by
    rintro rfl;rcases h with h|h
    · exact hn.2.2 _ h _ (zX ..) rfl
    · exact hn.2.1.1 h
   obtain ⟨y,hy,rfl⟩:=zQ.1 (h1.1 (by rw [zK,zx,zJ,za];rcases h with h|h;exact .inl h;exact .inr (.inr h)));exact zQ.2 ⟨y,AA2.2 ⟨hy,by simpa using hne⟩,V⟩
 · intro h
   obtain ⟨y,hy,rfl⟩:=zQ.1 h;obtain ⟨hy1,hy2⟩:=AA2.1 hy;have h3:=h1.2 (zS hy1)
   rw [zK,zx,zJ,za]at h3;rw [zK,zJ];rcases h3 with h3|h3|h3
   · exact .inl h3
   · simp [h3]at hy2
   · exact .inr h3
theorem WE(h:c.okb)(hx:x∈c.its):BR Tryz.prog 26 #[.pointer (some ⟨c.cp,0,none⟩),.string x.key] [[(c.cp,.cells #[I4 c.pos,.slice c.wq c.win.length c.wc,.pointer (some ⟨c.z.r,0,none⟩),.pointer (some ⟨c.ip,0,none⟩),.map (some c.mi),.map (some c.mkb),I4 c.next] 120 (0,0))],c.sW,c.z.S,[(c.mb,.map c.esP c.ckP)],c.su,[(c.ip,.cells #[.map (some c.mq),c.lv] 186 (0,0))],[(c.mq,.map c.esQ c.ckQ)],c.ML,[(c.mi,.map c.esI c.ckI)],[(c.mkb,.map c.esK c.ckK)],c.SI,c.M,c.MR] (fun v H'=>v= .bool true/\∃d:CZ,d.okb/\c.like d/\d.next=c.next/\(d.M=c.M/\d.MR=c.MR)/\d.SI=c.SI/\d.mi=c.mi/\d.its=(c.its.filter fun y=>y.key≠x.key)/\(∀e∈d.PL,e∈c.PL)/\H'=[[(d.cp,.cells #[I4 d.pos,.slice d.wq d.win.length d.wc,.pointer (some ⟨d.z.r,0,none⟩),.pointer (some ⟨d.ip,0,none⟩),.map (some d.mi),.map (some d.mkb),I4 d.next] 120 (0,0))],d.sW,d.z.S,[(d.mb,.map d.esP d.ckP)],d.su,[(d.ip,.cells #[.map (some d.mq),d.lv] 186 (0,0))],[(d.mq,.map d.esQ d.ckQ)],d.ML,[(d.mi,.map d.esI d.ckI)],[(d.mkb,.map d.esK d.ckK)],d.SI,d.M,d.MR]):=by
 obtain ⟨e,he,hek⟩:=zQ.1 ((h.pk x.key).2 (zS hx));obtain ⟨L1,L2,hPL⟩:=UA he;have hpool:=h.pool
 rw [hPL]at hpool;rw [<-hek];refine Se func26 ntmps26 [0,1] ?_;intro u R;refine Zq<|Zg<|Za Y<|Z0<|Zx<|Zq<|Zq<|BV<|Fv (s:=c.z.S) Wo (fun hd=>?_);rw [Bd.keys]at hd;refine Zg<|Zm Y<|Zv (BU AZ4 Y Y)<|Z0<|Zx<|AR Y (fun hb9=>?_) (fun hb9=>?_)
 ·
  cases hb9
 refine AJ<|Zx<|Zq<|Zg<|Zm Y<|Zp Y V<|Zh 2 AV2 V rfl sizeOf113 Y<|Zl Ab9 Y ?_;refine Zm Y<|Zc [_,_] Y call71 Y V (iB hpool hd) ?_;rintro _ _ ⟨_,⟨rfl,z2,es2,ck2,lm2,su2,hr2,hc2,hE2,hok2,rfl⟩,rfl⟩;refine Z0<|Zx<|Zq<|Zg<|Zm Y<|Zm Y ?_;rw [hek];refine Zc [_,_] Y call47 Y V (Ut h.its hx) ?_;rintro _ _ ⟨_,⟨rfl,eq3,cq3,lq3,ei3,ci3,li3,ek3,ck3,lk3,hits,rfl⟩,rfl⟩;refine Za Y<|Z0<|Zn [4] ?_;refine Zx<|AC<|AL V results26 Y (by
  refine ⟨rfl,({c with z:=z2,PL:=L1++L2,esP:=es2,ckP:=ck2,lmP:=lm2,su:=su2,its:=c.its.filter fun y=>y.key≠x.key,esQ:=eq3,ckQ:=cq3,lmQ:=lq3,lv:= .pointer none,ML:=[],esI:=ei3,ckI:=ci3,lmI:=li3,esK:=ek3,ckK:=ck3,lmK:=lk3}:CZ),⟨h.pos,h.win,h.wl,h.wp,hok2,UV h.pk hPL h.pool.keys hek,hits,fun y hy=>h.tns y (AA2.1 hy).1⟩,⟨rfl,rfl,rfl,rfl,hc2⟩,rfl,⟨rfl,rfl⟩,rfl,rfl,rfl,fun y hy=>by rw [hPL];rcases zJ.1 hy with h9|h9<;>simp [h9],?_⟩;simp only [hr2];rfl)
theorem NW(h:c.okb):BR Tryz.prog 19 #[.pointer (some ⟨c.cp,0,none⟩)] [[(c.cp,.cells #[I4 c.pos,.slice c.wq c.win.length c.wc,.pointer (some ⟨c.z.r,0,none⟩),.pointer (some ⟨c.ip,0,none⟩),.map (some c.mi),.map (some c.mkb),I4 c.next] 120 (0,0))],[(c.mi,.map c.esI c.ckI)]] (fun r H'=>∃(zs:List ByteArray) (s':List A8),zs.Perm (c.its.map ItM.key)/\(zs.Pairwise fun x y=>x.data.toList<=y.data.toList)/\Row 9 r (zs.map Value.string) s'/\H'=[[(c.cp,.cells #[I4 c.pos,.slice c.wq c.win.length c.wc,.pointer (some ⟨c.z.r,0,none⟩),.pointer (some ⟨c.ip,0,none⟩),.map (some c.mi),.map (some c.mkb),I4 c.next] 120 (0,0))],[(c.mi,.map c.esI c.ckI)],s']):=by
 have hpm:=h.its.len_eq;have hpl:=hpm.length_eq
 rw [zH,zH]at hpl;have hle:=h.its.len
 refine Se func19 ntmps19 [0] ?_;intro u R;refine Zq<|Zg<|Za Y<|Z0<|Zx<|Zq<|Zq<|Zg<|Zm Y<|Zv (BU AZ4 Y Y)<|Z0<|Zx<|AR Y (fun hb9=>?_) (fun hb9=>?_)
 ·
  cases hb9
 refine AJ<|Zx<|Zq<|Zg<|Zm Y<|Zp Y V<|Zh 4 AV2 V rfl Ad4 Y<|Zl Ae7 Y ?_;refine Zc [_] Y call64 Y V (bR c.mi) ?_;rintro _ _ ⟨_,⟨bk,rfl,rfl⟩,rfl⟩;refine Zc [_] Y call63 Y V (VR h.its.im Ao7 bk c.mi (M:=[(c.mi,.map c.esI c.ckI)]) Ap0) ?_;rintro _ _ ⟨_,⟨zs,s4,hp4,hso4,hr4,rfl⟩,rfl⟩;refine Za Y<|Z0<|Zx<|AC<|AL V results19 Y (by exact ⟨zs,s4,hp4.trans hpm,hso4,hr4,V⟩)
theorem kC(c:CZ):BJ Tryz.prog 29 #[.pointer (some ⟨c.cp,0,none⟩)] [[(c.cp,.cells #[I4 c.pos,.slice c.wq c.win.length c.wc,.pointer (some ⟨c.z.r,0,none⟩),.pointer (some ⟨c.ip,0,none⟩),.map (some c.mi),.map (some c.mkb),I4 c.next] 120 (0,0))]] (I4 c.pos):=by
 refine Se func29 ntmps29 [0] ?_;intro u R;refine Zq<|Zg<|Za Y<|Z0<|Zx<|Zq<|Zq<|Zg<|Zm Y<|Zv (BU AZ4 Y Y)<|Z0<|Zx<|AR Y (fun hb9=>?_) (fun hb9=>?_)
 ·
  cases hb9
 refine AJ<|Zx<|Zq<|Zg<|Zm Y<|Zp Y V<|Zh 0 AV2 V rfl AU1 Y<|Zl AU2 Y ?_;refine Za Y<|Z0<|Zx<|AC<|AL V results29 Y (by exact ⟨V,V⟩)
theorem dG(h:c.okb){k:Nat}(hk:k<c.ns):BJ Tryz.prog 30 #[.pointer (some ⟨c.cp,0,none⟩),I4 (k:Int)] [[(c.cp,.cells #[I4 c.pos,.slice c.wq c.win.length c.wc,.pointer (some ⟨c.z.r,0,none⟩),.pointer (some ⟨c.ip,0,none⟩),.map (some c.mi),.map (some c.mkb),I4 c.next] 120 (0,0))],c.z.S,[(c.mb,.map c.esP c.ckP)],c.su] (I4 (FC c.PL (k:Int))):=by
 refine Se func30 ntmps30 [0,1] ?_;intro u R;refine Zq<|Zg<|Za Y<|Z0<|Zx<|Zq<|Zq<|Fv (s:=c.z.S) Wo (fun hd=>?_);rw [Bd.keys]at hd;refine Zg<|Zm Y<|Zv (BU AZ4 Y Y)<|Z0<|Zx<|AR Y (fun hb9=>?_) (fun hb9=>?_)
 ·
  cases hb9
 refine AJ<|Zx<|Zq<|Zg<|Zm Y<|Zp Y V<|Zh 2 AV2 V rfl sizeOf113 Y<|Zl Ab9 Y ?_;refine Zm Y<|Xr [_,_] Y call77 Y V (rX h.pool hd hk) ?_;refine Za Y<|Z0<|Zx<|AC<|AL V results30 Y (by exact ⟨V,V⟩)
def BN.pc(r:BN):Int×List Chg:=(r.p,r.cs)
theorem O1{q:QM}{base:Int}:∀{l l':List BN} {i:Nat} {st:Bw×Int},l.map BN.pc=l'.map BN.pc->FX q base i st l=FX q base i st l'
 |[],[],_,_,_=>rfl
 |[],_::_,_,_,h=>by simp at h
 |_::_,[],_,_,h=>by simp at h
 |x::l,y::l',i,st,h=>by
  rw [zx,zx]at h;injection h with h1 h2
  injection h1 with h3 h4
  unfold FX;rw [h3,h4];split
  · exact O1 h2
  · rfl
theorem Kn{base:Int}{win:List BN}(h:(pos -base).toNat<=win.length):(Cv pos base win).length=(pos -base).toNat:=by
 unfold Cv;rw [zO];omega
theorem Mr(h:c.okb){r:BN}(hr:r∈c.win):r.cs.length<=8:=by
 obtain ⟨i,hi⟩:=AA1 hr;exact (h.wp i r hi).2.2.len.2
theorem uT{l l':List BN}(hpc:l.map BN.pc=l'.map BN.pc){n:Nat}(h:∀y∈l',y.cs.length<=n):∀y∈l,y.cs.length<=n:=fun y hy=>by
 have h1:y.pc∈l'.map BN.pc:=by rw [<-hpc];exact zS hy
 obtain ⟨w,hw,he⟩:=zQ.1 h1;have h2:=h w hw
 have h3:y.cs=w.cs:=(congrArg Prod.snd he).symm;rw [h3];exact h2
theorem YZ(h:c.ok)(hx:x∈c.its):BR Tryz.prog 21 #[.pointer (some ⟨c.cp,0,none⟩),.string x.key] [[(c.cp,.cells #[I4 c.pos,.slice c.wq c.win.length c.wc,.pointer (some ⟨c.z.r,0,none⟩),.pointer (some ⟨c.ip,0,none⟩),.map (some c.mi),.map (some c.mkb),I4 c.next] 120 (0,0))],[(c.mi,.map c.esI c.ckI)],c.SI,c.M] (fun r H'=>∃pz cz s,r= .tuple #[.agg #[I4 x.q.kd,I4 x.q.tb,I4 x.q.cl,I4 x.q.lo,I4 x.q.hi,I4 x.q.bq,I4 x.q.ot,I4 x.tn,I4 x.base,.slice pz x.L.length cz],.bool true]/\Fg s (.slice pz x.L.length cz) x.L/\H'=[[(c.cp,.cells #[I4 c.pos,.slice c.wq c.win.length c.wc,.pointer (some ⟨c.z.r,0,none⟩),.pointer (some ⟨c.ip,0,none⟩),.map (some c.mi),.map (some c.mkb),I4 c.next] 120 (0,0))],[(c.mi,.map c.esI c.ckI)],c.SI,c.M,s]):=by
 have hg:=h.its.get hx;have hxo:=h.all x hx
 have hch:(x.b,Obj.cells #[I4 x.q.kd,I4 x.q.tb,I4 x.q.cl,I4 x.q.lo,I4 x.q.hi,I4 x.q.bq,I4 x.q.ot,I4 x.tn,I4 x.base,.slice x.rq x.L.length x.rc,I4 x.id,.slice x.wq x.res.rows.length x.wc,I4 x.res.val,.bool x.res.fnd,I4 x.since] 126 (0,0))∈c.SI:=h.its.sub x hx;refine Se func21 ntmps21 [0,1] ?_;intro u R;refine Zq<|Zg<|Ze (EB Af4 (cs:=#[I4 0,I4 0,I4 0,I4 0,I4 0,I4 0,I4 0,I4 0,I4 0,.slice none 0 0]) Ao8) ?_;rintro _ _ ⟨bo,rfl,rfl⟩;refine Za Y<|Z0<|Zx<|Zq<|Zq<|Zg<|Zm Y<|Zv (BU AZ4 Y Y)<|Zm Y<|Aj (t:=8) Y V (fun g1=>?_) (fun g1=>?_)
 ·
  cases g1
 refine Zf Y Y<|Yg (Am Y V)<|Yf 4 AV2 V rfl Ad4 Y<|Yl Ae7 Y ?_;refine Zf Y Y<|FJ Y Wh (DK (DT AW6 (D:=fun _=>True)) AZ2 Ab7 h.its.im (fun _ _=>trivial) (trivial) (by rw [hg];first|done|rfl) Y Y) rfl rfl ?_;refine Yg (BU underlying121 Y Y)<|Zv (AU Y Y)<|Z0<|Zn [0,1,4,16] ?_;refine Zx<|AR Y (fun hb1=>?_) (fun hb1=>?_)
 ·
  cases hb1
 refine AJ<|Zx<|Zq<|Zg<|Zm Y<|Zp Y V<|Zh 4 AV2 V rfl Ad4 Y<|Zl Ae7 Y ?_;refine Zm Y<|Zo Wh (DK (DT AW6 (D:=fun _=>True)) AZ2 Ab7 h.its.im (fun _ _=>trivial) (trivial) (by rw [hg];first|done|rfl) Y Y) ?_;refine Zp Y V<|Zh 0 AX1 V rfl AY9 Y<|CW (Gc Wo (hch)) (AA (cs:=#[I4 x.q.kd,I4 x.q.tb,I4 x.q.cl,I4 x.q.lo,I4 x.q.hi,I4 x.q.bq,I4 x.q.ot,I4 x.tn,I4 x.base,.slice x.rq x.L.length x.rc]) Ah5 AY9 Y (by(simp;done)) (by exact (by apply AB8.1;rfl))) V rfl ?_;refine Zc [_] Y call66 Y V (Q9 x.q x.tn x.base hxo.rp hxo.rl hxo.fit) ?_;rintro _ _ ⟨_,⟨pz,cz,s9,rfl,hRP,rfl⟩,rfl⟩;refine Xe (BK AY9 Y Y Ap9 Wu (by exact Dr rfl) Ap3 Ao9 (by exact BF _)) ?_;refine Za Y<|Z0<|Zx<|AC<|Bu V results21 Y Wh (Ap Ah5 AY9 Wn (BD V)) Y (by exact ⟨pz,cz,s9,V,hRP,V⟩)
theorem pW(h:c.ok)(hK:∀y∈c.its,y.key≠K):BJ Tryz.prog 21 #[.pointer (some ⟨c.cp,0,none⟩),.string K] [[(c.cp,.cells #[I4 c.pos,.slice c.wq c.win.length c.wc,.pointer (some ⟨c.z.r,0,none⟩),.pointer (some ⟨c.ip,0,none⟩),.map (some c.mi),.map (some c.mkb),I4 c.next] 120 (0,0))],[(c.mi,.map c.esI c.ckI)]] (.tuple #[.agg #[I4 0,I4 0,I4 0,I4 0,I4 0,I4 0,I4 0,I4 0,I4 0,.slice none 0 0],.bool false]):=by
 have hg:=h.its.none hK;refine Se func21 ntmps21 [0,1] ?_;intro u R;refine Zq<|Zg<|Ze (EB Af4 (cs:=#[I4 0,I4 0,I4 0,I4 0,I4 0,I4 0,I4 0,I4 0,I4 0,.slice none 0 0]) Ao8) ?_;rintro _ _ ⟨bo,rfl,rfl⟩;refine Za Y<|Z0<|Zx<|Zq<|Zq<|Zg<|Zm Y<|Zv (BU AZ4 Y Y)<|Zm Y<|Aj (t:=8) Y V (fun g1=>?_) (fun g1=>?_)
 ·
  cases g1
 refine Zf Y Y<|Yg (Am Y V)<|Yf 4 AV2 V rfl Ad4 Y<|Yl Ae7 Y ?_;refine Zf Y Y<|FJ Y Wh (DK (DT AW6 (D:=fun _=>True)) AZ2 Ab7 h.its.im (fun _ _=>trivial) (trivial) (by rw [hg];first|done|rfl) Y Y) rfl rfl ?_;refine Yg (JZ underlying121 Y Y)<|Zv (AU Y Y)<|Z0<|Zn [0,1,4,16] ?_;refine Zx<|AR Y (fun hb1=>?_) (fun hb1=>?_)
 ·
  refine Zq<|Zg<|Zv (BL (vs:=[]) (cs:=#[_,_,_,_,_,_,_,_,_,_]) Y (AY (pl:=#[(0,7),(7,1),(8,1),(9,1)]) Af4 AV7 (fun _=>by kernel_rfl) rfl))<|Xe (BK AY9 Y Y Ap9 Wu (by exact Dr rfl) Ap3 Wn (by exact BF _)) ?_;refine Za Y<|Z0<|Zx<|AC<|Zt<|Bu V results21 Y Wh (Ap Ah5 AY9 Wn (BD V)) Y (by exact ⟨V,V⟩)
 cases hb1
theorem wU(h:c.ok)(hK:∀y∈c.its,y.key≠K):BJ Tryz.prog 17 #[.pointer (some ⟨c.cp,0,none⟩),.string K] [[(c.cp,.cells #[I4 c.pos,.slice c.wq c.win.length c.wc,.pointer (some ⟨c.z.r,0,none⟩),.pointer (some ⟨c.ip,0,none⟩),.map (some c.mi),.map (some c.mkb),I4 c.next] 120 (0,0))],[(c.mi,.map c.esI c.ckI)]] (.tuple #[.agg #[I4 0,I4 0,I4 0,I4 0,I4 0,I4 0,I4 0,.slice none 0 0,I4 0,.bool false,I4 0,I4 0,I4 0,.slice none 0 0,.slice none 0 0],.bool false]):=by
 refine Se func17 ntmps17 [0,1] ?_;intro u R;refine Zq<|Zg<|Ze (EB AY8 (cs:=#[I4 0,I4 0,I4 0,I4 0,I4 0,I4 0,I4 0,.slice none 0 0,I4 0,.bool false,I4 0,I4 0,I4 0,.slice none 0 0,.slice none 0 0]) Ao8) ?_;rintro _ _ ⟨bo,rfl,rfl⟩;refine Za Y<|Z0<|Zx<|Zq<|Zg<|Zm Y<|Zm Y<|Xr [_,_] Y call21 Y V (pW h hK) ?_;refine Zm Y<|Zd Y V<|Zd Y V<|Ze (EB Af4 (cs:=#[I4 0,I4 0,I4 0,I4 0,I4 0,I4 0,I4 0,I4 0,I4 0,.slice none 0 0]) Ao8) ?_;rintro _ _ ⟨be,rfl,rfl⟩;refine Xe (Xw AY9 #[I4 0,I4 0,I4 0,I4 0,I4 0,I4 0,I4 0,I4 0,I4 0,.slice none 0 0]) ?_;refine Za Y<|Z0<|Zx<|Zq<|Zq<|Az (n:=11) (0::1::3::7::15::7::39::103::231::511::1023::[]) 0 Ao8 Ao8 V<|An9 0 V (AP Y)<|An9 1 V (Br Y)<|An9 2 V (AP Y)<|Cf (t:=21) Y (fun g1=>?_) (fun g1=>?_)
 ·
  rw [g1];refine Ao1 3 V<|Ao1 4 V<|Ao1 5 V<|Ao1 6 V<|Ao1 7 V<|Ao1 8 V<|Ao1 9 V<|An9 10 V (AZ Y Y)<|Ag<|Zn [0,4,6,29] ?_;refine Zx<|DV Y<|Zq<|Zg<|Zv (BL (vs:=[]) (cs:=#[_,_,_,_,_,_,_,_,_,_,_,_,_,_,_]) Y (AY (pl:=#[(0,7),(7,3),(10,1),(11,1),(12,1),(13,1),(14,1)]) AY8 AY4 (fun _=>by kernel_rfl) rfl))<|Xe (BK Ab5 Y Y Ap9 Wu (by exact Dr rfl) Ap3 Wn (by exact BF _)) ?_;refine Za Y<|Z0<|Zx<|AC<|Zt<|Bu V results17 Y Wh (Ap isAgg55 Ab5 Wn (BD V)) Y (by exact ⟨V,V⟩)
 rw [g1];cases g1
theorem om(h:c.ok)(hx:x∈c.its)(hb:c.pos<x.base):BJ Tryz.prog 17 #[.pointer (some ⟨c.cp,0,none⟩),.string x.key] [[(c.cp,.cells #[I4 c.pos,.slice c.wq c.win.length c.wc,.pointer (some ⟨c.z.r,0,none⟩),.pointer (some ⟨c.ip,0,none⟩),.map (some c.mi),.map (some c.mkb),I4 c.next] 120 (0,0))],[(c.mi,.map c.esI c.ckI)],c.SI,c.M] (.tuple #[.agg #[I4 0,I4 0,I4 0,I4 0,I4 0,I4 0,I4 0,.slice none 0 0,I4 0,.bool false,I4 0,I4 0,I4 0,.slice none 0 0,.slice none 0 0],.bool false]):=by
 refine Se func17 ntmps17 [0,1] ?_;intro u R;refine Zq<|Zg<|Ze (EB AY8 (cs:=#[I4 0,I4 0,I4 0,I4 0,I4 0,I4 0,I4 0,.slice none 0 0,I4 0,.bool false,I4 0,I4 0,I4 0,.slice none 0 0,.slice none 0 0]) Ao8) ?_;rintro _ _ ⟨bo,rfl,rfl⟩;refine Za Y<|Z0<|Zx<|Zq<|Zg<|Zm Y<|Zm Y<|Zc [_,_] Y call21 Y V (YZ h hx) ?_;rintro _ _ ⟨_,⟨pz,cz,se,rfl,hRP,rfl⟩,rfl⟩;refine Zm Y<|Zd Y V<|Zd Y V<|Ze (EB Af4 (cs:=#[I4 0,I4 0,I4 0,I4 0,I4 0,I4 0,I4 0,I4 0,I4 0,.slice none 0 0]) Ao8) ?_;rintro _ _ ⟨be,rfl,rfl⟩;refine Xe (Xw AY9 #[I4 x.q.kd,I4 x.q.tb,I4 x.q.cl,I4 x.q.lo,I4 x.q.hi,I4 x.q.bq,I4 x.q.ot,I4 x.tn,I4 x.base,.slice pz x.L.length cz]) ?_;refine Za Y<|Z0<|Zx<|Zq<|Zq<|Az (n:=11) (0::1::3::7::15::7::39::103::231::511::1023::[]) 0 Ao8 Ao8 V<|An9 0 V (AP Y)<|An9 1 V (Br Y)<|An9 2 V (AP Y)<|Cf (t:=21) Y (fun g1=>?_) (fun g1=>?_)
 ·
  rw [g1];cases g1
 rw [g1];refine Ao2 3 V (AB (off:=8) AV7 V rfl AU1 Y)<|Ao3 4 V Wh (BX AU2 Y Ap1) ?_;refine Ao2 5 V (AP Y)<|Ao2 6 V (Am Y V)<|Ao2 7 V (AB (off:=0) AV2 V rfl AU1 Y)<|Ao3 8 V Wh (BX AU2 Y Ap1) ?_;refine Ao2 9 V (FI Y Y)<|An9 10 V (AU Y Y)<|Ag<|Zn [0,4,6,29] ?_;refine Zx<|Aw Y (fun hb1=>?_) (fun hb1=>?_)
 ·
  refine Zq<|Zg<|Zv (BL (vs:=[]) (cs:=#[_,_,_,_,_,_,_,_,_,_,_,_,_,_,_]) Y (AY (pl:=#[(0,7),(7,3),(10,1),(11,1),(12,1),(13,1),(14,1)]) AY8 AY4 (fun _=>by kernel_rfl) rfl))<|Xe (BK Ab5 Y Y Ap9 Wu (by exact Dr rfl) Ap3 Wn (by exact BF _)) ?_;refine Za Y<|Z0<|Zx<|AC<|Zt<|Bu V results17 Y Wh (Ap isAgg55 Ab5 Wn (BD V)) Y (by exact ⟨V,V⟩)
 exfalso;omega
set_option maxHeartbeats 1000000 in
theorem uN(h:c.ok)(hx:x∈c.its)(hb:x.base<=c.pos):BR Tryz.prog 17 #[.pointer (some ⟨c.cp,0,none⟩),.string x.key] [[(c.cp,.cells #[I4 c.pos,.slice c.wq c.win.length c.wc,.pointer (some ⟨c.z.r,0,none⟩),.pointer (some ⟨c.ip,0,none⟩),.map (some c.mi),.map (some c.mkb),I4 c.next] 120 (0,0))],c.sW,[(c.mi,.map c.esI c.ckI)],c.SI,c.M] (fun w H'=>∃(z:U1) (l:List BN) (s s2:List A8),z.a=⟨x.q,x.res,x.since,c.pos,x.base,x.L,l⟩/\l.map BN.pc=(Cv c.pos x.base c.win).map BN.pc/\z.ok (s++s2)/\w= .tuple #[.agg #[I4 z.a.q.kd,I4 z.a.q.tb,I4 z.a.q.cl,I4 z.a.q.lo,I4 z.a.q.hi,I4 z.a.q.bq,I4 z.a.q.ot,.slice z.rp z.a.res.rows.length z.rc,I4 z.a.res.val,.bool z.a.res.fnd,I4 z.a.since,I4 z.a.until_,I4 z.a.base,.slice z.gp z.a.ranges.length z.gc,.slice z.cp z.a.recs.length z.cc],.bool true]/\H'=[[(c.cp,.cells #[I4 c.pos,.slice c.wq c.win.length c.wc,.pointer (some ⟨c.z.r,0,none⟩),.pointer (some ⟨c.ip,0,none⟩),.map (some c.mi),.map (some c.mkb),I4 c.next] 120 (0,0))],c.sW,[(c.mi,.map c.esI c.ckI)],c.SI,c.M,s,s2]):=by
 have hml:=mL;have hxo:=h.all x hx
 obtain ⟨r0,hr0,hrun⟩:=hxo.run;have hbb:=hxo.base
 have hpp:=h.pos;have hwl:=h.wl
 have hwc:=Ew h.win;have hrc:=hxo.reach
 obtain ⟨wl,hwle⟩:∃wl,wl=(Cv c.pos x.base c.win):=⟨_,rfl⟩;have hwll:wl.length=(c.pos -x.base).toNat:=by rw [hwle];exact Kn hrc
 have hrs:EA (c.sW++c.M) (.slice (En c.wq (c.win.length -(c.pos -x.base).toNat) c.wc 2) (c.pos -x.base).toNat (c.wc -(c.win.length -(c.pos -x.base).toNat))) wl:=by
  have h1:=NA (a:=c.win.length -(c.pos -x.base).toNat) (VJ h.tookb) Ao7;rw [hwle];rwa [show c.win.length -(c.win.length -(c.pos -x.base).toNat)=(c.pos -x.base).toNat by omega]at h1
 obtain ⟨cv,hcv⟩:∃cv,cv=c.wc -(c.win.length -(c.pos -x.base).toNat):=⟨_,rfl⟩;obtain ⟨pv,hpv⟩:∃pv,pv=En c.wq (c.win.length -(c.pos -x.base).toNat) c.wc 2:=⟨_,rfl⟩;rw [<-hcv,<-hpv,<-hwll]at hrs;obtain ⟨p8,cap8,e8,⟨hl8,hc8⟩,hg8⟩:=id hrs;injection e8 with e81 e82 e83
 subst e81 e83;rw [<-hwle]at hrun⊢;refine Se func17 ntmps17 [0,1] ?_;intro u R;refine Zq<|Zg<|Ze (EB AY8 (cs:=#[I4 0,I4 0,I4 0,I4 0,I4 0,I4 0,I4 0,.slice none 0 0,I4 0,.bool false,I4 0,I4 0,I4 0,.slice none 0 0,.slice none 0 0]) Ao8) ?_;rintro _ _ ⟨bo,rfl,rfl⟩;refine Za Y<|Z0<|Zx<|Zq<|Zg<|Zm Y<|Zm Y<|Zc [_,_] Y call21 Y V (YZ h hx) ?_;rintro _ _ ⟨_,⟨pz,cz,se,rfl,hRP,rfl⟩,rfl⟩;refine Zm Y<|Zd Y V<|Zd Y V<|Ze (EB Af4 (cs:=#[I4 0,I4 0,I4 0,I4 0,I4 0,I4 0,I4 0,I4 0,I4 0,.slice none 0 0]) Ao8) ?_;rintro _ _ ⟨be,rfl,rfl⟩;refine Xe (Xw AY9 #[I4 x.q.kd,I4 x.q.tb,I4 x.q.cl,I4 x.q.lo,I4 x.q.hi,I4 x.q.bq,I4 x.q.ot,I4 x.tn,I4 x.base,.slice pz x.L.length cz]) ?_;refine Za Y<|Z0<|Zx<|Zq<|Zq<|Az (n:=11) (0::1::3::7::15::7::39::103::231::511::1023::[]) 0 Ao8 Ao8 V<|An9 0 V (AP Y)<|An9 1 V (Br Y)<|An9 2 V (AP Y)<|Cf (t:=21) Y (fun g1=>?_) (fun g1=>?_)
 ·
  rw [g1];cases g1
 rw [g1];refine Ao2 3 V (AB (off:=8) AV7 V rfl AU1 Y)<|Ao3 4 V Wh (BX AU2 Y Ap1) ?_;refine Ao2 5 V (AP Y)<|Ao2 6 V (Am Y V)<|Ao2 7 V (AB (off:=0) AV2 V rfl AU1 Y)<|Ao3 8 V Wh (BX AU2 Y Ap1) ?_;refine Ao2 9 V (FI Y Y)<|An9 10 V (AU Y Y)<|Ag<|Zn [0,4,6,29] ?_;refine Zx<|Aw Y (fun hb1=>?_) (fun hb1=>?_)
 ·
  exfalso;omega
 refine AJ<|Zx<|Zq<|Zg<|Zm Y<|Zh 8 AV7 V rfl AU1 Y<|Zl AU2 Y ?_;refine Xr [_,_] Y call59 Y V (Na hpp x.base hbb ⟨hwc,by omega⟩) ?_;rw [Am7 hrc,<-hcv,<-hpv,<-hwll];refine Zm Y<|Zd Y V<|Zd Y V<|Za Y<|Za Y<|Z0<|Zx<|Zq<|C8 (s1:=c.sW) (s2:=c.M) Wo Wo ?_;refine Zg<|Zm Y<|Zv (Aa AV9 Y)<|Ze (Ni (by_:=32) (sz:=2) (l:=0) AV9 (V:Tryz.prog.info? 50=some Tryz.t50) V rfl V Y Y ?_ ?_ ?_) ?_
 (focus (omega))
 (focus (omega))
 (focus (omega))
 rintro _ _ ⟨gr,cugr,rfl,hcugr,rfl⟩;refine Za Y<|Z0<|Zn [4,6,8,10] ?_;refine Zx<|Zq<|Zq<|BV<|Zg<|Zm Y<|Zv (Aa AV9 Y)<|Zm Y<|Z0<|Zx<|AO<|Zb [10,43,4,6,41,42] ?_;refine BI (e0:=[(10,_),(43,_)]) (fun m e H=>∃(k:Nat) (l:List BN) (vr:Value) (sR MR:List A8),m=wl.length -k/\((k<=wl.length/\l.length=k)/\BZ 2 50 vr l.length (DZ l) sR/\(∀r∈l,Ct MR (.slice r.q r.cs.length r.cap) r.cs)/\l.map BN.pc=(wl.take k).map BN.pc)/\e=[(10,vr),(43,I4 (k:Int))]/\H=[sR,MR]) (by exact ⟨0,[],_,_,[],V,⟨⟨zT _,V⟩,UI Ao7 hcugr,fun r hr=>absurd hr Ap0,V⟩,V,V⟩) Wp ?_;rintro _ _ _ ⟨k,l,vr,sR,MR,rfl,⟨⟨hk,hlk⟩,hR,hch,hpc⟩,rfl,rfl⟩;refine Zq<|Zg<|Zv (Au Y Y)<|Z0<|Zx<|Zq<|Aw Y (fun hlt=>?_) (fun hlt=>?_)
 ·
  obtain ⟨r,hr⟩:∃r,wl[k]?=some r:=⟨_,zD Ao7⟩;obtain ⟨hchr,g9,off9,cur9,T9,zz9,hp9,hm9,hsz9,hex9⟩:=hg8 k r hr;rw [hp9];obtain ⟨gv,cvr,rfl⟩:=hR.form;have hrcs:=Mr h.tookb (r:=r) (by rw [hwle]at hr;exact AF2 (zP hr))
  refine AJ<|Zx<|Zq<|AO<|Zq<|Zg<|Bq (Ai AV9 AX5 Y Y Ao7)<|CW (Gc Wo (hm9)) (AA (cs:=#[I4 r.p,.slice r.q r.cs.length r.cap]) Ad7 AX5 Y Ao7 (by exact hex9)) V rfl ?_;refine Ze (Al Ac0 #[_,_]) ?_;rintro _ _ ⟨br,rfl,rfl⟩;refine Xe (Xw AX5 #[I4 r.p,.slice r.q r.cs.length r.cap]) ?_;refine Z0<|Zx<|Zg<|Zm Y<|Zo Wh (AA (cs:=#[I4 r.p,.slice r.q r.cs.length r.cap]) Ad7 AX5 Y (by(simp;done)) (by exact BD V)) ?_;refine Zc [_] Y call52 Y V (LP r.p hchr Ao7) ?_;rintro _ _ ⟨_,⟨q2,cap2,s2,rfl,hch2,rfl⟩,rfl⟩;refine Ze (Af (vs:=[_]) (cs:=[_,_]) AV9 AX5 Ac0 Y V rfl V rfl V) ?_;rintro _ _ ⟨gb,rfl,rfl⟩;refine Ze (Bl (by_:=32) (sz:=2) AV9 (V:Tryz.prog.info? 50=some Tryz.t50) V rfl V rfl Y (hR) Y (DD 2 gb 1 1 50 (0,0) [I4 r.p,.slice q2 r.cs.length cap2] V) Wo Wo Ap5 Ao7 Ao7) ?_;rintro _ _ ⟨sa9,hra9,rfl⟩;obtain ⟨ga9,ca9,rfl⟩:=hra9.form;refine Za Y<|Z0<|A9<|Zx<|C8 (s1:=s2) (s2:=MR) Wo Wo ?_;refine Zg<|Ya (n:=1) Y Y<|Zm Y<|Z0<|Zn [10,43,4,6,41,42] ?_;refine Ad (e':=[(10,_),(43,_)]) (by
   exact ⟨k+1,l++[⟨r.p,q2,cap2,r.cs⟩],_,sa9,s2++MR,rfl,⟨⟨by omega,by rw [zG,hlk];rfl⟩,BO hra9 (by rw [zG];rfl) (by rw [IW];rfl),fun y hy=>by
    rcases zJ.1 hy with hy|hy
    · exact GZ (hch y hy) s2
    · rw [zI.1 hy];exact JS hch2 MR,by rw [zK,hpc,Bc hr,zK];rfl⟩,rfl,rfl⟩)
 obtain rfl:k=wl.length:=by omega
 rw [AA4]at hpc;obtain ⟨gv,cvr,rfl⟩:=hR.form;refine BG<|Zt<|Zt<|AX<|Zx<|Zq<|WT (s1:=c.sW) (s2:=c.M) (by repeat(first|exact Qb.here _|apply Qb.there)) ?_;refine C8 (s1:=se) (s2:=sR) Wo Wo ?_;refine C8 (s1:=(se++sR)) (s2:=MR) Wo Wo ?_;have hRl:EA ((se++sR)++MR) (.slice gv l.length cvr) l:=LG (Ji hR Ao7 hch) (fun q hq=>by rcases zJ.1 hq with h9|h9<;>simp [h9])
 have hcs9:∀y∈l,y.cs.length<=1000:=uT hpc fun y hy=>by
  have:=Mr h.tookb (r:=y) (by rw [hwle]at hy;exact AF2 hy);omega
 have hbt:Jb x.q x.base x.L l=some ⟨x.q,x.res,x.since,c.pos,x.base,x.L,l⟩:=by
  rw [Pm hr0 Ao7,O1 hpc,hrun];show some (ZC.mk x.q x.res x.since (x.base+(l.length:Int)) x.base x.L l)=_
  rw [show x.base+(l.length:Int)=c.pos by omega]
 refine Zg<|Zo Wh (AA (cs:=#[I4 x.q.kd,I4 x.q.tb,I4 x.q.cl,I4 x.q.lo,I4 x.q.hi,I4 x.q.bq,I4 x.q.ot,I4 x.tn,I4 x.base,.slice pz x.L.length cz]) Ah5 AY9 Y (by(simp;done)) (by exact BD V)) ?_;refine Zm Y<|Zc [_,_] Y call60 Y V (uY x.q x.tn x.base Ao7 (hRP.mono fun q hq=>by simp [hq]) hxo.rl hr0 hRl hcs9) ?_;rintro _ _ ⟨_,⟨z,s9,b9,hz9,rfl,rfl⟩,rfl⟩;obtain ⟨rfl,hza,hzo⟩:b9=true/\z.a=⟨x.q,x.res,x.since,c.pos,x.base,x.L,l⟩/\z.ok (s9++((se++sR)++MR)):=by
  rcases hz9 with⟨h1,h2,h3⟩|⟨_,h2⟩
  · rw [hbt]at h2;injection h2 with h2;exact ⟨h1,h2.symm,h3⟩
  · rw [hbt]at h2;cases h2
 refine Zd Y rfl<|Zd Y rfl<|Xe (BK Ab5 Y Y Ap9 Wu (by exact Dr rfl) Ap3 Ao9 (by exact BF _)) ?_;refine Za Y<|Z0<|Zx<|AC<|Bu V results17 Y Wh (Ap isAgg55 Ab5 Wn (BD V)) Y (by exact ⟨z,l,s9,(se++sR)++MR,hza,hpc,hzo,V,V⟩)
theorem wV(h:c.ok)(hx:x∈c.its)(hb:x.base<=c.pos):BR Tryz.prog 17 #[.pointer (some ⟨c.cp,0,none⟩),.string x.key] [[(c.cp,.cells #[I4 c.pos,.slice c.wq c.win.length c.wc,.pointer (some ⟨c.z.r,0,none⟩),.pointer (some ⟨c.ip,0,none⟩),.map (some c.mi),.map (some c.mkb),I4 c.next] 120 (0,0))],c.sW,[(c.mi,.map c.esI c.ckI)],c.SI,c.M] (fun w H'=>∃(z:U1) (l:List BN) (s:List A8),z.a=⟨x.q,x.res,x.since,c.pos,x.base,x.L,l⟩/\l.map BN.pc=(Cv c.pos x.base c.win).map BN.pc/\z.ok s/\w= .tuple #[.agg #[I4 z.a.q.kd,I4 z.a.q.tb,I4 z.a.q.cl,I4 z.a.q.lo,I4 z.a.q.hi,I4 z.a.q.bq,I4 z.a.q.ot,.slice z.rp z.a.res.rows.length z.rc,I4 z.a.res.val,.bool z.a.res.fnd,I4 z.a.since,I4 z.a.until_,I4 z.a.base,.slice z.gp z.a.ranges.length z.gc,.slice z.cp z.a.recs.length z.cc],.bool true]/\H'=[[(c.cp,.cells #[I4 c.pos,.slice c.wq c.win.length c.wc,.pointer (some ⟨c.z.r,0,none⟩),.pointer (some ⟨c.ip,0,none⟩),.map (some c.mi),.map (some c.mkb),I4 c.next] 120 (0,0))],c.sW,[(c.mi,.map c.esI c.ckI)],c.SI,c.M,s]):=by
 refine GY (uN h hx hb) V ?_;rintro w H' ⟨z,l,s,s2,h1,h2,h3,h4,rfl⟩;exact ⟨_,⟨z,l,s++s2,h1,h2,h3,h4,V⟩,by simp⟩
theorem sU(h:c.ok){q:QM}(hq:BH q)(te base:Int)(hb:0<=base/\base<=10000){pg:Option Addr}{cg:Nat}{L:List RP}{ME:List A8}(hL:Fg ME (.slice pg L.length cg) L)(hLl:L.length<=1000000)(hfit:∀x∈L,x.fits){r0:Bw}(hr0:ED q L=some r0)(hre:¬(c.pos -base).toNat<=c.win.length)(Tp:TypeId)(zp:Nat×Nat):BR Tryz.prog 44 #[.pointer (some ⟨c.cp,0,none⟩),.agg #[I4 q.kd,I4 q.tb,I4 q.cl,I4 q.lo,I4 q.hi,I4 q.bq,I4 q.ot,I4 te,I4 base,.slice pg L.length cg]] [[(c.cp,.cells #[I4 c.pos,.slice c.wq c.win.length c.wc,.pointer (some ⟨c.z.r,0,none⟩),.pointer (some ⟨c.ip,0,none⟩),.map (some c.mi),.map (some c.mkb),I4 c.next] 120 (0,0))],c.sW,c.M,ME,[(1,.cells (Lib.pow10Tab.map fun z=>Value.int .u64 z).toArray Tp zp)]] (fun w H'=>w= .tuple #[.string ⟨#[]⟩,.pointer none,.bool false]/\H'=[[(c.cp,.cells #[I4 c.pos,.slice c.wq c.win.length c.wc,.pointer (some ⟨c.z.r,0,none⟩),.pointer (some ⟨c.ip,0,none⟩),.map (some c.mi),.map (some c.mkb),I4 c.next] 120 (0,0))],c.sW,c.M,ME,[(1,.cells (Lib.pow10Tab.map fun z=>Value.int .u64 z).toArray Tp zp)]]):=by
 have hml:=mL;have hpp:=h.pos
 have hwl:=h.wl;have hwc:=Ew h.win
 refine Se func44 ntmps44 [0,1] ?_;intro u R;refine Zq<|Zg<|Ze (Bx #[I4 q.kd,I4 q.tb,I4 q.cl,I4 q.lo,I4 q.hi,I4 q.bq,I4 q.ot,I4 te,I4 base,.slice pg L.length cg]) ?_;rintro _ _ ⟨be,rfl,rfl⟩;refine Za Y<|Za Y<|Za Y<|Z0<|Zx<|Zq<|Zg<|Zh 0 AV7 V rfl AV8 Y<|Zo Wh (AA (cs:=#[I4 q.kd,I4 q.tb,I4 q.cl,I4 q.lo,I4 q.hi,I4 q.bq,I4 q.ot]) AX9 AV8 Y (by(simp;done)) (by exact (by apply AB8.1;rfl))) ?_;refine Xr [_] Y call11 Y V (KF q hq Tp zp) ?_;refine Zm Y<|Zd Y V<|Zd Y V<|Za Y<|Za Y<|Z0<|Zx<|Zq<|Zq<|Zg<|Zm Y<|Zv (Eh (n:=0) Y Y)<|Zm Y<|Ak (t:=22) Y V (fun g1=>?_) (fun g1=>?_)
 ·
  exact absurd V g1
 refine Yf 8 AV7 V rfl AU1 Y<|Yl AU2 Y ?_;refine Xr [_] Y call41 Y V (Iz base) ?_;rw [Am8 hb];refine Yg (Br Y)<|Zv (AU Y Y)<|Z0<|Zn [0,3,7,27] ?_;refine Zx<|AR Y (fun hb1=>?_) (fun hb1=>?_)
 ·
  cases hb1
 refine AJ<|Zx<|Zq<|Zg<|Zm Y<|Zh 8 AV7 V rfl AU1 Y<|Zl AU2 Y ?_;refine Xr [_,_] Y call59 Y V (Na hpp base hb ⟨hwc,by omega⟩) ?_;rw [Am6 hre];refine Zm Y<|Zd Y V<|Zd Y V<|Za Y<|Za Y<|Z0<|Zx<|Zq<|Zg<|Zh 0 AV7 V rfl AV8 Y<|Zo Wh (AA (cs:=#[_,_,_,_,_,_,_]) AX9 AV8 Y (by(simp;done)) (by exact (by apply AB8.1;rfl))) ?_;refine Zh 9 AV7 V rfl Ae6 Y<|Zl Ah4 Y ?_;refine Zc [_,_] Y call90 Y V (VQ hL q hr0) ?_;rintro _ _ ⟨_,⟨rv0,sr,rfl,hrow0,rfl⟩,rfl⟩;obtain ⟨pv0,cv0,rfl⟩:=hrow0.form;refine Zm Y<|Zd Y V<|Zd Y V<|Ze (Al AW5 #[_,_,_]) ?_;rintro _ _ ⟨bs,rfl,rfl⟩;refine Xe (Xw AU3 #[.slice pv0 r0.rows.length cv0,I4 r0.val,.bool r0.fnd]) ?_;refine Za Y<|Z0<|Zn [3,7,9,10,11,12] ?_;refine Zx<|Zq<|Zq<|Zg<|Zm Y<|Zv (Br Y)<|Zm Y<|Aj (t:=45) Y V (fun g2=>?_) (fun g2=>?_)
 ·
  cases g2
 refine Zf Y Y<|Yg (Br Y)<|Zv (AU Y Y)<|Z0<|Zx<|AR Y (fun hb2=>?_) (fun hb2=>?_)
 ·
  refine Zq<|Zg<|Za Y<|Za Y<|Za Y<|Z0<|Zx<|AC<|Zt<|eZ V results44 Y Y Y (by exact ⟨V,V⟩)
 cases hb2
set_option maxHeartbeats 1000000 in
theorem Qh(h:c.ok){q:QM}(hq:BH q)(te base:Int)(hb:0<=base/\base<=10000){pg:Option Addr}{cg:Nat}{L:List RP}{ME:List A8}(hL:Fg ME (.slice pg L.length cg) L)(hLl:L.length<=1000000)(hfit:∀x∈L,x.fits){r0:Bw}(hr0:ED q L=some r0)(hre:(c.pos -base).toNat<=c.win.length)(Tp:TypeId)(zp:Nat×Nat):BR Tryz.prog 44 #[.pointer (some ⟨c.cp,0,none⟩),.agg #[I4 q.kd,I4 q.tb,I4 q.cl,I4 q.lo,I4 q.hi,I4 q.bq,I4 q.ot,I4 te,I4 base,.slice pg L.length cg]] [[(c.cp,.cells #[I4 c.pos,.slice c.wq c.win.length c.wc,.pointer (some ⟨c.z.r,0,none⟩),.pointer (some ⟨c.ip,0,none⟩),.map (some c.mi),.map (some c.mkb),I4 c.next] 120 (0,0))],c.sW,c.M,ME,[(1,.cells (Lib.pow10Tab.map fun z=>Value.int .u64 z).toArray Tp zp)]] (fun w H'=>∃b rq rc wq wc s1 s2,w= .tuple #[.string (str (CV q)),I5 b,.bool (Av q r0 base (Cv c.pos base c.win)).2.2]/\Fg s1 (.slice rq L.length rc) L/\Dh s2 (.slice wq (Av q r0 base (Cv c.pos base c.win)).1.rows.length wc) (Av q r0 base (Cv c.pos base c.win)).1.rows/\H'=[[(c.cp,.cells #[I4 c.pos,.slice c.wq c.win.length c.wc,.pointer (some ⟨c.z.r,0,none⟩),.pointer (some ⟨c.ip,0,none⟩),.map (some c.mi),.map (some c.mkb),I4 c.next] 120 (0,0))],c.sW,c.M,ME,[(1,.cells (Lib.pow10Tab.map fun z=>Value.int .u64 z).toArray Tp zp)],[(b,.cells #[I4 q.kd,I4 q.tb,I4 q.cl,I4 q.lo,I4 q.hi,I4 q.bq,I4 q.ot,I4 te,I4 base,.slice rq L.length rc,I4 0,.slice wq (Av q r0 base (Cv c.pos base c.win)).1.rows.length wc,I4 (Av q r0 base (Cv c.pos base c.win)).1.val,.bool (Av q r0 base (Cv c.pos base c.win)).1.fnd,I4 (Av q r0 base (Cv c.pos base c.win)).2.1] 126 (0,0))],s1,s2]):=by
 have hml:=mL;have hpp:=h.pos
 have hwl:=h.wl;have hwc:=Ew h.win
 obtain ⟨wl,hwle⟩:∃wl,wl=Cv c.pos base c.win:=⟨_,rfl⟩;have hwll:wl.length=(c.pos -base).toNat:=by rw [hwle];exact Kn hre
 have hrs:EA (c.sW++c.M) (.slice (En c.wq (c.win.length -(c.pos -base).toNat) c.wc 2) (c.pos -base).toNat (c.wc -(c.win.length -(c.pos -base).toNat))) wl:=by
  have h1:=NA (a:=c.win.length -(c.pos -base).toNat) (VJ h.tookb) Ao7;rw [hwle];rwa [show c.win.length -(c.win.length -(c.pos -base).toNat)=(c.pos -base).toNat by omega]at h1
 obtain ⟨cv,hcv⟩:∃cv,cv=c.wc -(c.win.length -(c.pos -base).toNat):=⟨_,rfl⟩;obtain ⟨pv,hpv⟩:∃pv,pv=En c.wq (c.win.length -(c.pos -base).toNat) c.wc 2:=⟨_,rfl⟩;rw [<-hcv,<-hpv,<-hwll]at hrs;rw [<-hwle];have hcs9:∀y∈wl,y.cs.length<=1000:=fun y hy=>by
  have:=Mr h.tookb (r:=y) (by rw [hwle]at hy;exact AF2 hy);omega
 obtain ⟨_,hrn,hrv⟩:=Ky hr0;refine Se func44 ntmps44 [0,1] ?_;intro u R;refine Zq<|Zg<|Ze (Bx #[I4 q.kd,I4 q.tb,I4 q.cl,I4 q.lo,I4 q.hi,I4 q.bq,I4 q.ot,I4 te,I4 base,.slice pg L.length cg]) ?_;rintro _ _ ⟨be,rfl,rfl⟩;refine Za Y<|Za Y<|Za Y<|Z0<|Zx<|Zq<|Zg<|Zh 0 AV7 V rfl AV8 Y<|Zo Wh (AA (cs:=#[I4 q.kd,I4 q.tb,I4 q.cl,I4 q.lo,I4 q.hi,I4 q.bq,I4 q.ot]) AX9 AV8 Y (by(simp;done)) (by exact (by apply AB8.1;rfl))) ?_;refine Xr [_] Y call11 Y V (KF q hq Tp zp) ?_;refine Zm Y<|Zd Y V<|Zd Y V<|Za Y<|Za Y<|Z0<|Zx<|Zq<|Zq<|Zg<|Zm Y<|Zv (Eh (n:=0) Y Y)<|Zm Y<|Ak (t:=22) Y V (fun g1=>?_) (fun g1=>?_)
 ·
  exact absurd V g1
 refine Yf 8 AV7 V rfl AU1 Y<|Yl AU2 Y ?_;refine Xr [_] Y call41 Y V (Iz base) ?_;rw [Am8 hb];refine Yg (Br Y)<|Zv (AU Y Y)<|Z0<|Zn [0,3,7,27] ?_;refine Zx<|AR Y (fun hb1=>?_) (fun hb1=>?_)
 ·
  cases hb1
 refine AJ<|Zx<|Zq<|Zg<|Zm Y<|Zh 8 AV7 V rfl AU1 Y<|Zl AU2 Y ?_;refine Xr [_,_] Y call59 Y V (Na hpp base hb ⟨hwc,by omega⟩) ?_;rw [Am7 hre,<-hcv,<-hpv,<-hwll];refine Zm Y<|Zd Y V<|Zd Y V<|Za Y<|Za Y<|Z0<|Zx<|Zq<|Zg<|Zh 0 AV7 V rfl AV8 Y<|Zo Wh (AA (cs:=#[_,_,_,_,_,_,_]) AX9 AV8 Y (by(simp;done)) (by exact (by apply AB8.1;rfl))) ?_;refine Zh 9 AV7 V rfl Ae6 Y<|Zl Ah4 Y ?_;refine Zc [_,_] Y call90 Y V (VQ hL q hr0) ?_;rintro _ _ ⟨_,⟨rv0,sr,rfl,hrow0,rfl⟩,rfl⟩;obtain ⟨pv0,cv0,rfl⟩:=hrow0.form;refine Zm Y<|Zd Y V<|Zd Y V<|Ze (Al AW5 #[_,_,_]) ?_;rintro _ _ ⟨bs,rfl,rfl⟩;refine Xe (Xw AU3 #[.slice pv0 r0.rows.length cv0,I4 r0.val,.bool r0.fnd]) ?_;refine Za Y<|Z0<|Zn [3,7,9,10,11,12] ?_;refine Zx<|Zq<|Zq<|Zg<|Zm Y<|Zv (Br Y)<|Zm Y<|Aj (t:=45) Y V (fun g2=>?_) (fun g2=>?_)
 ·
  cases g2
 refine Zf Y Y<|Yg (Br Y)<|Zv (AU Y Y)<|Z0<|Zx<|AR Y (fun hb2=>?_) (fun hb2=>?_)
 ·
  cases hb2
 refine AJ<|Zx<|Zq ?_;have hU0:=D7 hrow0 Ao7
 refine C8 (s1:=c.sW) (s2:=c.M) Wo Wo ?_;refine Zg<|Zh 0 AV7 V rfl AV8 Y<|Zo Wh (AA (cs:=#[_,_,_,_,_,_,_]) AX9 AV8 Y (by(simp;done)) (by exact (by apply AB8.1;rfl))) ?_;refine Zo Wh (AA (cs:=#[_,_,_]) AV6 AU3 Y (by(simp;done)) (by exact BD V)) ?_;refine Zh 8 AV7 V rfl AU1 Y<|Zl AU2 Y ?_;refine Zm Y<|Zc [_,_,_,_] Y call91 Y V (Py q hq base Ao7 hrs Ao7 hcs9 hU0 Ao7 hrv) ?_;rintro _ _ ⟨_,⟨rv3,s3,rfl,hrow3,rfl⟩,rfl⟩;obtain ⟨wq,wc,rfl⟩:=hrow3.form;have h3m:=Lp hrow3
 refine Zm Y<|Zd Y rfl<|Zd Y rfl<|Zd Y rfl<|Xe (BK AU3 Y Y Ap9 Wu (by exact (rfl:_=(#[.slice wq (Av q r0 base wl).1.rows.length wc,I4 (Av q r0 base wl).1.val,.bool (Av q r0 base wl).1.fnd]:Array Value))) Ap3 (by(simp;done)) (by exact BF _)) ?_;refine Za Y<|Za Y<|Z0<|Zn [3,7,11,12,13] ?_;refine Zx<|Zq<|WT (s1:=c.sW) (s2:=c.M) (by repeat(first|exact Qb.here _|apply Qb.there)) ?_;refine Az (n:=11) (0::0::2::0::0::30::62::0::7::383::1023::[]) 68 Ao8 Ao8 V<|An9 0 V (AP Y)<|Ao4 1 V Wh (AA (cs:=#[_,_,_,_,_,_,_,_,_,_]) Ah5 AY9 Y (by(simp;done)) (by exact BD V)) ?_;refine Ao4 3 V Wh (AA (cs:=#[_,_,_]) AV6 AU3 Y (by(simp;done)) (by exact BD V)) ?_;refine An9 4 V (AP Y)<|An9 7 V (AP Y)<|Zz (l:=[2])<|Ao5 [true,false] [(3,(_,_))] V rfl (Zw [_] Y call66 Y V (Q9 q te base hL hLl hfit)) ?hk_1 Bp ?hl_1
 case hk_1=>
  rintro _ _ ⟨_,⟨rq,rc,s1,rfl,hRP,rfl⟩,rfl⟩;refine ⟨Zk (AV),?_⟩;refine An9 5 V (BL (vs:=[(0,.agg #[I4 q.kd,I4 q.tb,I4 q.cl,I4 q.lo,I4 q.hi,I4 q.bq,I4 q.ot,I4 te,I4 base,.slice rq L.length rc]),(2,.agg #[.slice wq (Av q r0 base wl).1.rows.length wc,I4 (Av q r0 base wl).1.val,.bool (Av q r0 base wl).1.fnd]),(3,I4 (Av q r0 base wl).2.1)]) (cs:=#[I4 q.kd,I4 q.tb,I4 q.cl,I4 q.lo,I4 q.hi,I4 q.bq,I4 q.ot,I4 te,I4 base,.slice rq L.length rc,I4 0,.slice wq (Av q r0 base wl).1.rows.length wc,I4 (Av q r0 base wl).1.val,.bool (Av q r0 base wl).1.fnd,I4 (Av q r0 base wl).2.1]) Y (AY (pl:=#[(0,10),(10,1),(11,3),(14,1)]) zeroValue126 AX1 (fun _=>by kernel_rfl) Ao8))<|An9 8 V (Aq Y)<|Zz (l:=[6])<|Ao5 [false] [] V rfl (Bx #[I4 q.kd,I4 q.tb,I4 q.cl,I4 q.lo,I4 q.hi,I4 q.bq,I4 q.ot,I4 te,I4 base,.slice rq L.length rc,I4 0,.slice wq (Av q r0 base wl).1.rows.length wc,I4 (Av q r0 base wl).1.val,.bool (Av q r0 base wl).1.fnd,I4 (Av q r0 base wl).2.1]) ?hk_2 (fun _ _ h=>h.elim) ?hl_2
  case hk_2=>
   rintro _ _ ⟨b,rfl,rfl⟩;refine ⟨AV,?_⟩;refine An9 9 V (Aq Y)<|An9 10 V (Aq Y)<|Ag<|Zx<|AC<|eZ V results44 Y Y Y (by exact ⟨b,rq,rc,wq,wc,s1,s3,V,hRP,D7 hrow3 h3m,V⟩)
  exact Ae
 exact Ae
end Go.Proofs.YteaiajghbkenoaaGreatDoor
