/- What a cache keeps; after, forget, remember. -/
import Derived.Test.YtfhjaegddfehhaaGreatDoorMm3
set_option linter.unusedVariables false
set_option linter.unusedSimpArgs false
namespace Go.Proofs.YtfhjaegddfehhaaGreatDoor
open Go.Proofs.Tryz
open Go Go.RowKit Gw
set_option maxRecDepth 100000
attribute [local irreducible] Gw.At Gw.Nx Gw.Ops
structure ItM where
 b:Nat
 id:Int
 q:QM
 tn:Int
 base:Int
 rq:Option Addr
 rc:Nat
 L:List RP
 res:CE
 wq:Option Addr
 wc:Nat
 since:Int
abbrev ItM.A61(c:ItM):Array Go.Value:=#[I4 c.q.kd,I4 c.q.tb,I4 c.q.cl,I4 c.q.lo,I4 c.q.hi,I4 c.q.bq,I4 c.q.ot,I4 c.tn,I4 c.base,.slice c.rq c.L.length c.rc,I4 c.id,.slice c.wq c.res.rows.length c.wc,I4 c.res.val,.bool c.res.fnd,I4 c.since]
def ItM.key(x:ItM):ByteArray:=str (Ci x.q)
def ItM.iq(x:ItM):Int×QM:=(x.id,x.q)
def ItM.obj(x:ItM):Obj:= .cells x.A61 114 (0,0)
def ItM.ch(x:ItM):AA:=(x.b,x.obj)
def DD(pos base:Int)(win:List BN):List BN:=win.drop (win.length -(pos -base).toNat)
structure ItM.ok(M MR:List AA)(pos:Int)(win:List BN)(x:ItM):Prop where
 q:BJ x.q
 base:0<=x.base/\x.base<=10000
 tn:0<=x.tn/\x.tn<=1000000
 rp:Fu M (.slice x.rq x.L.length x.rc) x.L
 rl:x.L.length<=1000000
 fit:∀y∈x.L,y.fits
 rw:Db MR (.slice x.wq x.res.rows.length x.wc) x.res.rows
 reach:(pos -x.base).toNat<=win.length
 run:∃r0,Eb x.q x.L=some r0/\FY x.q x.base 0 (r0,x.base) (DD pos x.base win)=some (x.res,x.since)
variable{pos:Int}{x:ItM}
theorem ItM.ok.mono{M m MR g:List AA}{win:List BN}(h:x.ok M MR pos win)(B:∀c∈M,c∈m)(G:∀c∈MR,c∈g):x.ok m g pos win:=⟨h.q,h.base,h.tn,h.rp.mono B,h.rl,h.fit,h.rw.mono G,h.reach,h.run⟩
structure GY(its:List ItM)(next:Int)(esQ:Array MapEntry)(ckQ:Nat)(lmQ:List (Int×Value))(lv:Value)(ML:List AA)(esI:Array MapEntry)(ckI:Nat)(lmI:List (ByteArray×Value))(esK:Array MapEntry)(ckK:Nat)(lmK:List (Int×Value))(SI:List AA):Prop where
 idx:Ei (its.map ItM.iq) esQ ckQ lmQ
 ist:WQ (its.map ItM.iq) lv ML
 im:Co (fun k:ByteArray=>Value.string k) esI ckI lmI
 imem:∀p,p∈lmI↔∃x∈its,p=(x.key,pV x.b)
 km:Co (fun n:Int=>Value.int .i64 n) esK ckK lmK
 kmem:∀p,p∈lmK↔∃x∈its,p=(x.id,.string x.key)
 keys:(its.map ItM.key).Nodup
 ids:∀x∈its,1<=x.id/\x.id<=next
 nx:0<=next/\next<=1000000000
 len:its.length<=500
 q:∀x∈its,BJ x.q
 sub:∀x∈its,x.ch∈SI
variable{its:List ItM}{next:Int}{esQ esI esK:Array MapEntry}{ckQ ckI ckK:Nat}{lmQ lmK:List (Int×Value)}{lv:Value}{ML SI:List AA}{lmI:List (ByteArray×Value)}
theorem GY.get(h:GY its next esQ ckQ lmQ lv ML esI ckI lmI esK ckK lmK SI)(hx:x∈its):EI x.key lmI=some (pV x.b):=Cy h.im.keys ((h.imem _).2 ⟨x,hx,rfl⟩)
theorem GY.none{its:List ItM}{next:Int}{esQ:Array MapEntry}{ckQ:Nat}{lmQ:List (Int×Value)}{lv:Value}{ML:List AA}{esI:Array MapEntry}{ckI:Nat}{lmI:List (ByteArray×Value)}{esK:Array MapEntry}{ckK:Nat}{lmK:List (Int×Value)}{SI:List AA}(h:GY its next esQ ckQ lmQ lv ML esI ckI lmI esK ckK lmK SI){K:ByteArray}(g:∀x∈its,x.key≠K):EI K lmI=none:=DW fun p m=>by
 obtain ⟨x,hx,rfl⟩:=(h.imem p).1 m;exact g x hx
theorem GY.len_eq(h:GY its next esQ ckQ lmQ lv ML esI ckI lmI esK ckK lmK SI):(lmI.map (·.1)).Perm (its.map ItM.key):=by
 refine (RE h.im.keys h.keys).2 fun a=>?_;constructor
 · intro g
   obtain ⟨p,m,rfl⟩:=Bm.1 g;obtain ⟨x,hx,rfl⟩:=(h.imem p).1 m;exact DP hx
 · intro g
   obtain ⟨x,hx,rfl⟩:=Bm.1 g;exact Bm.2 ⟨_,(h.imem _).2 ⟨x,hx,V⟩,V⟩
theorem XN(g:(its.map ItM.key).Nodup)(hi:((its.map ItM.iq).map (·.1)).Nodup){y:ItM}(hx:x∈its)(hy:y∈its):y.key≠x.key↔y.id≠x.id:=by
 rw [Kf]at hi;constructor;· intro h e;exact h (by rw [GI hi hx hy e.symm])
 · intro h e;exact h (by rw [GI g hx hy e.symm])
theorem xX(h:GY its next esQ ckQ lmQ lv ML esI ckI lmI esK ckK lmK SI)(hx:x∈its)
 {X:Array MapEntry}{O:Nat}{Z:List (Int×Value)}(hq:Ei ((its.map ItM.iq).filter fun y=>y.1≠x.id) X O Z){U:Array MapEntry}{I:Nat}{m:List (ByteArray×Value)}(hm:Co (fun k:ByteArray=>Value.string k) U I m)(hp:∀p,p∈m↔p∈lmI/\p.1≠x.key)
 {W:Array MapEntry}{J:Nat}{B:List (Int×Value)}(hk:Co (fun n:Int=>Value.int .i64 n) W J B)(af:∀p,p∈B↔p∈lmK/\p.1≠x.id):GY (its.filter fun y=>y.key≠x.key) next X O Z (.pointer none) [] U I m W J B SI:=by
 have g:=h.idx.ids;have e1:(its.filter fun y=>y.key≠x.key).map ItM.iq=(its.map ItM.iq).filter fun y=>y.1≠x.id:=by
  rw [List.filter_map];congr 1;refine i6 fun y hy=>?_;exact decide_eq_decide.2 (XN h.keys g hx hy)
 have G:∀y,y∈(its.filter fun y=>y.key≠x.key)↔y∈its/\y.key≠x.key:=fun y=>by rw [FA];simp
 refine ⟨by rw [e1];exact hq,.inl ⟨rfl,rfl⟩,hm,fun p=>?_,hk,fun p=>?_,h.keys.sublist (TX.map _),fun y hy=>h.ids y ((G y).1 hy).1,h.nx,MY (On _ _) h.len,fun y hy=>h.q y ((G y).1 hy).1,fun y hy=>h.sub y ((G y).1 hy).1⟩
 · rw [hp,h.imem]
   constructor;· rintro ⟨⟨y,hy,rfl⟩,hn⟩;exact ⟨y,(G y).2 ⟨hy,hn⟩,rfl⟩
   · rintro ⟨y,hy,rfl⟩;exact ⟨⟨y,((G y).1 hy).1,rfl⟩,((G y).1 hy).2⟩
 · rw [af,h.kmem]
   constructor;· rintro ⟨⟨y,hy,rfl⟩,hn⟩;exact ⟨y,(G y).2 ⟨hy,(XN h.keys g hx hy).2 hn⟩,rfl⟩
   · rintro ⟨y,hy,rfl⟩;exact ⟨⟨y,((G y).1 hy).1,rfl⟩,(XN h.keys g hx ((G y).1 hy).1).1 ((G y).1 hy).2⟩
theorem xY(h:GY its next esQ ckQ lmQ lv ML esI ckI lmI esK ckK lmK SI)(hx:∀y∈its,y.key≠x.key)(af:x.id=next+1)(hn:next<1000000000)(hl:its.length<500)(hv:BJ x.q)
 {U:Array MapEntry}{I:Nat}{W:List (Int×Value)}(hq:Ei (its.map ItM.iq++[(x.id,x.q)]) U I W){J:Array MapEntry}{B:Nat}{g:List (ByteArray×Value)}(hm:Co (fun k:ByteArray=>Value.string k) J B g)(hp:∀p,p∈g↔p=(x.key,pV x.b)\/(p∈lmI/\p.1≠x.key))
 {O:Array MapEntry}{G:Nat}{m:List (Int×Value)}(hk:Co (fun n:Int=>Value.int .i64 n) O G m)(X:∀p,p∈m↔p=(x.id,.string x.key)\/(p∈lmK/\p.1≠x.id)):GY (its++[x]) (next+1) U I W (.pointer none) [] J B g O G m (SI++[x.ch]):=by
 have ax:=h.nx;refine ⟨by rw [BW];exact hq,.inl ⟨rfl,rfl⟩,hm,fun p=>?_,hk,fun p=>?_,?_,fun y hy=>?_,by omega,by rw [B7];simp;omega,fun y hy=>?_,fun y hy=>?_⟩
 · rw [hp,h.imem]
   constructor
   · rintro (rfl|⟨⟨y,hy,rfl⟩,_⟩)
     · exact ⟨x,by simp,rfl⟩
     · exact ⟨y,Dg _ hy,rfl⟩
   · rintro ⟨y,hy,rfl⟩
     rcases B9.1 hy with hy|hy
     · exact .inr ⟨⟨y,hy,rfl⟩,hx y hy⟩
     · rw [BT.1 hy];exact .inl rfl
 · rw [X,h.kmem]
   constructor
   · rintro (rfl|⟨⟨y,hy,rfl⟩,_⟩)
     · exact ⟨x,by simp,rfl⟩
     · exact ⟨y,Dg _ hy,rfl⟩
   · rintro ⟨y,hy,rfl⟩
     rcases B9.1 hy with hy|hy
     · have:=h.ids y hy
       exact .inr ⟨⟨y,hy,V⟩,by show y.id≠x.id;omega⟩
     · rw [BT.1 hy];exact .inl rfl
 · rw [BW,H3]
   refine ⟨h.keys,by simp,fun a Z b hb=>?_⟩;obtain ⟨y,hy,rfl⟩:=Bm.1 Z;obtain rfl:=BT.1 hb;exact hx y hy
 · rcases B9.1 hy with hy|hy
   · have:=h.ids y hy;omega
   · rw [BT.1 hy];omega
 · rcases B9.1 hy with hy|hy
   · exact h.q y hy
   · rw [BT.1 hy];exact hv
 · rcases B9.1 hy with hy|hy
   · exact Dg _ (h.sub y hy)
   · rw [BT.1 hy];simp
variable{mq:Nat}
theorem XQ{B:Nat}{es:Array MapEntry}{ck:Nat}{lm:List (Int×Value)}(G:Ei (its.map ItM.iq) es ck lm)(hx:x∈its):Ba prog 78 #[I5 B,I4 x.id] [[(B,.cells #[.map (some mq),lv] 163 (0,0))],[(mq,.map es ck)]]
 (fun r H'=>∃m g I,r= .bool true/\Ei ((its.map ItM.iq).filter fun y=>y.1≠x.id) m g I/\H'=[[(B,.cells #[.map (some mq),.pointer none] 163 (0,0))],[(mq,.map m g)]]):=WT G (x:=x.iq) (DP hx)
theorem Nh{M:List AA}{p:Option Addr}{cap a:Nat}{l:List BN}(h:EZ M (.slice p l.length cap) l)(W:a<=l.length):EZ M (.slice (EY p a cap 2) (l.length -a) (cap -a)) (l.drop a):=by
 obtain ⟨Z,B,e,⟨X,J⟩,I⟩:=h;injection e with e1 e2 e3
 subst e1 e3;refine ⟨_,_,by rw [C2],⟨by rw [C2];omega,by rw [C2];omega⟩,fun i x hx=>?_⟩;rw [NO]at hx;have hi:=(BE.1 hx).1
 obtain ⟨G,g,off,cur,T,zz,rfl,O,U,m⟩:=I (a+i) x hx;have hc:EY (some ⟨g,off,none⟩) a cap 2=some ⟨g,off+a*2,none⟩:=by
  unfold EY;rw [AK A1,N1,CY]
 rw [hc];exact ⟨G,g,_,cur,T,zz,rfl,O,by omega,by rw [show off+a*2+i*2=off+(a+i)*2 by omega];exact m⟩
theorem JK(n:Int):BH prog 29 #[I4 n] [] (.bool (decide (0<=n/\n<=10000))):=by
 refine Se func29 ntmps29 [0] ?_;intro u R;refine A0<|A3 Y<|A0<|Zm Y<|Zv (Ha Y Y)<|Zm Y<|Aj (t:=5) Y V (fun g=>?_) (fun g=>?_);·
  refine Zf Y Y<|Yg (NM Y Y)<|Zv (AQ Y Y)<|A3 Y<|AJ<|AO V results29 Y (by exact ⟨congrArg Value.bool (by simp [g]),V⟩)
 refine A7 Y V<|A7 Y V<|Zv (AL Y Y)<|A3 Y<|AJ<|AO V results29 Y (by exact ⟨congrArg Value.bool (by simp [g]),V⟩)
variable{mk mi ip r cp:Nat}
theorem OA{wq:Option Addr}{wn wc:Nat}(I:0<=pos/\pos<=10000)(base:Int)(G:0<=base/\base<=10000)(J:wn<=wc/\wn<=1000000):BH prog 49 #[I5 cp,I4 base] [[(cp,.cells #[I4 pos,.slice wq wn wc,I5 r,I5 ip,.map (some mi),.map (some mk),I4 next] 108 (0,0))]] (if(pos -base).toNat<=wn then .tuple #[.slice (EY wq (wn -(pos -base).toNat) wc 2) (pos -base).toNat (wc -(wn -(pos -base).toNat)),.bool true]else .tuple #[.slice none 0 0,.bool false]):=by
 have B:=mL;obtain ⟨n,hn⟩:∃n:Nat,n=(pos -base).toNat:=⟨_,rfl⟩;have g:max (pos -base) 0=(n:Int):=by omega
 rw [<-hn];refine Se func49 ntmps49 [0,1] ?_;intro u R;refine A0<|Za Y<|A3 Y<|A0<|Zm Y<|Zp Y V<|Zh 0 Ek V rfl A4 Y<|Zl AD Y ?_;refine Zm Y ?_
 (refine Bb (GL Y Y (IntWalk.i64_in _ ?_)) ?_;(focus (omega)))
 refine Zv (QB Y Y)<|A3 Y<|Zq<|Zq ?_;rw [g];refine Zg<|Zm Y<|Zm Y<|Zp Y V<|Zh 1 Ek V rfl Lo Y<|Zl T6 Y ?_;refine Zv (AY Fo Y)<|Zv (DF Y Y)<|Z0<|Zn [0,6,20] ?_;refine Zx<|Aq Y (fun m=>?_) (fun m=>?_);·
  refine A0<|Za Y<|A3 Y<|AJ<|Zt<|Cv rfl results49 Y Y (by exact ⟨by rw [AK A1],rfl⟩)
 refine AC<|Zx<|Zq<|Az (n:=14) (0::1::3::7::0::16::48::112::240::0::1008::2047::4095::8191::[]) 0 A6 A6 V<|A2 0 V (AP Y)<|A2 1 V (Ap Y V)<|A2 2 V (AB (off:=1) Ek V rfl Lo Y)<|B2 3 V T6 Y ?_;refine A2 4 V (AP Y)<|A2 5 V (Ap Y V)<|A2 6 V (AB (off:=1) Ek V rfl Lo Y)<|B2 7 V T6 Y ?_;refine A2 8 V (AY Fo Y)<|A2 9 V (AP Y) ?_
 (refine Dr (D':=2047) 10 (CO Y Y ?_ ?_) ?_;(focus (omega));(focus (omega)))
 refine A2 11 V (C9 Fo F0 Y Y A1)<|A2 12 V (Av Y)<|A2 13 V (Av Y)<|Ag<|Zn [4,5] ?_;refine Zx<|AJ<|Cv rfl results49 Y Y (by exact ⟨by rw [AM A1,show wn -(wn -n)=n by omega],rfl⟩)
variable{wv:Value}
theorem Vw(h:GY its next esQ ckQ lmQ lv ML esI ckI lmI esK ckK lmK SI)(hx:x∈its):Ba prog 35 #[I5 cp,.string x.key] [[(cp,.cells #[I4 pos,wv,I5 r,I5 ip,.map (some mi),.map (some mk),I4 next] 108 (0,0))],[(ip,.cells #[.map (some mq),lv] 163 (0,0))],[(mq,.map esQ ckQ)],[(mi,.map esI ckI)],[(mk,.map esK ckK)],SI] (fun v H'=>v= .bool true/\∃J B bg G g af I m ax,GY (its.filter fun y=>y.key≠x.key) next J B bg (.pointer none) [] G g af I m ax SI/\H'=[[(cp,.cells #[I4 pos,wv,I5 r,I5 ip,.map (some mi),.map (some mk),I4 next] 108 (0,0))],[(ip,.cells #[.map (some mq),.pointer none] 163 (0,0))],[(mq,.map J B)],[(mi,.map G g)],[(mk,.map I m)],SI]):=by
 have hg:=h.get hx;have X:(x.b,Obj.cells x.A61 114 (0,0))∈SI:=h.sub x hx
 have j3:x.iq∈its.map ItM.iq:=DP hx;refine Se func35 ntmps35 [0,1] ?_;intro u R;refine A0<|A3 Y<|A0<|Zm Y<|Zp Y rfl<|Zh 4 Ek rfl rfl OR Y<|Zl N5 Y<|Zm Y<|Zo Wh (EB (Dk GP (D:=fun _=>True)) Nd Ss h.im (fun _ _=>trivial) (trivial) (⟨by rw [hg];first|done|rfl,by rw [hg];first|done|rfl⟩) Y Y)<|Zm Y<|Zd Y rfl<|Zd Y rfl<|Za Y<|A3 Y<|Zq<|A0<|Zm Y<|Zv (Br Y)<|Z0<|Zn [0,1,5,17] ?_;refine Zx<|AX Y (fun W=>by cases W)<|fun W=>AC<|Zx<|Zq<|Az (n:=9) (0::1::3::7::0::16::48::112::255::[]) 256 A6 A6 V<|A2 0 V (AP Y)<|A2 1 V (Ap Y V)<|A2 2 V (AB (off:=3) Ek V rfl sizeOf104 Y)<|B2 3 V isAgg104 Y<|A2 4 V (AP Y)<|A2 5 V (Ap Y V)<|A2 6 V (AB (off:=10) HO V rfl A4 Y)<|CQ (D':=255) 7 V rfl V (Ee Wo (X)) (BP AD Y AN) ?_;refine Zz (l:=[8])<|B1 [false,false] [] V rfl (Zw [_,_] Y call78 Y V (XQ h.idx hx)) ?_ Bv Ai;rintro _ _ ⟨_,⟨U,O,bn,rfl,Z,rfl⟩,rfl⟩;refine B6<|Ag<|Zx<|Zq<|Az (n:=9) (0::1::3::7::0::16::48::112::255::[]) 256 A6 A6 V<|A2 0 V (AP Y)<|A2 1 V (Ap Y V)<|A2 2 V (AB (off:=5) Ek V rfl sizeOf79 Y)<|B2 3 V isAgg79 Y<|A2 4 V (AP Y)<|A2 5 V (Ap Y V)<|A2 6 V (AB (off:=10) HO V rfl A4 Y)<|CQ (D':=255) 7 V rfl V (Ee Wo (X)) (BP AD Y AN) ?_;refine Yw 8 511 V (LV (Cc C5 (D:=fun _=>True)) dc h.km (fun _ _=>trivial) (trivial) Y Y Wo) ?_;rintro _ _ ⟨rfl,d9,cu,gF,gm,gy,rfl⟩;refine Ag<|Zn [0,1] ?_;refine Zx<|A0<|Zm Y<|Zp Y V<|Zh 4 Ek V rfl OR Y<|Zl N5 Y<|Zm Y<|Ze (LV (Dk GP (D:=fun _=>True)) Nd h.im (fun _ _=>trivial) (trivial) Y Y Wo) ?_;rintro _ _ ⟨rfl,ek,cO,ic,gq,gB,rfl⟩;refine A5<|A0<|A3 Y<|AJ<|AO V results35 Y (by exact ⟨V,U,O,bn,ek,cO,ic,d9,cu,gF,xX h hx Z gq gB gm gy,V⟩)
variable{K:ByteArray}
theorem nC(h:GY its next esQ ckQ lmQ lv ML esI ckI lmI esK ckK lmK SI)(B:∀y∈its,y.key≠K):BH prog 35 #[I5 cp,.string K] [[(cp,.cells #[I4 pos,wv,I5 r,I5 ip,.map (some mi),.map (some mk),I4 next] 108 (0,0))],[(mi,.map esI ckI)]] (.bool false):=by
 have m:=h.none B;refine Se func35 ntmps35 [0,1] ?_;intro u R;refine A0<|A3 Y<|A0<|Zm Y<|Zp Y rfl<|Zh 4 Ek rfl rfl OR Y<|Zl N5 Y<|Zm Y<|Zo Wh (EB (Dk GP (D:=fun _=>True)) Nd Ss h.im (fun _ _=>trivial) (trivial) (⟨by rw [m];first|done|rfl,by rw [m];first|done|rfl⟩) Y Y)<|Zm Y<|Zd Y rfl<|Zd Y rfl<|Za Y<|A3 Y<|Zq<|A0<|Zm Y<|Zv (Br Y)<|Z0<|Zn [0,1,5,17] ?_;refine Zx<|AX Y (fun g=>?_) (fun g=>?_);·
  refine A0<|A3 Y<|AJ<|Zt<|AO V results35 Y (by exact ⟨V,V⟩)
 cases g
theorem NH(h:GY its next esQ ckQ lmQ lv ML esI ckI lmI esK ckK lmK SI)(hx:∀y∈its,y.key≠x.key)(g:x.id=next+1)(hn:next<1000000000)(hl:its.length<500)(hv:BJ x.q):Ba prog 36 #[I5 cp,.string x.key,.pointer (some ⟨x.b,0,none⟩)] [[(cp,.cells #[I4 pos,wv,I5 r,I5 ip,.map (some mi),.map (some mk),I4 next] 108 (0,0))],[(ip,.cells #[.map (some mq),lv] 163 (0,0))],[(mq,.map esQ ckQ)],[(mi,.map esI ckI)],[(mk,.map esK ckK)],[(x.b,.cells #[I4 x.q.kd,I4 x.q.tb,I4 x.q.cl,I4 x.q.lo,I4 x.q.hi,I4 x.q.bq,I4 x.q.ot,I4 x.tn,I4 x.base,.slice x.rq x.L.length x.rc,I4 0,.slice x.wq x.res.rows.length x.wc,I4 x.res.val,.bool x.res.fnd,I4 x.since] 114 (0,0))],SI] (fun v H'=>v=undef/\∃O G bg I m af J B ax,GY (its++[x]) (next+1) O G bg (.pointer none) [] I m af J B ax (SI++[x.ch])/\H'=[[(cp,.cells #[I4 pos,wv,I5 r,I5 ip,.map (some mi),.map (some mk),I4 (next+1)] 108 (0,0))],[(ip,.cells #[.map (some mq),.pointer none] 163 (0,0))],[(mq,.map O G)],[(mi,.map I m)],[(mk,.map J B)],(SI++[x.ch])]):=by
 rw [<-g];have hg:=h.none hx
 have qb:=h.nx;have gB:EI x.id lmK=none:=DW fun p hp=>by
  obtain ⟨y,hy,rfl⟩:=(h.kmem p).1 hp;have:=h.ids y hy
  show y.id≠x.id;omega
 have gy:∀y∈its.map ItM.iq,y.1≠x.id:=fun y hy=>by
  obtain ⟨z,hz,rfl⟩:=Bm.1 hy;have:=h.ids z hz
  show z.id≠x.id;omega
 refine Se func36 ntmps36 [0,1,2] ?_;intro u R;refine A0<|Zm Y<|Zp Y V<|Zh 6 Ek V rfl A4 Y<|Zl AD Y ?_;refine Yi Y Y<|Zp Y V<|Zh 6 Ek V rfl A4 Y<|Xe (Zs A4 Y Y V) ?_;refine A5<|Zq ?_;rw [<-g];refine Zg<|Zm Y<|Zm Y<|Zp Y V<|Zh 6 Ek V rfl A4 Y<|Zl AD Y ?_;refine Zp Y V<|Zh 10 HO V rfl A4 Y<|Xe (Zs A4 Y Y V) ?_;refine Z0<|Zn [0,1,2] ?_;refine Zx<|Zq<|Az (n:=21) (0::1::3::7::0::0::32::96::224::0::512::1536::3584::0::0::8191::40959::114687::245759::507903::1048575::[]) 1474560 A6 A6 V<|A2 0 V (AP Y)<|A2 1 V (Ap Y V)<|A2 2 V (AB (off:=4) Ek V rfl OR Y)<|B2 3 V N5 Y ?_;refine A2 4 V (AP Y)<|A2 5 V (AP Y)<|A2 6 V (Ap Y V)<|A2 7 V (AB (off:=5) Ek V rfl sizeOf79 Y)<|B2 8 V isAgg79 Y ?_;refine A2 9 V (AP Y)<|A2 10 V (Ap Y V)<|A2 11 V (AB (off:=10) HO V rfl A4 Y)<|B2 12 V AD Y ?_;refine A2 13 rfl (AP Y)<|A2 14 rfl (AP Y)<|Zz (l:=[15])<|B1 [false,false,false] [] rfl rfl (KX (Dk GP (D:=fun _=>True)) Nd Ss h.im (fun _ _=>trivial) (trivial) (by rw [hg];first|done|rfl) Y Y Wo) ?_ (fun _ _ h=>h.elim) Ai;rintro _ _ ⟨q9,pq,qj,j3,qo,rfl,kv,gF,gm,lw,rfl⟩;refine B6<|A2 16 V (Bz Y V)<|Zz (l:=[17])<|B1 [] [] V rfl (Iy kv gF gm Y Y Y Wo) ?_ (fun _ _ h=>h.elim) Ai;rintro _ _ ⟨rfl,d9,cu,p9,l5,o8,rfl⟩;refine B6<|Yw 18 524287 rfl (KX (Cc C5 (D:=fun _=>True)) dc HT h.km (fun _ _=>trivial) (trivial) (by rw [gB];first|done|rfl) Y Y Wo) ?_;rintro _ _ ⟨qa,pz,ql,j5,qw,rfl,l8,ic,gq,o9,rfl⟩;refine A2 19 V (Bz Y V)<|Zz (l:=[20])<|B1 [] [] V rfl (Iy l8 ic gq Y Y Y Wo) ?_ (fun _ _ h=>h.elim) Ai;rintro _ _ ⟨rfl,ek,cO,pg,l9,p8,rfl⟩;refine B6<|Ag<|Zn [0,2] ?_;refine Zx<|CK (s1:=SI) (s2:=[x.ch]) Wo Wo ?_;have X:(x.b,Obj.cells x.A61 114 (0,0))∈SI++[x.ch]:=G2 _ (BT.2 rfl)
 refine Az (n:=14) (0::1::3::7::0::16::48::112::0::256::768::1792::3840::8191::[]) 8192 A6 A6 V<|A2 0 V (AP Y)<|A2 1 V (Ap Y V)<|A2 2 V (AB (off:=3) Ek V rfl sizeOf104 Y)<|B2 3 V isAgg104 Y ?_;refine A2 4 V (AP Y)<|A2 5 V (Ap Y V)<|A2 6 V (AB (off:=10) HO V rfl A4 Y)<|CQ (D':=255) 7 V rfl V (Ee Wo (X)) (BP AD Y AN) ?_;refine A2 8 V (AP Y)<|A2 9 V (Ap Y V)<|A2 10 V (AB (off:=0) HO V rfl HA Y)<|A2 11 V (Ar (off:=0) Ft V rfl C7 Y)<|CQ (D':=8191) 12 V rfl V (Ee Wo (X)) (A9 (cs:=x.q.A59) Dd C7 Y Wn (by exact (by apply HD.1;rfl))) ?_;refine Zz (l:=[13])<|B1 [false,false,false] [] rfl rfl (Zw [_,_,_] Y call79 Y rfl (je h.idx gy hv (by rw [B4];exact hl))) ?_ Bv Ai;rintro _ _ ⟨_,⟨W,U,bn,rfl,Z,rfl⟩,rfl⟩;refine B6<|Ag<|Cw rfl results36 (by exact ⟨rfl,W,U,bn,d9,cu,p9,ek,cO,pg,by rw [g];exact xY h hx g hn hl hv Z l5 (fun p=>by rw [o8,lw];exact OL _ _ _ _) l9 (fun p=>by rw [p8,o9];exact OL _ _ _ _),rfl⟩)
structure CZ where
 cp:Nat
 pos:Int
 wq:Option Addr
 wc:Nat
 win:List BN
 sW:List AA
 z:Bl
 ns:Nat
 PL:List Bt
 mb:Nat
 esP:Array MapEntry
 ckP:Nat
 lmP:List (ByteArray×Value)
 su:List AA
 ip:Nat
 mq:Nat
 mi:Nat
 mkb:Nat
 next:Int
 its:List ItM
 esQ:Array MapEntry
 ckQ:Nat
 lmQ:List (Int×Value)
 lv:Value
 ML:List AA
 esI:Array MapEntry
 ckI:Nat
 lmI:List (ByteArray×Value)
 esK:Array MapEntry
 ckK:Nat
 lmK:List (Int×Value)
 SI:List AA
 M:List AA
 MR:List AA
abbrev CZ.A62(c:CZ):Array Go.Value:=#[I4 c.pos,.slice c.wq c.win.length c.wc,.pointer (some ⟨c.z.r,0,none⟩),.pointer (some ⟨c.ip,0,none⟩),.map (some c.mi),.map (some c.mkb),I4 c.next]
structure CZ.okb(c:CZ):Prop where
 pos:0<=c.pos/\c.pos<=10000
 win:Bc 2 50 (.slice c.wq c.win.length c.wc) c.win.length (Du c.win) c.sW
 wl:c.win.length<=64
 wp:∀(i:Nat) (r:BN),c.win[i]?=some r->r.p=c.pos -(c.win.length:Int)+1+(i:Int)/\Ck c.M (.slice r.q r.cs.length r.cap) r.cs/\EJ r.p r.cs
 pool:Dn c.z c.ns c.PL c.mb c.esP c.ckP c.lmP c.su
 pk:∀k,k∈c.PL.map (·.key)↔k∈c.its.map ItM.key
 its:GY c.its c.next c.esQ c.ckQ c.lmQ c.lv c.ML c.esI c.ckI c.lmI c.esK c.ckK c.lmK c.SI
 tns:∀x∈c.its,x.tn<(c.ns:Int)
structure CZ.ok(c:CZ):Prop extends CZ.okb c where
 all:∀x∈c.its,x.ok c.M c.MR c.pos c.win
structure CZ.like(c d:CZ):Prop where
 cp:d.cp=c.cp
 pos:d.pos=c.pos
 win:d.win=c.win
 ns:d.ns=c.ns
 cap:d.z.cap=c.z.cap
variable{c:CZ}
theorem CZ.like.trans{a b:CZ}(h:a.like b)(k:b.like c):a.like c:=⟨k.cp.trans h.cp,k.pos.trans h.pos,k.win.trans h.win,k.ns.trans h.ns,k.cap.trans h.cap⟩
theorem iL(h:c.okb):EZ (c.sW++c.M) (.slice c.wq c.win.length c.wc) c.win:=K6 h.win (by have:=h.wl;have g:maxLen=9223372036854775807:=rfl;omega) fun r m=>by
 obtain ⟨i,hi⟩:=GW m;exact (h.wp i r hi).2.1
theorem V5{α:Type}{l:List α}{x:α}(h:x∈l):∃A B,l=A++x::B:=cF h
theorem VR{PL:List Bt}(X:∀k,k∈PL.map (·.key)↔k∈its.map ItM.key){I J:List Bt}{e:Bt}(W:PL=I++e::J)(hn:(PL.map (·.key)).Nodup)(U:e.key=K):∀k,k∈(I++J).map (·.key)↔k∈(its.filter fun y=>y.key≠K).map ItM.key:=by
 intro k;subst W U;have O:=X k
 rw [BW,DQ,H3,Hj]at hn;constructor
 · intro h
   rw [BW,B9]at h;have m:k≠e.key:=by
    rintro rfl;rcases h with h|h
    · exact hn.2.2 _ h _ (E4 ..) rfl
    · exact hn.2.1.1 h
   obtain ⟨y,hy,rfl⟩:=Bm.1 (O.1 (by rw [BW,DQ,B9,D4];rcases h with h|h;exact .inl h;exact .inr (.inr h)));exact Bm.2 ⟨y,FA.2 ⟨hy,by simpa using m⟩,V⟩
 · intro h
   obtain ⟨y,hy,rfl⟩:=Bm.1 h;obtain ⟨B,G⟩:=FA.1 hy;have g:=O.2 (DP B)
   rw [BW,DQ,B9,D4]at g;rw [BW,B9];rcases g with g|g|g
   · exact .inl g
   · simp [g]at G
   · exact .inr g
theorem Xb(h:c.okb)(hx:x∈c.its):Ba prog 44 #[.pointer (some ⟨c.cp,0,none⟩),.string x.key] [[(c.cp,.cells #[I4 c.pos,.slice c.wq c.win.length c.wc,.pointer (some ⟨c.z.r,0,none⟩),.pointer (some ⟨c.ip,0,none⟩),.map (some c.mi),.map (some c.mkb),I4 c.next] 108 (0,0))],c.sW,c.z.S,[(c.mb,.map c.esP c.ckP)],c.su,[(c.ip,.cells #[.map (some c.mq),c.lv] 163 (0,0))],[(c.mq,.map c.esQ c.ckQ)],c.ML,[(c.mi,.map c.esI c.ckI)],[(c.mkb,.map c.esK c.ckK)],c.SI,c.M,c.MR] (fun v H'=>v= .bool true/\∃d:CZ,d.okb/\c.like d/\d.next=c.next/\(d.M=c.M/\d.MR=c.MR)/\d.SI=c.SI/\d.mi=c.mi/\d.its=(c.its.filter fun y=>y.key≠x.key)/\(∀e∈d.PL,e∈c.PL)/\H'=[[(d.cp,.cells #[I4 d.pos,.slice d.wq d.win.length d.wc,.pointer (some ⟨d.z.r,0,none⟩),.pointer (some ⟨d.ip,0,none⟩),.map (some d.mi),.map (some d.mkb),I4 d.next] 108 (0,0))],d.sW,d.z.S,[(d.mb,.map d.esP d.ckP)],d.su,[(d.ip,.cells #[.map (some d.mq),d.lv] 163 (0,0))],[(d.mq,.map d.esQ d.ckQ)],d.ML,[(d.mi,.map d.esI d.ckI)],[(d.mkb,.map d.esK d.ckK)],d.SI,d.M,d.MR]):=by
 obtain ⟨e,Z,B⟩:=Bm.1 ((h.pk x.key).2 (DP hx));obtain ⟨L1,L2,m⟩:=V5 Z;have g:=h.pool
 rw [m]at g;rw [<-B];refine Se func44 ntmps44 [0,1] ?_;intro u R;refine A0<|A3 Y<|Zq<|Zq<|BU<|GV (s:=c.z.S) Wo (fun W=>?_);rw [Bl.keys]at W;refine Zg<|Zm Y<|Zv (Be O2 Y Y)<|A5<|AX Y (fun G=>by cases G)<|fun G=>AC<|Zx<|A0<|Zm Y<|Zp Y V<|Zh 2 Ek V rfl sizeOf101 Y<|Zl K1 Y<|Zm Y<|Zc [_,_] Y call93 Y V (kP g W) ?_;rintro _ _ ⟨_,⟨rfl,z2,es2,ck2,lm2,su2,U,O,X,J,rfl⟩,rfl⟩;refine A5<|A0<|Zm Y<|Zm Y ?_;rw [B];refine Zc [_,_] Y call35 Y V (Vw h.its hx) ?_;rintro _ _ ⟨_,⟨rfl,eq3,cq3,lq3,ei3,ci3,li3,ek3,ck3,lk3,I,rfl⟩,rfl⟩;refine AG Y<|Zn [4] ?_;refine Zx<|AJ<|AO V results44 Y (by
  refine ⟨rfl,({c with z:=z2,PL:=L1++L2,esP:=es2,ckP:=ck2,lmP:=lm2,su:=su2,its:=c.its.filter fun y=>y.key≠x.key,esQ:=eq3,ckQ:=cq3,lmQ:=lq3,lv:= .pointer none,ML:=[],esI:=ei3,ckI:=ci3,lmI:=li3,esK:=ek3,ckK:=ck3,lmK:=lk3}:CZ),⟨h.pos,h.win,h.wl,h.wp,J,VR h.pk m h.pool.keys B,I,fun y hy=>h.tns y (FA.1 hy).1⟩,⟨rfl,rfl,rfl,rfl,O⟩,rfl,⟨rfl,rfl⟩,rfl,rfl,rfl,fun y hy=>by rw [m];rcases B9.1 hy with h9|h9<;>simp [h9],?_⟩;simp only [U];rfl)
theorem O6(h:c.okb):Ba prog 16 #[.pointer (some ⟨c.cp,0,none⟩)] [[(c.cp,.cells c.A62 108 (0,0))],[(c.mi,.map c.esI c.ckI)]] (fun r H'=>∃(zs:List ByteArray) (s':List AA),zs.Perm (c.its.map ItM.key)/\(zs.Pairwise fun x y=>x.data.toList<=y.data.toList)/\Row 9 r (zs.map Value.string) s'/\H'=[[(c.cp,.cells c.A62 108 (0,0))],[(c.mi,.map c.esI c.ckI)],s']):=by
 have m:=h.its.len_eq;have I:=m.length_eq
 rw [B4,B4]at I;have U:=h.its.len
 refine Se func16 ntmps16 [0] ?_;intro u R;refine A0<|A3 Y<|Zq<|A0<|Zm Y<|Zv (Be O2 Y Y)<|A5<|AX Y (fun g=>by cases g)<|fun g=>AC<|Zx<|A0<|Zm Y<|Zp Y V<|Zh 4 Ek V rfl OR Y<|Zl N5 Y<|Zc [_] Y call55 Y V (fK c.mi) ?_;rintro _ _ ⟨_,⟨O,rfl,rfl⟩,rfl⟩;refine Zc [_] Y call54 Y V (Wm h.its.im A1 O c.mi (M:=[(c.mi,.map c.esI c.ckI)]) B0) ?_;rintro _ _ ⟨_,⟨zs,W,G,B,J,rfl⟩,rfl⟩;refine A3 Y<|AJ<|AO V results16 Y (by exact ⟨zs,W,G.trans m,B,J,V⟩)
theorem nR(c:CZ):BH prog 17 #[.pointer (some ⟨c.cp,0,none⟩)] [[(c.cp,.cells c.A62 108 (0,0))]] (I4 c.pos):=by
 refine Se func17 ntmps17 [0] ?_;intro u R;refine A0<|A3 Y<|Zq<|A0<|Zm Y<|Zv (Be O2 Y Y)<|A5<|AX Y (fun g=>by cases g)<|fun g=>AC<|Zx<|A0<|Zm Y<|Zp Y V<|Zh 0 Ek V rfl A4 Y<|Zl AD Y<|A3 Y<|AJ<|AO V results17 Y (by exact ⟨V,V⟩)
theorem gM(h:c.okb){k:Nat}(B:k<c.ns):BH prog 18 #[.pointer (some ⟨c.cp,0,none⟩),I4 (k:Int)] [[(c.cp,.cells c.A62 108 (0,0))],c.z.S,[(c.mb,.map c.esP c.ckP)],c.su] (I4 (FX c.PL (k:Int))):=by
 refine Se func18 ntmps18 [0,1] ?_;intro u R;refine A0<|A3 Y<|Zq<|Zq<|GV (s:=c.z.S) Wo (fun m=>?_);rw [Bl.keys]at m;refine Zg<|Zm Y<|Zv (Be O2 Y Y)<|A5<|AX Y (fun g=>by cases g)<|fun g=>AC<|Zx<|A0<|Zm Y<|Zp Y V<|Zh 2 Ek V rfl sizeOf101 Y<|Zl K1 Y<|Zm Y<|Xr [_,_] Y call56 Y V (wD h.pool m B)<|A3 Y<|AJ<|AO V results18 Y (by exact ⟨V,V⟩)
def BN.pc(r:BN):Int×List Chg:=(r.p,r.cs)
theorem Oc{q:QM}{base:Int}:∀{l l':List BN} {i:Nat} {st:CE×Int},l.map BN.pc=l'.map BN.pc->FY q base i st l=FY q base i st l'
 |[],[],_,_,_=>rfl
 |[],_::_,_,_,h=>by simp at h
 |_::_,[],_,_,h=>by simp at h
 |x::l,y::l',i,st,h=>by
  rw [DQ,DQ]at h;injection h with h1 h2
  injection h1 with h3 h4
  unfold FY;rw [h3,h4];split;· exact Oc h2
  · rfl
theorem OE{base:Int}{win:List BN}(h:(pos -base).toNat<=win.length):(DD pos base win).length=(pos -base).toNat:=by
 unfold DD;rw [C2];omega
theorem Pd(h:c.okb){r:BN}(g:r∈c.win):r.cs.length<=8:=by
 obtain ⟨i,hi⟩:=GW g;exact (h.wp i r hi).2.2.len.2
theorem xz{l m:List BN}(g:l.map BN.pc=m.map BN.pc){n:Nat}(h:∀y∈m,y.cs.length<=n):∀y∈l,y.cs.length<=n:=fun y hy=>by
 have B:y.pc∈m.map BN.pc:=by rw [<-g];exact DP hy
 obtain ⟨w,J,I⟩:=Bm.1 B;have h2:=h w J
 have G:y.cs=w.cs:=(congrArg Prod.snd I).symm;rw [G];exact h2
theorem aV(h:c.ok)(hx:x∈c.its):Ba prog 48 #[.pointer (some ⟨c.cp,0,none⟩),.string x.key] [[(c.cp,.cells c.A62 108 (0,0))],[(c.mi,.map c.esI c.ckI)],c.SI,c.M] (fun r H'=>∃G B s,r= .tuple #[.agg #[I4 x.q.kd,I4 x.q.tb,I4 x.q.cl,I4 x.q.lo,I4 x.q.hi,I4 x.q.bq,I4 x.q.ot,I4 x.tn,I4 x.base,.slice G x.L.length B],.bool true]/\Fu s (.slice G x.L.length B) x.L/\H'=[[(c.cp,.cells c.A62 108 (0,0))],[(c.mi,.map c.esI c.ckI)],c.SI,c.M,s]):=by
 have U:=h.its.get hx;have g:=h.all x hx
 have J:(x.b,Obj.cells x.A61 114 (0,0))∈c.SI:=h.its.sub x hx;refine Se func48 ntmps48 [0,1] ?_;intro u R;refine A0<|Ze (Ea al (cs:=#[I4 0,I4 0,I4 0,I4 0,I4 0,I4 0,I4 0,I4 0,I4 0,.slice none 0 0]) A6)<|AE fun X=>A3 Y<|Zq<|A0<|Zm Y<|Zv (Be O2 Y Y)<|Zm Y<|Af (t:=8) Y V (fun O=>by cases O)<|fun O=>Zf Y Y<|Yg (Ap Y V)<|Yf 4 Ek V rfl OR Y<|Yl N5 Y ?_;refine Zf Y Y<|Dx Y Wh (De (Dk GP (D:=fun _=>True)) Nd Ss h.its.im (fun _ _=>trivial) (trivial) (by rw [U];first|done|rfl) Y Y) rfl rfl ?_;refine Yg (Be underlying109 Y Y)<|Zv (AL Y Y)<|Z0<|Zn [0,1,4,16] ?_;refine Zx<|AX Y (fun m=>by cases m)<|fun m=>AC<|Zx<|A0<|Zm Y<|Zp Y V<|Zh 4 Ek V rfl OR Y<|Zl N5 Y ?_;refine Zm Y<|Zo Wh (De (Dk GP (D:=fun _=>True)) Nd Ss h.its.im (fun _ _=>trivial) (trivial) (by rw [U];first|done|rfl) Y Y) ?_;refine Zp Y V<|Zh 0 HO V rfl HA Y<|CS (I1 Wo (J)) (A9 (cs:=#[I4 x.q.kd,I4 x.q.tb,I4 x.q.cl,I4 x.q.lo,I4 x.q.hi,I4 x.q.bq,I4 x.q.ot,I4 x.tn,I4 x.base,.slice x.rq x.L.length x.rc]) SJ HA Y As (by exact (by apply HD.1;rfl))) V rfl ?_;refine Zc [_] Y call71 Y V (Ql x.q x.tn x.base g.rp g.rl g.fit) ?_;rintro _ _ ⟨_,⟨G,B,W,rfl,I,rfl⟩,rfl⟩;refine Xe (BL HA Y Y HK Wu (by exact Dw rfl) E6 AH (by exact BB _)) ?_;refine A3 Y<|AJ<|Bj V results48 Y Wh (Am SJ HA Wn (BK V)) Y (by exact ⟨G,B,W,V,I,V⟩)
theorem uQ(h:c.ok)(B:∀y∈c.its,y.key≠K):BH prog 48 #[.pointer (some ⟨c.cp,0,none⟩),.string K] [[(c.cp,.cells c.A62 108 (0,0))],[(c.mi,.map c.esI c.ckI)]] (.tuple #[.agg #[I4 0,I4 0,I4 0,I4 0,I4 0,I4 0,I4 0,I4 0,I4 0,.slice none 0 0],.bool false]):=by
 have G:=h.its.none B;refine Se func48 ntmps48 [0,1] ?_;intro u R;refine A0<|Ze (Ea al (cs:=#[I4 0,I4 0,I4 0,I4 0,I4 0,I4 0,I4 0,I4 0,I4 0,.slice none 0 0]) A6)<|AE fun I=>A3 Y<|Zq<|A0<|Zm Y<|Zv (Be O2 Y Y)<|Zm Y<|Af (t:=8) Y V (fun m=>by cases m)<|fun m=>Zf Y Y<|Yg (Ap Y rfl)<|Yf 4 Ek rfl rfl OR Y<|Yl N5 Y<|Zf Y Y<|Dx Y Wh (De (Dk GP (D:=fun _=>True)) Nd Ss h.its.im (fun _ _=>trivial) (trivial) (by rw [G];first|done|rfl) Y Y) rfl rfl<|Yg (Jr underlying109 Y Y)<|Zv (AL Y Y)<|Z0<|Zn [0,1,4,16] ?_;refine Zx<|AX Y (fun g=>?_) (fun g=>?_);·
  refine A0<|Zv (BM (vs:=[]) (cs:=#[_,_,_,_,_,_,_,_,_,_]) Y (AZ (pl:=#[(0,7),(7,1),(8,1),(9,1)]) al Ft (fun _=>by kernel_rfl) rfl))<|Xe (BL HA Y Y HK Wu (Dw rfl) E6 Wn (by exact BB _))<|A3 Y<|AJ<|Zt<|Bj rfl results48 Y Wh (Am SJ HA Wn (BK rfl)) Y gA
 cases g
theorem rI(h:c.ok)(m:∀y∈c.its,y.key≠K):BH prog 13 #[.pointer (some ⟨c.cp,0,none⟩),.string K] [[(c.cp,.cells c.A62 108 (0,0))],[(c.mi,.map c.esI c.ckI)]] (.tuple #[.agg #[I4 0,I4 0,I4 0,I4 0,I4 0,I4 0,I4 0,.slice none 0 0,I4 0,.bool false,I4 0,I4 0,I4 0,.slice none 0 0,.slice none 0 0],.bool false]):=by
 refine Se func13 ntmps13 [0,1] ?_;intro u R;refine A0<|Ze (Ea L7 (cs:=#[I4 0,I4 0,I4 0,I4 0,I4 0,I4 0,I4 0,.slice none 0 0,I4 0,.bool false,I4 0,I4 0,I4 0,.slice none 0 0,.slice none 0 0]) A6)<|AE fun G=>A3 Y<|A0<|Zm Y<|Zm Y<|Xr [_,_] Y call48 Y V (uQ h m)<|Zm Y<|Zd Y V<|Zd Y V<|Ze (Ea al (cs:=#[I4 0,I4 0,I4 0,I4 0,I4 0,I4 0,I4 0,I4 0,I4 0,.slice none 0 0]) A6)<|AE fun B=>Xe (Xw HA #[I4 0,I4 0,I4 0,I4 0,I4 0,I4 0,I4 0,I4 0,I4 0,.slice none 0 0])<|A3 Y<|Zq<|Zq<|Az (n:=11) (0::1::3::7::15::7::39::103::231::511::1023::[]) 0 A6 A6 V<|A2 0 V (AP Y)<|A2 1 V (Br Y)<|A2 2 V (AP Y)<|CU (t:=21) Y (fun g=>?_) (fun g=>?_);·
  rw [g];refine AF 3 V<|AF 4 V<|AF 5 V<|AF 6 V<|AF 7 V<|AF 8 V<|AF 9 V<|A2 10 V (AQ Y Y)<|Ag<|Zn [0,4,6,29] ?_;refine Zx<|CW Y<|A0<|Zv (BM (vs:=[]) (cs:=#[_,_,_,_,_,_,_,_,_,_,_,_,_,_,_]) Y (AZ (pl:=#[(0,7),(7,3),(10,1),(11,1),(12,1),(13,1),(14,1)]) L7 GF (fun _=>by kernel_rfl) rfl))<|Xe (BL HJ Y Y HK Wu (Dw rfl) E6 Wn (by exact BB _))<|A3 Y<|AJ<|Zt<|Bj rfl results13 Y Wh (Am Wr HJ Wn (BK rfl)) Y gA
 rw [g];cases g
theorem u6(h:c.ok)(hx:x∈c.its)(U:c.pos<x.base):BH prog 13 #[.pointer (some ⟨c.cp,0,none⟩),.string x.key] [[(c.cp,.cells c.A62 108 (0,0))],[(c.mi,.map c.esI c.ckI)],c.SI,c.M] (.tuple #[.agg #[I4 0,I4 0,I4 0,I4 0,I4 0,I4 0,I4 0,.slice none 0 0,I4 0,.bool false,I4 0,I4 0,I4 0,.slice none 0 0,.slice none 0 0],.bool false]):=by
 refine Se func13 ntmps13 [0,1] ?_;intro u R;refine A0<|Ze (Ea L7 (cs:=#[I4 0,I4 0,I4 0,I4 0,I4 0,I4 0,I4 0,.slice none 0 0,I4 0,.bool false,I4 0,I4 0,I4 0,.slice none 0 0,.slice none 0 0]) A6)<|AE fun O=>A3 Y<|A0<|Zm Y<|Zm Y<|Zc [_,_] Y call48 Y V (aV h hx) ?_;rintro _ _ ⟨_,⟨I,B,W,rfl,G,rfl⟩,rfl⟩;refine Zm Y<|Zd Y V<|Zd Y V<|Ze (Ea al (cs:=#[I4 0,I4 0,I4 0,I4 0,I4 0,I4 0,I4 0,I4 0,I4 0,.slice none 0 0]) A6)<|AE fun J=>Xe (Xw HA #[I4 x.q.kd,I4 x.q.tb,I4 x.q.cl,I4 x.q.lo,I4 x.q.hi,I4 x.q.bq,I4 x.q.ot,I4 x.tn,I4 x.base,.slice I x.L.length B])<|A3 Y<|Zq<|Zq<|Az (n:=11) (0::1::3::7::15::7::39::103::231::511::1023::[]) 0 A6 A6 V<|A2 0 V (AP Y)<|A2 1 V (Br Y)<|A2 2 V (AP Y)<|CU (t:=21) Y (fun g=>?_) (fun g=>?_);·
  rw [g];cases g
 rw [g];refine An 3 V (AB (off:=8) Ft V rfl A4 Y)<|DH 4 V Wh (BP AD Y AN)<|An 5 V (AP Y)<|An 6 V (Ap Y V)<|An 7 V (AB (off:=0) Ek V rfl A4 Y)<|DH 8 V Wh (BP AD Y AN)<|An 9 V (Ev Y Y)<|A2 10 V (AL Y Y)<|Ag<|Zn [0,4,6,29] ?_;refine Zx<|Aq Y (fun m=>?_) (fun m=>?_);·
  refine A0<|Zv (BM (vs:=[]) (cs:=#[_,_,_,_,_,_,_,_,_,_,_,_,_,_,_]) Y (AZ (pl:=#[(0,7),(7,3),(10,1),(11,1),(12,1),(13,1),(14,1)]) L7 GF (fun _=>by kernel_rfl) rfl))<|Xe (BL HJ Y Y HK Wu (Dw rfl) E6 Wn (by exact BB _))<|A3 Y<|AJ<|Zt<|Bj rfl results13 Y Wh (Am Wr HJ Wn (BK rfl)) Y gA
 exfalso;omega
set_option maxHeartbeats 1000000 in
theorem xn(h:c.ok)(hx:x∈c.its)(hb:x.base<=c.pos):Ba prog 13 #[.pointer (some ⟨c.cp,0,none⟩),.string x.key] [[(c.cp,.cells c.A62 108 (0,0))],c.sW,[(c.mi,.map c.esI c.ckI)],c.SI,c.M] (fun w H'=>∃(z:Jv) (l:List BN) (s s2:List AA),z.a=⟨x.q,x.res,x.since,c.pos,x.base,x.L,l⟩/\l.map BN.pc=(DD c.pos x.base c.win).map BN.pc/\z.ok (s++s2)/\w= .tuple #[.agg z.A60,.bool true]/\H'=[[(c.cp,.cells c.A62 108 (0,0))],c.sW,[(c.mi,.map c.esI c.ckI)],c.SI,c.M,s,s2]):=by
 have r9:=mL;have G:=h.all x hx
 obtain ⟨r0,gm,J⟩:=G.run;have j3:=G.base
 have lw:=h.pos;have sj:=h.wl
 have o8:=Ex h.win;have gq:=G.reach
 obtain ⟨wl,g⟩:∃wl,wl=(DD c.pos x.base c.win):=⟨_,rfl⟩;have O:wl.length=(c.pos -x.base).toNat:=by rw [g];exact OE gq
 have gy:EZ (c.sW++c.M) (.slice (EY c.wq (c.win.length -(c.pos -x.base).toNat) c.wc 2) (c.pos -x.base).toNat (c.wc -(c.win.length -(c.pos -x.base).toNat))) wl:=by
  have h1:=Nh (a:=c.win.length -(c.pos -x.base).toNat) (iL h.tookb) A1;rw [g];rwa [show c.win.length -(c.win.length -(c.pos -x.base).toNat)=(c.pos -x.base).toNat by omega]at h1
 obtain ⟨cv,cO⟩:∃cv,cv=c.wc -(c.win.length -(c.pos -x.base).toNat):=⟨_,rfl⟩;obtain ⟨pv,ek⟩:∃pv,pv=EY c.wq (c.win.length -(c.pos -x.base).toNat) c.wc 2:=⟨_,rfl⟩;rw [<-cO,<-ek,<-O]at gy;obtain ⟨p8,q9,e8,⟨qz,qy⟩,j5⟩:=id gy;injection e8 with e81 e82 e83
 subst e81 e83;rw [<-g]at J⊢;refine Se func13 ntmps13 [0,1] ?_;intro u R;refine A0<|Ze (Ea L7 (cs:=#[I4 0,I4 0,I4 0,I4 0,I4 0,I4 0,I4 0,.slice none 0 0,I4 0,.bool false,I4 0,I4 0,I4 0,.slice none 0 0,.slice none 0 0]) A6)<|AE fun bo=>A3 Y<|A0<|Zm Y<|Zm Y<|Zc [_,_] Y call48 Y V (aV h hx) ?_;rintro _ _ ⟨_,⟨pz,cz,se,rfl,gB,rfl⟩,rfl⟩;refine Zm Y<|Zd Y V<|Zd Y V<|Ze (Ea al (cs:=#[I4 0,I4 0,I4 0,I4 0,I4 0,I4 0,I4 0,I4 0,I4 0,.slice none 0 0]) A6)<|AE fun be=>Xe (Xw HA #[I4 x.q.kd,I4 x.q.tb,I4 x.q.cl,I4 x.q.lo,I4 x.q.hi,I4 x.q.bq,I4 x.q.ot,I4 x.tn,I4 x.base,.slice pz x.L.length cz]) ?_;refine A3 Y<|Zq<|Zq<|Az (n:=11) (0::1::3::7::15::7::39::103::231::511::1023::[]) 0 A6 A6 V<|A2 0 V (AP Y)<|A2 1 V (Br Y)<|A2 2 V (AP Y)<|CU (t:=21) Y (fun g1=>?_) (fun g1=>?_);·
  rw [g1];cases g1
 rw [g1];refine An 3 V (AB (off:=8) Ft V rfl A4 Y)<|DH 4 V Wh (BP AD Y AN) ?_;refine An 5 V (AP Y)<|An 6 V (Ap Y V)<|An 7 V (AB (off:=0) Ek V rfl A4 Y)<|DH 8 V Wh (BP AD Y AN) ?_;refine An 9 V (Ev Y Y)<|A2 10 V (AL Y Y)<|Ag<|Zn [0,4,6,29] ?_;refine Zx<|Aq Y (fun ic=>by omega)<|fun ic=>AC<|Zx<|A0<|Zm Y<|Zh 8 Ft V rfl A4 Y<|Zl AD Y ?_;refine Xr [_,_] Y call49 Y V (OA lw x.base j3 ⟨o8,by omega⟩) ?_;rw [AM gq,<-cO,<-ek,<-O];refine Zm Y<|Zd Y V<|Zd Y V<|Za Y<|A3 Y<|Zq<|CK (s1:=c.sW) (s2:=c.M) Wo Wo ?_;refine Zg<|Zm Y<|Zv (AY Fo Y)<|Ze (WY (by_:=32) (sz:=2) (l:=0) Fo (V:Tryz.prog.info? 50=some Tryz.t50) V rfl V Y Y ?_ ?_ ?_) ?_
 (focus (omega))
 (focus (omega))
 (focus (omega))
 rintro _ _ ⟨gr,qa,rfl,W,rfl⟩;refine AG Y<|Zn [4,6,8,10] ?_;refine Zx<|Zq<|Zq<|BU<|Zg<|Zm Y<|Zv (AY Fo Y)<|Zm Y<|A5<|AR<|Zb [10,43,4,6,41,42] ?_;refine BA (e0:=[(10,_),(43,_)]) (fun m e H=>∃(k:Nat) (l:List BN) (vr:Value) (U MR:List AA),m=wl.length -k/\((k<=wl.length/\l.length=k)/\Bc 2 50 vr l.length (Du l) U/\(∀r∈l,Ck MR (.slice r.q r.cs.length r.cap) r.cs)/\l.map BN.pc=(wl.take k).map BN.pc)/\e=[(10,vr),(43,I4 (k:Int))]/\H=[U,MR]) (by exact ⟨0,[],_,_,[],V,⟨⟨C0 _,V⟩,kJ A1 W,fun r X=>absurd X B0,V⟩,V,V⟩) Wp ?_;rintro _ _ _ ⟨k,l,vr,U,MR,rfl,⟨⟨hk,kv⟩,hR,ax,B⟩,rfl,rfl⟩;refine A0<|Zv (Au Y Y)<|A5<|Zq<|Aq Y (fun l5=>?_) (fun l5=>?_);·
  obtain ⟨r,X⟩:∃r,wl[k]?=some r:=⟨_,B3 A1⟩;obtain ⟨bn,g9,qo,qb,T9,sw,l9,l8,ql,d9⟩:=j5 k r X;rw [l9];obtain ⟨gv,Z,rfl⟩:=hR.form;have qj:=Pd h.tookb (r:=r) (by rw [g]at X;exact J0 (DE X))
  refine AC<|Zx<|Zq<|AR<|A0<|Bb (Ac Fo F0 Y Y A1)<|CS (I1 Wo (l8)) (A9 (cs:=#[I4 r.p,.slice r.q r.cs.length r.cap]) HX F0 Y A1 (by exact d9)) V rfl ?_;refine Ze (Al Sx #[_,_])<|AE fun br=>Xe (Xw F0 #[I4 r.p,.slice r.q r.cs.length r.cap]) ?_;refine A5<|Zg<|Zm Y<|Zo Wh (A9 (cs:=#[I4 r.p,.slice r.q r.cs.length r.cap]) HX F0 Y As (by exact BK V)) ?_;refine Zc [_] Y call40 Y V (Qk r.p bn A1) ?_;rintro _ _ ⟨_,⟨q2,cap2,s2,rfl,bg,rfl⟩,rfl⟩;refine Ze (Ah (vs:=[_]) (cs:=[_,_]) Fo F0 Sx Y V rfl V rfl V)<|AE fun gb=>Ze (BR (by_:=32) (sz:=2) Fo (V:Tryz.prog.info? 50=some Tryz.t50) V rfl V rfl Y (hR) Y (D8 2 gb 1 1 50 (0,0) [I4 r.p,.slice q2 r.cs.length cap2] V) Wo Wo Fm A1 A1) ?_;rintro _ _ ⟨pq,I,rfl⟩;obtain ⟨qx,qw,rfl⟩:=I.form;refine AG Y<|A8<|Zx<|CK (s1:=s2) (s2:=MR) Wo Wo ?_;refine Zg<|Ya (n:=1) Y Y<|Zm Y<|Z0<|Zn [10,43,4,6,41,42] ?_;refine Ab (e':=[(10,_),(43,_)]) (by
   exact ⟨k+1,l++[⟨r.p,q2,cap2,r.cs⟩],_,pq,s2++MR,rfl,⟨⟨by omega,by rw [B7,kv];rfl⟩,BS I (by rw [B7];rfl) (by rw [Kc];rfl),fun y hy=>by
    rcases B9.1 hy with hy|hy
    · exact H5 (ax y hy) s2
    · rw [BT.1 hy];exact Jl bg MR,by rw [BW,B,Bi X,BW];rfl⟩,rfl,rfl⟩)
 obtain rfl:k=wl.length:=by omega
 rw [GB]at B;obtain ⟨gv,Z,rfl⟩:=hR.form;refine Ay<|Zt<|Zt<|AU<|Zx<|Zq<|jY (s1:=c.sW) (s2:=c.M) (by repeat(first|exact Un.here _|apply Un.there)) ?_;refine CK (s1:=se) (s2:=U) Wo Wo ?_;refine CK (s1:=(se++U)) (s2:=MR) Wo Wo ?_;have gF:EZ ((se++U)++MR) (.slice gv l.length Z) l:=Ll (K6 hR A1 ax) (fun q hq=>by rcases B9.1 hq with h9|h9<;>simp [h9])
 have cu:∀y∈l,y.cs.length<=1000:=xz B fun y hy=>by
  have:=Pd h.tookb (r:=y) (by rw [g]at hy;exact J0 hy);omega
 have af:Jt x.q x.base x.L l=some ⟨x.q,x.res,x.since,c.pos,x.base,x.L,l⟩:=by
  rw [QR gm A1,Oc B,J];show some (bH.mk x.q x.res x.since (x.base+(l.length:Int)) x.base x.L l)=_
  rw [show x.base+(l.length:Int)=c.pos by omega]
 refine Zg<|Zo Wh (A9 (cs:=#[I4 x.q.kd,I4 x.q.tb,I4 x.q.cl,I4 x.q.lo,I4 x.q.hi,I4 x.q.bq,I4 x.q.ot,I4 x.tn,I4 x.base,.slice pz x.L.length cz]) SJ HA Y As (by exact BK V)) ?_;refine Zm Y<|Zc [_,_] Y call50 Y V (yC x.q x.tn x.base A1 (gB.mono fun q hq=>by simp [hq]) G.rl gm gF cu) ?_;rintro _ _ ⟨_,⟨z,s9,b9,o9,rfl,rfl⟩,rfl⟩;obtain ⟨rfl,p9,pg⟩:b9=true/\z.a=⟨x.q,x.res,x.since,c.pos,x.base,x.L,l⟩/\z.ok (s9++((se++U)++MR)):=by
  rcases o9 with⟨h1,h2,h3⟩|⟨_,h2⟩
  · rw [af]at h2;injection h2 with h2;exact ⟨h1,h2.symm,h3⟩
  · rw [af]at h2;cases h2
 refine Zd Y rfl<|Zd Y rfl<|Xe (BL HJ Y Y HK Wu (by exact Dw rfl) E6 AH (by exact BB _)) ?_;refine A3 Y<|AJ<|Bj V results13 Y Wh (Am Wr HJ Wn (BK V)) Y (by exact ⟨z,l,s9,(se++U)++MR,p9,B,pg,V,V⟩)
theorem rK(h:c.ok)(hx:x∈c.its)(G:x.base<=c.pos):Ba prog 13 #[.pointer (some ⟨c.cp,0,none⟩),.string x.key] [[(c.cp,.cells c.A62 108 (0,0))],c.sW,[(c.mi,.map c.esI c.ckI)],c.SI,c.M] (fun w H'=>∃(z:Jv) (l:List BN) (s:List AA),z.a=⟨x.q,x.res,x.since,c.pos,x.base,x.L,l⟩/\l.map BN.pc=(DD c.pos x.base c.win).map BN.pc/\z.ok s/\w= .tuple #[.agg z.A60,.bool true]/\H'=[[(c.cp,.cells c.A62 108 (0,0))],c.sW,[(c.mi,.map c.esI c.ckI)],c.SI,c.M,s]):=by
 refine Gy (xn h hx G) V ?_;rintro w H' ⟨z,l,s,s2,g,h2,m,B,rfl⟩;exact ⟨_,⟨z,l,s++s2,g,h2,m,B,V⟩,by simp⟩
theorem wZ(h:c.ok){q:QM}(hq:BJ q)(te base:Int)(hb:0<=base/\base<=10000){pg:Option Addr}{O:Nat}{L:List RP}{I:List AA}(hL:Fu I (.slice pg L.length O) L)(bn:L.length<=1000000)(bg:∀x∈L,x.fits){G:CE}(X:Eb q L=some G)(Z:¬(c.pos -base).toNat<=c.win.length)(J:TypeId)(zp:Nat×Nat):Ba prog 32 #[.pointer (some ⟨c.cp,0,none⟩),.agg #[I4 q.kd,I4 q.tb,I4 q.cl,I4 q.lo,I4 q.hi,I4 q.bq,I4 q.ot,I4 te,I4 base,.slice pg L.length O]] [[(c.cp,.cells c.A62 108 (0,0))],c.sW,c.M,I,[(1,.cells (Lib.pow10Tab.map fun z=>Value.int .u64 z).toArray J zp)]] (fun w H'=>w= .tuple #[.string ⟨#[]⟩,.pointer none,.bool false]/\H'=[[(c.cp,.cells c.A62 108 (0,0))],c.sW,c.M,I,[(1,.cells (Lib.pow10Tab.map fun z=>Value.int .u64 z).toArray J zp)]]):=by
 have cu:=mL;have W:=h.pos
 have cO:=h.wl;have af:=Ex h.win
 refine Se func32 ntmps32 [0,1] ?_;intro u R;refine A0<|Ze (Bx #[I4 q.kd,I4 q.tb,I4 q.cl,I4 q.lo,I4 q.hi,I4 q.bq,I4 q.ot,I4 te,I4 base,.slice pg L.length O])<|AE fun be=>Za Y<|Za Y<|A3 Y<|A0<|Zh 0 Ft V rfl C7 Y<|Zo Wh (A9 (cs:=q.A59) Dd C7 Y As (by exact (by apply HD.1;rfl)))<|Xr [_] Y call7 Y V (Kg q hq J zp)<|Zm Y<|Zd Y V<|Zd Y V<|Za Y<|A3 Y<|Zq<|A0<|Zm Y<|Zv (Dp (n:=0) Y Y)<|Zm Y<|Aj (t:=22) Y V (fun g1=>?_) (fun g1=>?_);·
  exact absurd V g1
 refine Yf 8 Ft V rfl A4 Y<|Yl AD Y<|Xr [_] Y call29 Y V (JK base) ?_;rw [Cp hb];refine Yg (Br Y)<|Zv (AL Y Y)<|Z0<|Zn [0,3,7,27] ?_;refine Zx<|AX Y (fun m=>by cases m)<|fun m=>AC<|Zx<|A0<|Zm Y<|Zh 8 Ft V rfl A4 Y<|Zl AD Y<|Xr [_,_] Y call49 Y V (OA W base hb ⟨af,by omega⟩) ?_;rw [AK Z];refine Zm Y<|Zd Y V<|Zd Y V<|Za Y<|A3 Y<|A0<|Zh 0 Ft V rfl C7 Y<|Zo Wh (A9 (cs:=#[_,_,_,_,_,_,_]) Dd C7 Y As (by exact (by apply HD.1;rfl)))<|Zh 9 Ft V rfl K0 Y<|Zl Lq Y<|Zc [_,_] Y call69 Y V (Wl hL q X) ?_;rintro _ _ ⟨_,⟨d9,sr,rfl,g,rfl⟩,rfl⟩;obtain ⟨ax,U,rfl⟩:=g.form;refine Zm Y<|Zd Y V<|Zd Y V<|Ze (Al GC #[_,_,_])<|AE fun bs=>Xe (Xw Ax #[.slice ax G.rows.length U,I4 G.val,.bool G.fnd])<|AG Y<|Zn [3,7,9,10,11,12] ?_;refine Zx<|Zq<|A0<|Zm Y<|Zv (Br Y)<|Zm Y<|Af (t:=45) Y V (fun g2=>by cases g2)<|fun g2=>Zf Y Y<|Yg (Br Y)<|Zv (AL Y Y)<|A5<|AX Y (fun B=>?_) (fun B=>?_);·
  refine A0<|Za Y<|Za Y<|A3 Y<|AJ<|Zt<|jD V results32 Y Y Y (by exact ⟨V,V⟩)
 cases B
set_option maxHeartbeats 1000000 in
theorem RL(h:c.ok){q:QM}(hq:BJ q)(te base:Int)(hb:0<=base/\base<=10000){pg:Option Addr}{cg:Nat}{L:List RP}{ME:List AA}(hL:Fu ME (.slice pg L.length cg) L)(cO:L.length<=1000000)(X:∀x∈L,x.fits){g:CE}(af:Eb q L=some g)(ax:(c.pos -base).toNat<=c.win.length)(Tp:TypeId)(zp:Nat×Nat):Ba prog 32 #[.pointer (some ⟨c.cp,0,none⟩),.agg #[I4 q.kd,I4 q.tb,I4 q.cl,I4 q.lo,I4 q.hi,I4 q.bq,I4 q.ot,I4 te,I4 base,.slice pg L.length cg]] [[(c.cp,.cells c.A62 108 (0,0))],c.sW,c.M,ME,[(1,.cells (Lib.pow10Tab.map fun z=>Value.int .u64 z).toArray Tp zp)]] (fun w H'=>∃b rq rc wq wc s1 s2,w= .tuple #[.string (str (Ci q)),I5 b,.bool (BC q g base (DD c.pos base c.win)).2.2]/\Fu s1 (.slice rq L.length rc) L/\Db s2 (.slice wq (BC q g base (DD c.pos base c.win)).1.rows.length wc) (BC q g base (DD c.pos base c.win)).1.rows/\H'=[[(c.cp,.cells c.A62 108 (0,0))],c.sW,c.M,ME,[(1,.cells (Lib.pow10Tab.map fun z=>Value.int .u64 z).toArray Tp zp)],[(b,.cells #[I4 q.kd,I4 q.tb,I4 q.cl,I4 q.lo,I4 q.hi,I4 q.bq,I4 q.ot,I4 te,I4 base,.slice rq L.length rc,I4 0,.slice wq (BC q g base (DD c.pos base c.win)).1.rows.length wc,I4 (BC q g base (DD c.pos base c.win)).1.val,.bool (BC q g base (DD c.pos base c.win)).1.fnd,I4 (BC q g base (DD c.pos base c.win)).2.1] 114 (0,0))],s1,s2]):=by
 have gF:=mL;have gm:=h.pos
 have j3:=h.wl;have gy:=Ex h.win
 obtain ⟨wl,B⟩:∃wl,wl=DD c.pos base c.win:=⟨_,rfl⟩;have I:wl.length=(c.pos -base).toNat:=by rw [B];exact OE ax
 have bg:EZ (c.sW++c.M) (.slice (EY c.wq (c.win.length -(c.pos -base).toNat) c.wc 2) (c.pos -base).toNat (c.wc -(c.win.length -(c.pos -base).toNat))) wl:=by
  have h1:=Nh (a:=c.win.length -(c.pos -base).toNat) (iL h.tookb) A1;rw [B];rwa [show c.win.length -(c.win.length -(c.pos -base).toNat)=(c.pos -base).toNat by omega]at h1
 obtain ⟨cv,W⟩:∃cv,cv=c.wc -(c.win.length -(c.pos -base).toNat):=⟨_,rfl⟩;obtain ⟨pv,Z⟩:∃pv,pv=EY c.wq (c.win.length -(c.pos -base).toNat) c.wc 2:=⟨_,rfl⟩;rw [<-W,<-Z,<-I]at bg;rw [<-B];have U:∀y∈wl,y.cs.length<=1000:=fun y hy=>by
  have:=Pd h.tookb (r:=y) (by rw [B]at hy;exact J0 hy);omega
 obtain ⟨_,ic,gq⟩:=Lb af;refine Se func32 ntmps32 [0,1] ?_;intro u R;refine A0<|Ze (Bx #[I4 q.kd,I4 q.tb,I4 q.cl,I4 q.lo,I4 q.hi,I4 q.bq,I4 q.ot,I4 te,I4 base,.slice pg L.length cg])<|AE fun be=>Za Y<|Za Y<|A3 Y<|A0<|Zh 0 Ft V rfl C7 Y<|Zo Wh (A9 (cs:=q.A59) Dd C7 Y As (by exact (by apply HD.1;rfl)))<|Xr [_] Y call7 Y V (Kg q hq Tp zp)<|Zm Y<|Zd Y V<|Zd Y V<|Za Y<|A3 Y<|Zq<|A0<|Zm Y<|Zv (Dp (n:=0) Y Y)<|Zm Y<|Aj (t:=22) Y V (fun g1=>?_) (fun g1=>?_);·
  exact absurd V g1
 refine Yf 8 Ft V rfl A4 Y<|Yl AD Y<|Xr [_] Y call29 Y V (JK base) ?_;rw [Cp hb];refine Yg (Br Y)<|Zv (AL Y Y)<|Z0<|Zn [0,3,7,27] ?_;refine Zx<|AX Y (fun J=>by cases J)<|fun J=>AC<|Zx<|A0<|Zm Y<|Zh 8 Ft V rfl A4 Y<|Zl AD Y<|Xr [_,_] Y call49 Y V (OA gm base hb ⟨gy,by omega⟩) ?_;rw [AM ax,<-W,<-Z,<-I];refine Zm Y<|Zd Y V<|Zd Y V<|Za Y<|A3 Y<|A0<|Zh 0 Ft V rfl C7 Y<|Zo Wh (A9 (cs:=#[_,_,_,_,_,_,_]) Dd C7 Y As (by exact (by apply HD.1;rfl)))<|Zh 9 Ft V rfl K0 Y<|Zl Lq Y<|Zc [_,_] Y call69 Y V (Wl hL q af) ?_;rintro _ _ ⟨_,⟨j5,sr,rfl,G,rfl⟩,rfl⟩;obtain ⟨gB,bn,rfl⟩:=G.form;refine Zm Y<|Zd Y V<|Zd Y V<|Ze (Al GC #[_,_,_])<|AE fun bs=>Xe (Xw Ax #[.slice gB g.rows.length bn,I4 g.val,.bool g.fnd])<|AG Y<|Zn [3,7,9,10,11,12] ?_;refine Zx<|Zq<|A0<|Zm Y<|Zv (Br Y)<|Zm Y<|Af (t:=45) Y V (fun g2=>by cases g2)<|fun g2=>Zf Y Y<|Yg (Br Y)<|Zv (AL Y Y)<|A5<|AX Y (fun O=>by cases O)<|fun O=>AC<|Zx<|Zq ?_;have ek:=DU G A1
 refine CK (s1:=c.sW) (s2:=c.M) Wo Wo ?_;refine Zg<|Zh 0 Ft V rfl C7 Y<|Zo Wh (A9 (cs:=#[_,_,_,_,_,_,_]) Dd C7 Y As (by exact (by apply HD.1;rfl)))<|Zo Wh (A9 (cs:=#[_,_,_]) Bk Ax Y As (BK V))<|Zh 8 Ft V rfl A4 Y<|Zl AD Y<|Zm Y<|Zc [_,_,_,_] Y call70 Y V (Qa q hq base A1 bg A1 U ek A1 gq) ?_;rintro _ _ ⟨_,⟨kv,s3,rfl,m,rfl⟩,rfl⟩;obtain ⟨wq,wc,rfl⟩:=m.form;have cu:=Ma m
 refine Zm Y<|Zd Y rfl<|Zd Y rfl<|Zd Y rfl<|Xe (BL Ax Y Y HK Wu (by exact (rfl:_=(#[.slice wq (BC q g base wl).1.rows.length wc,I4 (BC q g base wl).1.val,.bool (BC q g base wl).1.fnd]:Array Value))) E6 As (by exact BB _))<|Za Y<|AG Y<|Zn [3,7,11,12,13] ?_;refine Zx<|Zq<|jY (s1:=c.sW) (s2:=c.M) (by repeat(first|exact Un.here _|apply Un.there)) ?_;refine Az (n:=11) (0::0::2::0::0::30::62::0::7::383::1023::[]) 68 A6 A6 V<|A2 0 V (AP Y)<|E7 1 V Wh (A9 (cs:=#[_,_,_,_,_,_,_,_,_,_]) SJ HA Y As (BK V))<|E7 3 V Wh (A9 (cs:=#[_,_,_]) Bk Ax Y As (BK V))<|A2 4 V (AP Y)<|A2 7 V (AP Y)<|Zz (l:=[2])<|B1 [true,false] [(3,(_,_))] V rfl (Zw [_] Y call71 Y V (Ql q te base hL cO X)) ?_ Bv Ai;rintro _ _ ⟨_,⟨rq,rc,s1,rfl,d9,rfl⟩,rfl⟩;refine B6<|A2 5 V (BM (vs:=[(0,.agg #[I4 q.kd,I4 q.tb,I4 q.cl,I4 q.lo,I4 q.hi,I4 q.bq,I4 q.ot,I4 te,I4 base,.slice rq L.length rc]),(2,.agg #[.slice wq (BC q g base wl).1.rows.length wc,I4 (BC q g base wl).1.val,.bool (BC q g base wl).1.fnd]),(3,I4 (BC q g base wl).2.1)]) (cs:=#[I4 q.kd,I4 q.tb,I4 q.cl,I4 q.lo,I4 q.hi,I4 q.bq,I4 q.ot,I4 te,I4 base,.slice rq L.length rc,I4 0,.slice wq (BC q g base wl).1.rows.length wc,I4 (BC q g base wl).1.val,.bool (BC q g base wl).1.fnd,I4 (BC q g base wl).2.1]) Y (AZ (pl:=#[(0,10),(10,1),(11,3),(14,1)]) zeroValue114 HO (fun _=>by kernel_rfl) A6))<|A2 8 V (Av Y)<|Zz (l:=[6])<|B1 [false] [] V rfl (Bx #[I4 q.kd,I4 q.tb,I4 q.cl,I4 q.lo,I4 q.hi,I4 q.bq,I4 q.ot,I4 te,I4 base,.slice rq L.length rc,I4 0,.slice wq (BC q g base wl).1.rows.length wc,I4 (BC q g base wl).1.val,.bool (BC q g base wl).1.fnd,I4 (BC q g base wl).2.1]) ?_ (fun _ _ h=>h.elim) Ai;rintro _ _ ⟨b,rfl,rfl⟩;refine B6<|A2 9 V (Av Y)<|A2 10 V (Av Y)<|Ag<|Zx<|AJ<|jD V results32 Y Y Y (by exact ⟨b,rq,rc,wq,wc,s1,s3,V,d9,DU m cu,V⟩)
end Go.Proofs.YtfhjaegddfehhaaGreatDoor
