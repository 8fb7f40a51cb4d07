/- What a cache keeps; after, forget, remember. -/
import Derived.Test.YtfhjaegddfehhabGreatDoorMm3
set_option linter.unusedVariables false
set_option linter.unusedSimpArgs false
namespace Go.Proofs.YtfhjaegddfehhabGreatDoor
open Go.Proofs.Tryz
open Go Go.RowKit Gw
set_option maxRecDepth 100000
attribute [local irreducible] Gw.At Gw.Nx Gw.Ops
structure ItM where
 b:Nat
 id:Int
 q:QM
 tn:Int
 base:Int
 rq:B6
 rc:Nat
 L:List RP
 res:CB
 wq:B6
 wc:Nat
 since:Int
abbrev ItM.BA0(c:ItM):Array Go.Value:=#[I4 c.q.kd,I4 c.q.tb,I4 c.q.cl,I4 c.q.lo,I4 c.q.hi,I4 c.q.bq,I4 c.q.ot,I4 c.tn,I4 c.base,.slice c.rq c.L.length c.rc,I4 c.id,.slice c.wq c.res.rows.length c.wc,I4 c.res.val,.bool c.res.fnd,I4 c.since]
def ItM.key(x:ItM):Bk:=str (CJ x.q)
def ItM.iq(x:ItM):Int×QM:=(x.id,x.q)
def ItM.obj(x:ItM):Obj:= .cells x.BA0 93 (0,0)
def ItM.ch(x:ItM):A9:=(x.b,x.obj)
def DC(pos base:Int)(win:List BP):List BP:=win.drop (win.length -(pos -base).toNat)
structure ItM.ok(M MR:List A9)(pos:Int)(win:List BP)(x:ItM):Prop where
 q:BF x.q
 base:0<=x.base/\x.base<=10000
 tn:0<=x.tn/\x.tn<=1000000
 rp:FW M (.slice x.rq x.L.length x.rc) x.L
 rl:x.L.length<=1000000
 fit:∀y∈x.L,y.fits
 rw:DW MR (.slice x.wq x.res.rows.length x.wc) x.res.rows
 reach:(pos -x.base).toNat<=win.length
 run:∃r0,Ea x.q x.L=some r0/\GK x.q x.base 0 (r0,x.base) (DC pos x.base win)=some (x.res,x.since)
variable{pos:Int}{x:ItM}
theorem ItM.ok.mono{M m MR g:List A9}{win:List BP}(h:x.ok M MR pos win)(B:∀c∈M,c∈m)(G:∀c∈MR,c∈g):x.ok m g pos win:=⟨h.q,h.base,h.tn,h.rp.mono B,h.rl,h.fit,h.rw.mono G,h.reach,h.run⟩
structure GZ(its:List ItM)(next:Int)(esQ:Array MapEntry)(ckQ:Nat)(lmQ:List (Int×A3))(lv:A3)(ML:List A9)(esI:Array MapEntry)(ckI:Nat)(lmI:List (Bk×A3))(esK:Array MapEntry)(ckK:Nat)(lmK:List (Int×A3))(SI:List A9):Prop where
 idx:Eg (its.map ItM.iq) esQ ckQ lmQ
 ist:Wt (its.map ItM.iq) lv ML
 im:Cm (fun k:Bk=>Value.string k) esI ckI lmI
 imem:∀p,p∈lmI↔∃x∈its,p=(x.key,pV x.b)
 km:Cm (fun n:Int=>Value.int .i64 n) esK ckK lmK
 kmem:∀p,p∈lmK↔∃x∈its,p=(x.id,.string x.key)
 keys:(its.map ItM.key).Nodup
 ids:∀x∈its,1<=x.id/\x.id<=next
 nx:0<=next/\next<=1000000000
 len:its.length<=500
 q:∀x∈its,BF x.q
 sub:∀x∈its,x.ch∈SI
variable{its:List ItM}{next:Int}{esQ esI esK:Array MapEntry}{ckQ ckI ckK:Nat}{lmQ lmK:List (Int×A3)}{lv:A3}{ML SI:List A9}{lmI:List (Bk×A3)}
theorem GZ.get(h:GZ its next esQ ckQ lmQ lv ML esI ckI lmI esK ckK lmK SI)(hx:x∈its):EK x.key lmI=some (pV x.b):=Cy h.im.keys ((h.imem _).2 ⟨x,hx,rfl⟩)
theorem GZ.none{its:List ItM}{next:Int}{esQ:Array MapEntry}{ckQ:Nat}{lmQ:List (Int×A3)}{lv:A3}{ML:List A9}{esI:Array MapEntry}{ckI:Nat}{lmI:List (Bk×A3)}{esK:Array MapEntry}{ckK:Nat}{lmK:List (Int×A3)}{SI:List A9}(h:GZ its next esQ ckQ lmQ lv ML esI ckI lmI esK ckK lmK SI){K:Bk}(g:∀x∈its,x.key≠K):EK K lmI=none:=Da fun p m=>by
 obtain ⟨x,hx,rfl⟩:=(h.imem p).1 m;exact g x hx
theorem GZ.len_eq(h:GZ its next esQ ckQ lmQ lv ML esI ckI lmI esK ckK lmK SI):(lmI.map (·.1)).Perm (its.map ItM.key):=by
 refine (S7 h.im.keys h.keys).2 fun a=>?_;constructor
 · intro g
   obtain ⟨p,m,rfl⟩:=C3.1 g;obtain ⟨x,hx,rfl⟩:=(h.imem p).1 m;exact DS hx
 · intro g
   obtain ⟨x,hx,rfl⟩:=C3.1 g;exact C3.2 ⟨_,(h.imem _).2 ⟨x,hx,V⟩,V⟩
theorem Xi(g:(its.map ItM.key).Nodup)(hi:((its.map ItM.iq).map (·.1)).Nodup){y:ItM}(hx:x∈its)(hy:y∈its):y.key≠x.key↔y.id≠x.id:=by
 rw [LN]at hi;constructor;· intro h e;exact h (by rw [GL hi hx hy e.symm])
 · intro h e;exact h (by rw [GL g hx hy e.symm])
theorem yR(h:GZ its next esQ ckQ lmQ lv ML esI ckI lmI esK ckK lmK SI)(hx:x∈its)
 {X:Array MapEntry}{O:Nat}{Z:List (Int×A3)}(hq:Eg ((its.map ItM.iq).filter fun y=>y.1≠x.id) X O Z){U:Array MapEntry}{I:Nat}{m:List (Bk×A3)}(hm:Cm (fun k:Bk=>Value.string k) U I m)(hp:∀p,p∈m↔p∈lmI/\p.1≠x.key)
 {W:Array MapEntry}{J:Nat}{B:List (Int×A3)}(hk:Cm (fun n:Int=>Value.int .i64 n) W J B)(af:∀p,p∈B↔p∈lmK/\p.1≠x.id):GZ (its.filter fun y=>y.key≠x.key) next X O Z (.pointer none) [] U I m W J B SI:=by
 have g:=h.idx.ids;have e1:(its.filter fun y=>y.key≠x.key).map ItM.iq=(its.map ItM.iq).filter fun y=>y.1≠x.id:=by
  rw [List.filter_map];congr 1;refine ju fun y hy=>?_;exact decide_eq_decide.2 (Xi h.keys g hx hy)
 have G:∀y,y∈(its.filter fun y=>y.key≠x.key)↔y∈its/\y.key≠x.key:=fun y=>by rw [FF];simp
 refine ⟨by rw [e1];exact hq,.inl ⟨rfl,rfl⟩,hm,fun p=>?_,hk,fun p=>?_,h.keys.sublist (Up.map _),fun y hy=>h.ids y ((G y).1 hy).1,h.nx,My (ON _ _) h.len,fun y hy=>h.q y ((G y).1 hy).1,fun y hy=>h.sub y ((G y).1 hy).1⟩
 · rw [hp,h.imem]
   constructor;· rintro ⟨⟨y,hy,rfl⟩,hn⟩;exact ⟨y,(G y).2 ⟨hy,hn⟩,rfl⟩
   · rintro ⟨y,hy,rfl⟩;exact ⟨⟨y,((G y).1 hy).1,rfl⟩,((G y).1 hy).2⟩
 · rw [af,h.kmem]
   constructor;· rintro ⟨⟨y,hy,rfl⟩,hn⟩;exact ⟨y,(G y).2 ⟨hy,(Xi h.keys g hx hy).2 hn⟩,rfl⟩
   · rintro ⟨y,hy,rfl⟩;exact ⟨⟨y,((G y).1 hy).1,rfl⟩,(Xi h.keys g hx ((G y).1 hy).1).1 ((G y).1 hy).2⟩
theorem yS(h:GZ its next esQ ckQ lmQ lv ML esI ckI lmI esK ckK lmK SI)(hx:∀y∈its,y.key≠x.key)(af:x.id=next+1)(hn:next<1000000000)(hl:its.length<500)(hv:BF x.q)
 {U:Array MapEntry}{I:Nat}{W:List (Int×A3)}(hq:Eg (its.map ItM.iq++[(x.id,x.q)]) U I W){J:Array MapEntry}{B:Nat}{g:List (Bk×A3)}(hm:Cm (fun k:Bk=>Value.string k) J B g)(hp:∀p,p∈g↔p=(x.key,pV x.b)\/(p∈lmI/\p.1≠x.key))
 {O:Array MapEntry}{G:Nat}{m:List (Int×A3)}(hk:Cm (fun n:Int=>Value.int .i64 n) O G m)(X:∀p,p∈m↔p=(x.id,.string x.key)\/(p∈lmK/\p.1≠x.id)):GZ (its++[x]) (next+1) U I W (.pointer none) [] J B g O G m (SI++[x.ch]):=by
 have ax:=h.nx;refine ⟨by rw [C2];exact hq,.inl ⟨rfl,rfl⟩,hm,fun p=>?_,hk,fun p=>?_,?_,fun y hy=>?_,by omega,by rw [BW];simp;omega,fun y hy=>?_,fun y hy=>?_⟩
 · rw [hp,h.imem]
   constructor
   · rintro (rfl|⟨⟨y,hy,rfl⟩,_⟩)
     · exact ⟨x,by simp,rfl⟩
     · exact ⟨y,E7 _ hy,rfl⟩
   · rintro ⟨y,hy,rfl⟩
     rcases Bm.1 hy with hy|hy
     · exact .inr ⟨⟨y,hy,rfl⟩,hx y hy⟩
     · rw [C1.1 hy];exact .inl rfl
 · rw [X,h.kmem]
   constructor
   · rintro (rfl|⟨⟨y,hy,rfl⟩,_⟩)
     · exact ⟨x,by simp,rfl⟩
     · exact ⟨y,E7 _ hy,rfl⟩
   · rintro ⟨y,hy,rfl⟩
     rcases Bm.1 hy with hy|hy
     · have:=h.ids y hy
       exact .inr ⟨⟨y,hy,V⟩,by show y.id≠x.id;omega⟩
     · rw [C1.1 hy];exact .inl rfl
 · rw [C2,HA]
   refine ⟨h.keys,by simp,fun a Z b hb=>?_⟩;obtain ⟨y,hy,rfl⟩:=C3.1 Z;obtain rfl:=C1.1 hb;exact hx y hy
 · rcases Bm.1 hy with hy|hy
   · have:=h.ids y hy;omega
   · rw [C1.1 hy];omega
 · rcases Bm.1 hy with hy|hy
   · exact h.q y hy
   · rw [C1.1 hy];exact hv
 · rcases Bm.1 hy with hy|hy
   · exact E7 _ (h.sub y hy)
   · rw [C1.1 hy];simp
variable{mq:Nat}
theorem Xl{B:Nat}{es:Array MapEntry}{ck:Nat}{lm:List (Int×A3)}(G:Eg (its.map ItM.iq) es ck lm)(hx:x∈its):BZ prog 78 #[I5 B,I4 x.id] [[(B,.cells #[.map (some mq),lv] 163 (0,0))],[(mq,.map es ck)]]
 (fun r H'=>∃m g I,r= .bool true/\Eg ((its.map ItM.iq).filter fun y=>y.1≠x.id) m g I/\H'=[[(B,.cells #[.map (some mq),.pointer none] 163 (0,0))],[(mq,.map m g)]]):=Wx G (x:=x.iq) (DS hx)
theorem Ns{M:List A9}{p:B6}{cap a:Nat}{l:List BP}(h:EE M (.slice p l.length cap) l)(W:a<=l.length):EE M (.slice (EY p a cap 2) (l.length -a) (cap -a)) (l.drop a):=by
 obtain ⟨Z,B,e,⟨X,J⟩,I⟩:=h;injection e with e1 e2 e3
 subst e1 e3;refine ⟨_,_,by rw [CD],⟨by rw [CD];omega,by rw [CD];omega⟩,fun i x hx=>?_⟩;rw [Q2]at hx;have hi:=(C4.1 hx).1
 obtain ⟨G,g,off,cur,T,zz,rfl,O,U,m⟩:=I (a+i) x hx;have hc:EY (some ⟨g,off,none⟩) a cap 2=some ⟨g,off+a*2,none⟩:=by
  unfold EY;rw [An A1,NX,CW]
 rw [hc];exact ⟨G,g,_,cur,T,zz,rfl,O,by omega,by rw [show off+a*2+i*2=off+(a+i)*2 by omega];exact m⟩
theorem JO(n:Int):BB prog 25 #[I4 n] [] (.bool (decide (0<=n/\n<=10000))):=by
 refine Se func25 ntmps25 [0] ?_;intro u R;refine A0<|A4 Y<|A0<|Zm Y<|Zv (He Y Y)<|Zm Y<|Aj (t:=5) Y V (fun g=>?_) (fun g=>?_);·
  refine Zf Y Y<|Yg (NY Y Y)<|Zv (AV Y Y)<|A4 Y<|AJ<|AO V results25 Y (by exact ⟨congrArg Value.bool (by simp [g]),V⟩)
 refine A7 Y V<|A7 Y V<|Zv (AL Y Y)<|A4 Y<|AJ<|AO V results25 Y (by exact ⟨congrArg Value.bool (by simp [g]),V⟩)
variable{mk mi ip r cp:Nat}
theorem OL{wq:B6}{wn wc:Nat}(I:0<=pos/\pos<=10000)(base:Int)(G:0<=base/\base<=10000)(J:wn<=wc/\wn<=1000000):BB prog 55 #[I5 cp,I4 base] [[(cp,.cells #[I4 pos,.slice wq wn wc,I5 r,I5 ip,.map (some mi),.map (some mk),I4 next] 87 (0,0))]] (if(pos -base).toNat<=wn then .tuple #[.slice (EY wq (wn -(pos -base).toNat) wc 2) (pos -base).toNat (wc -(wn -(pos -base).toNat)),.bool true]else .tuple #[.slice none 0 0,.bool false]):=by
 have B:=mL;obtain ⟨n,hn⟩:∃n:Nat,n=(pos -base).toNat:=⟨_,rfl⟩;have g:max (pos -base) 0=(n:Int):=by omega
 rw [<-hn];refine Se func55 ntmps55 [0,1] ?_;intro u R;refine A0<|Za Y<|A4 Y<|A0<|Zm Y<|Zp Y V<|Zh 0 FG V rfl A6 Y<|Zl AF Y ?_;refine Zm Y ?_
 (refine BV (GN Y Y (IntWalk.i64_in _ ?_)) ?_;(focus (omega)))
 refine Zv (QS Y Y)<|A4 Y<|Zq<|Zq ?_;rw [g];refine Zg<|Zm Y<|Zm Y<|Zp Y V<|Zh 1 FG V rfl PA Y<|Zl ZS Y ?_;refine Zv (AY GO Y)<|Zv (DK Y Y)<|Z0<|Zn [0,6,20] ?_;refine Zx<|Aq Y (fun m=>?_) (fun m=>?_);·
  refine A0<|Za Y<|A4 Y<|AJ<|Zt<|Cv rfl results55 Y Y (by exact ⟨by rw [An A1],rfl⟩)
 refine AC<|Zx<|Zq<|Az (n:=14) (0::1::3::7::0::16::48::112::240::0::1008::2047::4095::8191::[]) 0 AE AE V<|A2 0 V (AP Y)<|A2 1 V (Ap Y V)<|A2 2 V (AB (off:=1) FG V rfl PA Y)<|B9 3 V ZS Y ?_;refine A2 4 V (AP Y)<|A2 5 V (Ap Y V)<|A2 6 V (AB (off:=1) FG V rfl PA Y)<|B9 7 V ZS Y ?_;refine A2 8 V (AY GO Y)<|A2 9 V (AP Y) ?_
 (refine Dr (D':=2047) 10 (CQ Y Y ?_ ?_) ?_;(focus (omega));(focus (omega)))
 refine A2 11 V (CE GO F1 Y Y A1)<|A2 12 V (Aw Y)<|A2 13 V (Aw Y)<|Ag<|Zn [4,5] ?_;refine Zx<|AJ<|Cv rfl results55 Y Y (by exact ⟨by rw [Ax A1,show wn -(wn -n)=n by omega],rfl⟩)
variable{wv:A3}
theorem WO(h:GZ its next esQ ckQ lmQ lv ML esI ckI lmI esK ckK lmK SI)(hx:x∈its):BZ prog 31 #[I5 cp,.string x.key] [[(cp,.cells #[I4 pos,wv,I5 r,I5 ip,.map (some mi),.map (some mk),I4 next] 87 (0,0))],[(ip,.cells #[.map (some mq),lv] 163 (0,0))],[(mq,.map esQ ckQ)],[(mi,.map esI ckI)],[(mk,.map esK ckK)],SI] (fun v H'=>v= .bool true/\∃J B bn G g af I m ax,GZ (its.filter fun y=>y.key≠x.key) next J B bn (.pointer none) [] G g af I m ax SI/\H'=[[(cp,.cells #[I4 pos,wv,I5 r,I5 ip,.map (some mi),.map (some mk),I4 next] 87 (0,0))],[(ip,.cells #[.map (some mq),.pointer none] 163 (0,0))],[(mq,.map J B)],[(mi,.map G g)],[(mk,.map I m)],SI]):=by
 have hg:=h.get hx;have X:(x.b,Obj.cells x.BA0 93 (0,0))∈SI:=h.sub x hx
 have l5:x.iq∈its.map ItM.iq:=DS hx;refine Se func31 ntmps31 [0,1] ?_;intro u R;refine A0<|A4 Y<|A0<|Zm Y<|Zp Y rfl<|Zh 4 FG rfl rfl PB Y<|Zl OK Y<|Zm Y<|Zo Wh (EC (Dl H4 (D:=fun _=>True)) OS To h.im (fun _ _=>trivial) (trivial) (⟨by rw [hg];first|done|rfl,by rw [hg];first|done|rfl⟩) Y Y)<|Zm Y<|Zd Y rfl<|Zd Y rfl<|Za Y<|A4 Y<|Zq<|A0<|Zm Y<|Zv (Br Y)<|Z0<|Zn [0,1,5,17] ?_;refine Zx<|AU Y (fun W=>by cases W)<|fun W=>AC<|Zx<|Zq<|Az (n:=9) (0::1::3::7::0::16::48::112::255::[]) 256 AE AE V<|A2 0 V (AP Y)<|A2 1 V (Ap Y V)<|A2 2 V (AB (off:=3) FG V rfl sizeOf82 Y)<|B9 3 V isAgg82 Y<|A2 4 V (AP Y)<|A2 5 V (Ap Y V)<|A2 6 V (AB (off:=10) Hi V rfl A6 Y)<|Ce (D':=255) 7 V rfl V (FR Wo (X)) (BO AF Y As) ?_;refine Zz (l:=[8])<|B5 [false,false] [] V rfl (Zw [_,_] Y call78 Y V (Xl h.idx hx)) ?_ Bw Ah;rintro _ _ ⟨_,⟨U,O,cu,rfl,Z,rfl⟩,rfl⟩;refine BT<|Ag<|Zx<|Zq<|Az (n:=9) (0::1::3::7::0::16::48::112::255::[]) 256 AE AE V<|A2 0 V (AP Y)<|A2 1 V (Ap Y V)<|A2 2 V (AB (off:=5) FG V rfl sizeOf85 Y)<|B9 3 V isAgg85 Y<|A2 4 V (AP Y)<|A2 5 V (Ap Y V)<|A2 6 V (AB (off:=10) Hi V rfl A6 Y)<|Ce (D':=255) 7 V rfl V (FR Wo (X)) (BO AF Y As) ?_;refine Yw 8 511 V (Lh (CY CM (D:=fun _=>True)) eS h.km (fun _ _=>trivial) (trivial) Y Y Wo) ?_;rintro _ _ ⟨rfl,ek,cO,j5,gq,ic,rfl⟩;refine Ag<|Zn [0,1] ?_;refine Zx<|A0<|Zm Y<|Zp Y V<|Zh 4 FG V rfl PB Y<|Zl OK Y<|Zm Y<|Ze (Lh (Dl H4 (D:=fun _=>True)) OS h.im (fun _ _=>trivial) (trivial) Y Y Wo) ?_;rintro _ _ ⟨rfl,gm,d9,kv,gy,j3,rfl⟩;refine A5<|A0<|A4 Y<|AJ<|AO V results31 Y (by exact ⟨V,U,O,cu,gm,d9,kv,ek,cO,j5,yR h hx Z gy j3 gq ic,V⟩)
variable{K:Bk}
theorem WN(h:GZ its next esQ ckQ lmQ lv ML esI ckI lmI esK ckK lmK SI)(B:∀y∈its,y.key≠K):BB prog 31 #[I5 cp,.string K] [[(cp,.cells #[I4 pos,wv,I5 r,I5 ip,.map (some mi),.map (some mk),I4 next] 87 (0,0))],[(mi,.map esI ckI)]] (.bool false):=by
 have m:=h.none B;refine Se func31 ntmps31 [0,1] ?_;intro u R;refine A0<|A4 Y<|A0<|Zm Y<|Zp Y rfl<|Zh 4 FG rfl rfl PB Y<|Zl OK Y<|Zm Y<|Zo Wh (EC (Dl H4 (D:=fun _=>True)) OS To h.im (fun _ _=>trivial) (trivial) (⟨by rw [m];first|done|rfl,by rw [m];first|done|rfl⟩) Y Y)<|Zm Y<|Zd Y rfl<|Zd Y rfl<|Za Y<|A4 Y<|Zq<|A0<|Zm Y<|Zv (Br Y)<|Z0<|Zn [0,1,5,17] ?_;refine Zx<|AU Y (fun g=>?_) (fun g=>?_);·
  refine A0<|A4 Y<|AJ<|Zt<|AO V results31 Y (by exact ⟨V,V⟩)
 cases g
theorem NS(h:GZ its next esQ ckQ lmQ lv ML esI ckI lmI esK ckK lmK SI)(hx:∀y∈its,y.key≠x.key)(g:x.id=next+1)(hn:next<1000000000)(hl:its.length<500)(hv:BF x.q):BZ prog 32 #[I5 cp,.string x.key,.pointer (some ⟨x.b,0,none⟩)] [[(cp,.cells #[I4 pos,wv,I5 r,I5 ip,.map (some mi),.map (some mk),I4 next] 87 (0,0))],[(ip,.cells #[.map (some mq),lv] 163 (0,0))],[(mq,.map esQ ckQ)],[(mi,.map esI ckI)],[(mk,.map esK ckK)],[(x.b,.cells #[I4 x.q.kd,I4 x.q.tb,I4 x.q.cl,I4 x.q.lo,I4 x.q.hi,I4 x.q.bq,I4 x.q.ot,I4 x.tn,I4 x.base,.slice x.rq x.L.length x.rc,I4 0,.slice x.wq x.res.rows.length x.wc,I4 x.res.val,.bool x.res.fnd,I4 x.since] 93 (0,0))],SI] (fun v H'=>v=undef/\∃O G bn I m af J B ax,GZ (its++[x]) (next+1) O G bn (.pointer none) [] I m af J B ax (SI++[x.ch])/\H'=[[(cp,.cells #[I4 pos,wv,I5 r,I5 ip,.map (some mi),.map (some mk),I4 (next+1)] 87 (0,0))],[(ip,.cells #[.map (some mq),.pointer none] 163 (0,0))],[(mq,.map O G)],[(mi,.map I m)],[(mk,.map J B)],(SI++[x.ch])]):=by
 rw [<-g];have hg:=h.none hx
 have qw:=h.nx;have kv:EK x.id lmK=none:=Da fun p hp=>by
  obtain ⟨y,hy,rfl⟩:=(h.kmem p).1 hp;have:=h.ids y hy
  show y.id≠x.id;omega
 have ic:∀y∈its.map ItM.iq,y.1≠x.id:=fun y hy=>by
  obtain ⟨z,hz,rfl⟩:=C3.1 hy;have:=h.ids z hz
  show z.id≠x.id;omega
 refine Se func32 ntmps32 [0,1,2] ?_;intro u R;refine A0<|Zm Y<|Zp Y V<|Zh 6 FG V rfl A6 Y<|Zl AF Y ?_;refine Yi Y Y<|Zp Y V<|Zh 6 FG V rfl A6 Y<|Xe (Zs A6 Y Y V) ?_;refine A5<|Zq ?_;rw [<-g];refine Zg<|Zm Y<|Zm Y<|Zp Y V<|Zh 6 FG V rfl A6 Y<|Zl AF Y ?_;refine Zp Y V<|Zh 10 Hi V rfl A6 Y<|Xe (Zs A6 Y Y V) ?_;refine Z0<|Zn [0,1,2] ?_;refine Zx<|Zq<|Az (n:=21) (0::1::3::7::0::0::32::96::224::0::512::1536::3584::0::0::8191::40959::114687::245759::507903::1048575::[]) 1474560 AE AE V<|A2 0 V (AP Y)<|A2 1 V (Ap Y V)<|A2 2 V (AB (off:=4) FG V rfl PB Y)<|B9 3 V OK Y ?_;refine A2 4 V (AP Y)<|A2 5 V (AP Y)<|A2 6 V (Ap Y V)<|A2 7 V (AB (off:=5) FG V rfl sizeOf85 Y)<|B9 8 V isAgg85 Y ?_;refine A2 9 V (AP Y)<|A2 10 V (Ap Y V)<|A2 11 V (AB (off:=10) Hi V rfl A6 Y)<|B9 12 V AF Y ?_;refine A2 13 rfl (AP Y)<|A2 14 rfl (AP Y)<|Zz (l:=[15])<|B5 [false,false,false] [] rfl rfl (Kk (Dl H4 (D:=fun _=>True)) OS To h.im (fun _ _=>trivial) (trivial) (by rw [hg];first|done|rfl) Y Y Wo) ?_ (fun _ _ h=>h.elim) Ah;rintro _ _ ⟨ql,qb,qx,j3,r9,rfl,l9,l5,gq,p9,rfl⟩;refine BT<|A2 16 V (C8 Y V)<|Zz (l:=[17])<|B5 [] [] V rfl (J4 l9 l5 gq Y Y Y Wo) ?_ (fun _ _ h=>h.elim) Ah;rintro _ _ ⟨rfl,ek,cO,q9,o8,pg,rfl⟩;refine BT<|Yw 18 524287 rfl (Kk (CY CM (D:=fun _=>True)) eS Hs h.km (fun _ _=>trivial) (trivial) (by rw [kv];first|done|rfl) Y Y Wo) ?_;rintro _ _ ⟨qo,qj,qz,j5,sj,rfl,o9,l8,gy,pq,rfl⟩;refine A2 19 V (C8 Y V)<|Zz (l:=[20])<|B5 [] [] V rfl (J4 o9 l8 gy Y Y Y Wo) ?_ (fun _ _ h=>h.elim) Ah;rintro _ _ ⟨rfl,gm,d9,qa,p8,pz,rfl⟩;refine BT<|Ag<|Zn [0,2] ?_;refine Zx<|CP (s1:=SI) (s2:=[x.ch]) Wo Wo ?_;have X:(x.b,Obj.cells x.BA0 93 (0,0))∈SI++[x.ch]:=GB _ (C1.2 rfl)
 refine Az (n:=14) (0::1::3::7::0::16::48::112::0::256::768::1792::3840::8191::[]) 8192 AE AE V<|A2 0 V (AP Y)<|A2 1 V (Ap Y V)<|A2 2 V (AB (off:=3) FG V rfl sizeOf82 Y)<|B9 3 V isAgg82 Y ?_;refine A2 4 V (AP Y)<|A2 5 V (Ap Y V)<|A2 6 V (AB (off:=10) Hi V rfl A6 Y)<|Ce (D':=255) 7 V rfl V (FR Wo (X)) (BO AF Y As) ?_;refine A2 8 V (AP Y)<|A2 9 V (Ap Y V)<|A2 10 V (AB (off:=0) Hi V rfl HH Y)<|A2 11 V (Ar (off:=0) G4 V rfl CN Y)<|Ce (D':=8191) 12 V rfl V (FR Wo (X)) (AA (cs:=x.q.A98) F2 CN Y Wn (by exact (by apply HX.1;rfl))) ?_;refine Zz (l:=[13])<|B5 [false,false,false] [] rfl rfl (Zw [_,_,_] Y call79 Y rfl (kY h.idx ic hv (by rw [B8];exact hl))) ?_ Bw Ah;rintro _ _ ⟨_,⟨W,U,cu,rfl,Z,rfl⟩,rfl⟩;refine BT<|Ag<|Cw rfl results32 (by exact ⟨rfl,W,U,cu,ek,cO,q9,gm,d9,qa,by rw [g];exact yS h hx g hn hl hv Z o8 (fun p=>by rw [pg,p9];exact OY _ _ _ _) p8 (fun p=>by rw [pz,pq];exact OY _ _ _ _),rfl⟩)
structure CZ where
 cp:Nat
 pos:Int
 wq:B6
 wc:Nat
 win:List BP
 sW:List A9
 z:Bg
 ns:Nat
 PL:List Bp
 mb:Nat
 esP:Array MapEntry
 ckP:Nat
 lmP:List (Bk×A3)
 su:List A9
 ip:Nat
 mq:Nat
 mi:Nat
 mkb:Nat
 next:Int
 its:List ItM
 esQ:Array MapEntry
 ckQ:Nat
 lmQ:List (Int×A3)
 lv:A3
 ML:List A9
 esI:Array MapEntry
 ckI:Nat
 lmI:List (Bk×A3)
 esK:Array MapEntry
 ckK:Nat
 lmK:List (Int×A3)
 SI:List A9
 M:List A9
 MR:List A9
abbrev CZ.BA1(c:CZ):Array Go.Value:=#[I4 c.pos,.slice c.wq c.win.length c.wc,.pointer (some ⟨c.z.r,0,none⟩),.pointer (some ⟨c.ip,0,none⟩),.map (some c.mi),.map (some c.mkb),I4 c.next]
structure CZ.okb(c:CZ):Prop where
 pos:0<=c.pos/\c.pos<=10000
 win:Bd 2 50 (.slice c.wq c.win.length c.wc) c.win.length (Du c.win) c.sW
 wl:c.win.length<=64
 wp:∀(i:Nat) (r:BP),c.win[i]?=some r->r.p=c.pos -(c.win.length:Int)+1+(i:Int)/\Cf c.M (.slice r.q r.cs.length r.cap) r.cs/\EM r.p r.cs
 pool:DF c.z c.ns c.PL c.mb c.esP c.ckP c.lmP c.su
 pk:∀k,k∈c.PL.map (·.key)↔k∈c.its.map ItM.key
 its:GZ c.its c.next c.esQ c.ckQ c.lmQ c.lv c.ML c.esI c.ckI c.lmI c.esK c.ckK c.lmK c.SI
 tns:∀x∈c.its,x.tn<(c.ns:Int)
structure CZ.ok(c:CZ):Prop extends CZ.okb c where
 all:∀x∈c.its,x.ok c.M c.MR c.pos c.win
structure CZ.like(c d:CZ):Prop where
 cp:d.cp=c.cp
 pos:d.pos=c.pos
 win:d.win=c.win
 ns:d.ns=c.ns
 cap:d.z.cap=c.z.cap
variable{c:CZ}
theorem CZ.like.trans{a b:CZ}(h:a.like b)(k:b.like c):a.like c:=⟨k.cp.trans h.cp,k.pos.trans h.pos,k.win.trans h.win,k.ns.trans h.ns,k.cap.trans h.cap⟩
theorem jL(h:c.okb):EE (c.sW++c.M) (.slice c.wq c.win.length c.wc) c.win:=KI h.win (by have:=h.wl;have g:maxLen=9223372036854775807:=rfl;omega) fun r m=>by
 obtain ⟨i,hi⟩:=HE m;exact (h.wp i r hi).2.1
theorem Q6{α:Type}{l:List α}{x:α}(h:x∈l):∃A B,l=A++x::B:=cT h
theorem Vj{PL:List Bp}(X:∀k,k∈PL.map (·.key)↔k∈its.map ItM.key){I J:List Bp}{e:Bp}(W:PL=I++e::J)(hn:(PL.map (·.key)).Nodup)(U:e.key=K):∀k,k∈(I++J).map (·.key)↔k∈(its.filter fun y=>y.key≠K).map ItM.key:=by
 intro k;subst W U;have O:=X k
 rw [C2,Ek,HA,Hc]at hn;constructor
 · intro h
   rw [C2,Bm]at h;have m:k≠e.key:=by
    rintro rfl;rcases h with h|h
    · exact hn.2.2 _ h _ (EV ..) rfl
    · exact hn.2.1.1 h
   obtain ⟨y,hy,rfl⟩:=C3.1 (O.1 (by rw [C2,Ek,Bm,DB];rcases h with h|h;exact .inl h;exact .inr (.inr h)));exact C3.2 ⟨y,FF.2 ⟨hy,by simpa using m⟩,V⟩
 · intro h
   obtain ⟨y,hy,rfl⟩:=C3.1 h;obtain ⟨B,G⟩:=FF.1 hy;have g:=O.2 (DS B)
   rw [C2,Ek,Bm,DB]at g;rw [C2,Bm];rcases g with g|g|g
   · exact .inl g
   · simp [g]at G
   · exact .inr g
theorem UJ(h:c.okb)(hx:x∈c.its):BZ prog 13 #[.pointer (some ⟨c.cp,0,none⟩),.string x.key] [[(c.cp,.cells #[I4 c.pos,.slice c.wq c.win.length c.wc,.pointer (some ⟨c.z.r,0,none⟩),.pointer (some ⟨c.ip,0,none⟩),.map (some c.mi),.map (some c.mkb),I4 c.next] 87 (0,0))],c.sW,c.z.S,[(c.mb,.map c.esP c.ckP)],c.su,[(c.ip,.cells #[.map (some c.mq),c.lv] 163 (0,0))],[(c.mq,.map c.esQ c.ckQ)],c.ML,[(c.mi,.map c.esI c.ckI)],[(c.mkb,.map c.esK c.ckK)],c.SI,c.M,c.MR] (fun v H'=>v= .bool true/\∃d:CZ,d.okb/\c.like d/\d.next=c.next/\(d.M=c.M/\d.MR=c.MR)/\d.SI=c.SI/\d.mi=c.mi/\d.its=(c.its.filter fun y=>y.key≠x.key)/\(∀e∈d.PL,e∈c.PL)/\H'=[[(d.cp,.cells #[I4 d.pos,.slice d.wq d.win.length d.wc,.pointer (some ⟨d.z.r,0,none⟩),.pointer (some ⟨d.ip,0,none⟩),.map (some d.mi),.map (some d.mkb),I4 d.next] 87 (0,0))],d.sW,d.z.S,[(d.mb,.map d.esP d.ckP)],d.su,[(d.ip,.cells #[.map (some d.mq),d.lv] 163 (0,0))],[(d.mq,.map d.esQ d.ckQ)],d.ML,[(d.mi,.map d.esI d.ckI)],[(d.mkb,.map d.esK d.ckK)],d.SI,d.M,d.MR]):=by
 obtain ⟨e,Z,B⟩:=C3.1 ((h.pk x.key).2 (DS hx));obtain ⟨L1,L2,m⟩:=Q6 Z;have g:=h.pool
 rw [m]at g;rw [<-B];refine Se func13 ntmps13 [0,1] ?_;intro u R;refine A0<|A4 Y<|Zq<|Zq<|BX<|FB (s:=c.z.S) Wo (fun W=>?_);rw [Bg.keys]at W;refine Zg<|Zm Y<|Zv (Be Lz Y Y)<|A5<|AU Y (fun G=>by cases G)<|fun G=>AC<|Zx<|A0<|Zm Y<|Zp Y V<|Zh 2 FG V rfl dy Y<|Zl ID Y<|Zm Y<|Zc [_,_] Y call43 Y V (lX g W) ?_;rintro _ _ ⟨_,⟨rfl,z2,es2,ck2,lm2,su2,U,O,X,J,rfl⟩,rfl⟩;refine A5<|A0<|Zm Y<|Zm Y ?_;rw [B];refine Zc [_,_] Y call31 Y V (WO h.its hx) ?_;rintro _ _ ⟨_,⟨rfl,eq3,cq3,lq3,ei3,ci3,li3,ek3,ck3,lk3,I,rfl⟩,rfl⟩;refine AN Y<|Zn [4] ?_;refine Zx<|AJ<|AO V results13 Y (by
  refine ⟨rfl,({c with z:=z2,PL:=L1++L2,esP:=es2,ckP:=ck2,lmP:=lm2,su:=su2,its:=c.its.filter fun y=>y.key≠x.key,esQ:=eq3,ckQ:=cq3,lmQ:=lq3,lv:= .pointer none,ML:=[],esI:=ei3,ckI:=ci3,lmI:=li3,esK:=ek3,ckK:=ck3,lmK:=lk3}:CZ),⟨h.pos,h.win,h.wl,h.wp,J,Vj h.pk m h.pool.keys B,I,fun y hy=>h.tns y (FF.1 hy).1⟩,⟨rfl,rfl,rfl,rfl,O⟩,rfl,⟨rfl,rfl⟩,rfl,rfl,rfl,fun y hy=>by rw [m];rcases Bm.1 hy with h9|h9<;>simp [h9],?_⟩;simp only [U];rfl)
theorem yo(h:c.ok)(hx:x∈c.its):BZ prog 13 #[.pointer (some ⟨c.cp,0,none⟩),.string x.key] [[(c.cp,.cells c.BA1 87 (0,0))],c.sW,c.z.S,[(c.mb,.map c.esP c.ckP)],c.su,[(c.ip,.cells #[.map (some c.mq),c.lv] 163 (0,0))],[(c.mq,.map c.esQ c.ckQ)],c.ML,[(c.mi,.map c.esI c.ckI)],[(c.mkb,.map c.esK c.ckK)],c.SI,c.M,c.MR] (fun v H'=>v= .bool true/\∃d:CZ,d.ok/\c.like d/\d.next=c.next/\(d.M=c.M/\d.MR=c.MR)/\d.its=(c.its.filter fun y=>y.key≠x.key)/\(∀e∈d.PL,e∈c.PL)/\H'=[[(d.cp,.cells d.BA1 87 (0,0))],d.sW,d.z.S,[(d.mb,.map d.esP d.ckP)],d.su,[(d.ip,.cells #[.map (some d.mq),d.lv] 163 (0,0))],[(d.mq,.map d.esQ d.ckQ)],d.ML,[(d.mi,.map d.esI d.ckI)],[(d.mkb,.map d.esK d.ckK)],d.SI,d.M,d.MR]):=(UJ h.tookb hx).mono (by
 rintro v H' ⟨G,d,h2,g,I,m,_,_,B,J,O⟩;refine ⟨G,d,⟨h2,fun y hy=>?_⟩,g,I,m,B,J,O⟩;rw [B]at hy;rw [m.1,m.2,g.pos,g.win];exact h.all y (FF.1 hy).1)
theorem yn(h:c.okb)(G:∀y∈c.its,y.key≠K):BB prog 13 #[.pointer (some ⟨c.cp,0,none⟩),.string K] [[(c.cp,.cells c.BA1 87 (0,0))],c.z.S,[(c.mb,.map c.esP c.ckP)],c.su,[(c.mi,.map c.esI c.ckI)]] (.bool false):=by
 have m:∀e∈c.PL,e.key≠K:=fun e J O=>by
  obtain ⟨y,hy,B⟩:=C3.1 ((h.pk e.key).1 (DS J));exact G y hy (B.trans O)
 refine Se func13 ntmps13 [0,1] ?_;intro u R;refine A0<|A4 Y<|Zq<|Zq<|FB (s:=c.z.S) Wo (fun I=>?_);rw [Bg.keys]at I;refine Zg<|Zm Y<|Zv (Be Lz Y Y)<|A5<|AU Y (fun g=>by cases g)<|fun g=>AC<|Zx<|A0<|Zm Y<|Zp Y V<|Zh 2 FG V rfl dy Y<|Zl ID Y<|Zm Y<|Xr [_,_] Y call43 Y V (lW h.pool I m)<|A5<|A0<|Zm Y<|Zm Y<|Xr [_,_] Y call31 Y V (WN h.its G)<|AN Y<|Zn [4] ?_;refine Zx<|AJ<|AO V results13 Y (by exact ⟨V,V⟩)
theorem OG(h:c.okb):BZ prog 15 #[.pointer (some ⟨c.cp,0,none⟩)] [[(c.cp,.cells c.BA1 87 (0,0))],[(c.mi,.map c.esI c.ckI)]] (fun r H'=>∃(zs:List Bk) (s':List A9),zs.Perm (c.its.map ItM.key)/\(zs.Pairwise fun x y=>x.data.toList<=y.data.toList)/\Row 9 r (zs.map Value.string) s'/\H'=[[(c.cp,.cells c.BA1 87 (0,0))],[(c.mi,.map c.esI c.ckI)],s']):=by
 have m:=h.its.len_eq;have I:=m.length_eq
 rw [B8,B8]at I;have U:=h.its.len
 refine Se func15 ntmps15 [0] ?_;intro u R;refine A0<|A4 Y<|Zq<|A0<|Zm Y<|Zv (Be Lz Y Y)<|A5<|AU Y (fun g=>by cases g)<|fun g=>AC<|Zx<|A0<|Zm Y<|Zp Y V<|Zh 4 FG V rfl PB Y<|Zl OK Y<|Zc [_] Y call53 Y V (gV c.mi) ?_;rintro _ _ ⟨_,⟨O,rfl,rfl⟩,rfl⟩;refine Zc [_] Y call52 Y V (XB h.its.im A1 O c.mi (M:=[(c.mi,.map c.esI c.ckI)]) B4) ?_;rintro _ _ ⟨_,⟨zs,W,G,B,J,rfl⟩,rfl⟩;refine A4 Y<|AJ<|AO V results15 Y (by exact ⟨zs,W,G.trans m,B,J,V⟩)
theorem og(c:CZ):BB prog 20 #[.pointer (some ⟨c.cp,0,none⟩)] [[(c.cp,.cells c.BA1 87 (0,0))]] (I4 c.pos):=by
 refine Se func20 ntmps20 [0] ?_;intro u R;refine A0<|A4 Y<|Zq<|A0<|Zm Y<|Zv (Be Lz Y Y)<|A5<|AU Y (fun g=>by cases g)<|fun g=>AC<|Zx<|A0<|Zm Y<|Zp Y V<|Zh 0 FG V rfl A6 Y<|Zl AF Y<|A4 Y<|AJ<|AO V results20 Y (by exact ⟨V,V⟩)
theorem iT(h:c.okb){k:Nat}(B:k<c.ns):BB prog 21 #[.pointer (some ⟨c.cp,0,none⟩),I4 (k:Int)] [[(c.cp,.cells c.BA1 87 (0,0))],c.z.S,[(c.mb,.map c.esP c.ckP)],c.su] (I4 (Eu c.PL (k:Int))):=by
 refine Se func21 ntmps21 [0,1] ?_;intro u R;refine A0<|A4 Y<|Zq<|Zq<|FB (s:=c.z.S) Wo (fun m=>?_);rw [Bg.keys]at m;refine Zg<|Zm Y<|Zv (Be Lz Y Y)<|A5<|AU Y (fun g=>by cases g)<|fun g=>AC<|Zx<|A0<|Zm Y<|Zp Y V<|Zh 2 FG V rfl dy Y<|Zl ID Y<|Zm Y<|Xr [_,_] Y call63 Y V (xJ h.pool m B)<|A4 Y<|AJ<|AO V results21 Y (by exact ⟨V,V⟩)
def BP.pc(r:BP):Int×List Chg:=(r.p,r.cs)
theorem Oq{q:QM}{base:Int}:∀{l l':List BP} {i:Nat} {st:CB×Int},l.map BP.pc=l'.map BP.pc->GK q base i st l=GK q base i st l'
 |[],[],_,_,_=>rfl
 |[],_::_,_,_,h=>by simp at h
 |_::_,[],_,_,h=>by simp at h
 |x::l,y::l',i,st,h=>by
  rw [Ek,Ek]at h;injection h with h1 h2
  injection h1 with h3 h4
  unfold GK;rw [h3,h4];split;· exact Oq h2
  · rfl
theorem OU{base:Int}{win:List BP}(h:(pos -base).toNat<=win.length):(DC pos base win).length=(pos -base).toNat:=by
 unfold DC;rw [CD];omega
theorem Py(h:c.okb){r:BP}(g:r∈c.win):r.cs.length<=8:=by
 obtain ⟨i,hi⟩:=HE g;exact (h.wp i r hi).2.2.len.2
theorem yu{l m:List BP}(g:l.map BP.pc=m.map BP.pc){n:Nat}(h:∀y∈m,y.cs.length<=n):∀y∈l,y.cs.length<=n:=fun y hy=>by
 have B:y.pc∈m.map BP.pc:=by rw [<-g];exact DS hy
 obtain ⟨w,J,I⟩:=C3.1 B;have h2:=h w J
 have G:y.cs=w.cs:=(congrArg Prod.snd I).symm;rw [G];exact h2
theorem bM(h:c.ok)(hx:x∈c.its):BZ prog 54 #[.pointer (some ⟨c.cp,0,none⟩),.string x.key] [[(c.cp,.cells c.BA1 87 (0,0))],[(c.mi,.map c.esI c.ckI)],c.SI,c.M] (fun r H'=>∃G B s,r= .tuple #[.agg #[I4 x.q.kd,I4 x.q.tb,I4 x.q.cl,I4 x.q.lo,I4 x.q.hi,I4 x.q.bq,I4 x.q.ot,I4 x.tn,I4 x.base,.slice G x.L.length B],.bool true]/\FW s (.slice G x.L.length B) x.L/\H'=[[(c.cp,.cells c.BA1 87 (0,0))],[(c.mi,.map c.esI c.ckI)],c.SI,c.M,s]):=by
 have U:=h.its.get hx;have g:=h.all x hx
 have J:(x.b,Obj.cells x.BA0 93 (0,0))∈c.SI:=h.its.sub x hx;refine Se func54 ntmps54 [0,1] ?_;intro u R;refine A0<|Ze (EZ cD (cs:=#[I4 0,I4 0,I4 0,I4 0,I4 0,I4 0,I4 0,I4 0,I4 0,.slice none 0 0]) AE)<|AG fun X=>A4 Y<|Zq<|A0<|Zm Y<|Zv (Be Lz Y Y)<|Zm Y<|Ae (t:=8) Y V (fun O=>by cases O)<|fun O=>Zf Y Y<|Yg (Ap Y V)<|Yf 4 FG V rfl PB Y<|Yl OK Y ?_;refine Zf Y Y<|Db Y Wh (Df (Dl H4 (D:=fun _=>True)) OS To h.its.im (fun _ _=>trivial) (trivial) (by rw [U];first|done|rfl) Y Y) rfl rfl ?_;refine Yg (Be underlying88 Y Y)<|Zv (AL Y Y)<|Z0<|Zn [0,1,4,16] ?_;refine Zx<|AU Y (fun m=>by cases m)<|fun m=>AC<|Zx<|A0<|Zm Y<|Zp Y V<|Zh 4 FG V rfl PB Y<|Zl OK Y ?_;refine Zm Y<|Zo Wh (Df (Dl H4 (D:=fun _=>True)) OS To h.its.im (fun _ _=>trivial) (trivial) (by rw [U];first|done|rfl) Y Y) ?_;refine Zp Y V<|Zh 0 Hi V rfl HH Y<|CG (Gd Wo (J)) (AA (cs:=#[I4 x.q.kd,I4 x.q.tb,I4 x.q.cl,I4 x.q.lo,I4 x.q.hi,I4 x.q.bq,I4 x.q.ot,I4 x.tn,I4 x.base,.slice x.rq x.L.length x.rc]) S5 HH Y B1 (by exact (by apply HX.1;rfl))) V rfl ?_;refine Zc [_] Y call71 Y V (R8 x.q x.tn x.base g.rp g.rl g.fit) ?_;rintro _ _ ⟨_,⟨G,B,W,rfl,I,rfl⟩,rfl⟩;refine Xe (BM HH Y Y HT Wu (by exact Dx rfl) Fc AW (by exact BC _)) ?_;refine A4 Y<|AJ<|Bj V results54 Y Wh (Am S5 HH Wn (BK V)) Y (by exact ⟨G,B,W,V,I,V⟩)
theorem vK(h:c.ok)(B:∀y∈c.its,y.key≠K):BB prog 54 #[.pointer (some ⟨c.cp,0,none⟩),.string K] [[(c.cp,.cells c.BA1 87 (0,0))],[(c.mi,.map c.esI c.ckI)]] (.tuple #[.agg #[I4 0,I4 0,I4 0,I4 0,I4 0,I4 0,I4 0,I4 0,I4 0,.slice none 0 0],.bool false]):=by
 have G:=h.its.none B;refine Se func54 ntmps54 [0,1] ?_;intro u R;refine A0<|Ze (EZ cD (cs:=#[I4 0,I4 0,I4 0,I4 0,I4 0,I4 0,I4 0,I4 0,I4 0,.slice none 0 0]) AE)<|AG fun I=>A4 Y<|Zq<|A0<|Zm Y<|Zv (Be Lz Y Y)<|Zm Y<|Ae (t:=8) Y V (fun m=>by cases m)<|fun m=>Zf Y Y<|Yg (Ap Y rfl)<|Yf 4 FG rfl rfl PB Y<|Yl OK Y<|Zf Y Y<|Db Y Wh (Df (Dl H4 (D:=fun _=>True)) OS To h.its.im (fun _ _=>trivial) (trivial) (by rw [G];first|done|rfl) Y Y) rfl rfl<|Yg (Jz underlying88 Y Y)<|Zv (AL Y Y)<|Z0<|Zn [0,1,4,16] ?_;refine Zx<|AU Y (fun g=>?_) (fun g=>?_);·
  refine A0<|Zv (BL (vs:=[]) (cs:=#[_,_,_,_,_,_,_,_,_,_]) Y (AZ (pl:=#[(0,7),(7,1),(8,1),(9,1)]) cD G4 (fun _=>by kernel_rfl) rfl))<|Xe (BM HH Y Y HT Wu (Dx rfl) Fc Wn (by exact BC _))<|A4 Y<|AJ<|Zt<|Bj rfl results54 Y Wh (Am S5 HH Wn (BK rfl)) Y ir
 cases g
theorem ua(h:c.ok)(m:∀y∈c.its,y.key≠K):BB prog 16 #[.pointer (some ⟨c.cp,0,none⟩),.string K] [[(c.cp,.cells c.BA1 87 (0,0))],[(c.mi,.map c.esI c.ckI)]] (.tuple #[.agg #[I4 0,I4 0,I4 0,I4 0,I4 0,I4 0,I4 0,.slice none 0 0,I4 0,.bool false,I4 0,I4 0,I4 0,.slice none 0 0,.slice none 0 0],.bool false]):=by
 refine Se func16 ntmps16 [0,1] ?_;intro u R;refine A0<|Ze (EZ Ks (cs:=#[I4 0,I4 0,I4 0,I4 0,I4 0,I4 0,I4 0,.slice none 0 0,I4 0,.bool false,I4 0,I4 0,I4 0,.slice none 0 0,.slice none 0 0]) AE)<|AG fun G=>A4 Y<|A0<|Zm Y<|Zm Y<|Xr [_,_] Y call54 Y V (vK h m)<|Zm Y<|Zd Y V<|Zd Y V<|Ze (EZ cD (cs:=#[I4 0,I4 0,I4 0,I4 0,I4 0,I4 0,I4 0,I4 0,I4 0,.slice none 0 0]) AE)<|AG fun B=>Xe (Xw HH #[I4 0,I4 0,I4 0,I4 0,I4 0,I4 0,I4 0,I4 0,I4 0,.slice none 0 0])<|A4 Y<|Zq<|Zq<|Az (n:=11) (0::1::3::7::15::7::39::103::231::511::1023::[]) 0 AE AE V<|A2 0 V (AP Y)<|A2 1 V (Br Y)<|A2 2 V (AP Y)<|Ch (t:=21) Y (fun g=>?_) (fun g=>?_);·
  rw [g];refine AM 3 V<|AM 4 V<|AM 5 V<|AM 6 V<|AM 7 V<|AM 8 V<|AM 9 V<|A2 10 V (AV Y Y)<|Ag<|Zn [0,4,6,29] ?_;refine Zx<|Co Y<|A0<|Zv (BL (vs:=[]) (cs:=#[_,_,_,_,_,_,_,_,_,_,_,_,_,_,_]) Y (AZ (pl:=#[(0,7),(7,3),(10,1),(11,1),(12,1),(13,1),(14,1)]) Ks HF (fun _=>by kernel_rfl) rfl))<|Xe (BM Hx Y Y HT Wu (Dx rfl) Fc Wn (by exact BC _))<|A4 Y<|AJ<|Zt<|Bj rfl results16 Y Wh (Am ZD Hx Wn (BK rfl)) Y ir
 rw [g];cases g
theorem ui(h:c.ok)(hx:x∈c.its)(U:c.pos<x.base):BB prog 16 #[.pointer (some ⟨c.cp,0,none⟩),.string x.key] [[(c.cp,.cells c.BA1 87 (0,0))],[(c.mi,.map c.esI c.ckI)],c.SI,c.M] (.tuple #[.agg #[I4 0,I4 0,I4 0,I4 0,I4 0,I4 0,I4 0,.slice none 0 0,I4 0,.bool false,I4 0,I4 0,I4 0,.slice none 0 0,.slice none 0 0],.bool false]):=by
 refine Se func16 ntmps16 [0,1] ?_;intro u R;refine A0<|Ze (EZ Ks (cs:=#[I4 0,I4 0,I4 0,I4 0,I4 0,I4 0,I4 0,.slice none 0 0,I4 0,.bool false,I4 0,I4 0,I4 0,.slice none 0 0,.slice none 0 0]) AE)<|AG fun O=>A4 Y<|A0<|Zm Y<|Zm Y<|Zc [_,_] Y call54 Y V (bM h hx) ?_;rintro _ _ ⟨_,⟨I,B,W,rfl,G,rfl⟩,rfl⟩;refine Zm Y<|Zd Y V<|Zd Y V<|Ze (EZ cD (cs:=#[I4 0,I4 0,I4 0,I4 0,I4 0,I4 0,I4 0,I4 0,I4 0,.slice none 0 0]) AE)<|AG fun J=>Xe (Xw HH #[I4 x.q.kd,I4 x.q.tb,I4 x.q.cl,I4 x.q.lo,I4 x.q.hi,I4 x.q.bq,I4 x.q.ot,I4 x.tn,I4 x.base,.slice I x.L.length B])<|A4 Y<|Zq<|Zq<|Az (n:=11) (0::1::3::7::15::7::39::103::231::511::1023::[]) 0 AE AE V<|A2 0 V (AP Y)<|A2 1 V (Br Y)<|A2 2 V (AP Y)<|Ch (t:=21) Y (fun g=>?_) (fun g=>?_);·
  rw [g];cases g
 rw [g];refine B3 3 V (AB (off:=8) G4 V rfl A6 Y)<|DQ 4 V Wh (BO AF Y As)<|B3 5 V (AP Y)<|B3 6 V (Ap Y V)<|B3 7 V (AB (off:=0) FG V rfl A6 Y)<|DQ 8 V Wh (BO AF Y As)<|B3 9 V (Et Y Y)<|A2 10 V (AL Y Y)<|Ag<|Zn [0,4,6,29] ?_;refine Zx<|Aq Y (fun m=>?_) (fun m=>?_);·
  refine A0<|Zv (BL (vs:=[]) (cs:=#[_,_,_,_,_,_,_,_,_,_,_,_,_,_,_]) Y (AZ (pl:=#[(0,7),(7,3),(10,1),(11,1),(12,1),(13,1),(14,1)]) Ks HF (fun _=>by kernel_rfl) rfl))<|Xe (BM Hx Y Y HT Wu (Dx rfl) Fc Wn (by exact BC _))<|A4 Y<|AJ<|Zt<|Bj rfl results16 Y Wh (Am ZD Hx Wn (BK rfl)) Y ir
 exfalso;omega
set_option maxHeartbeats 1000000 in
theorem yf(h:c.ok)(hx:x∈c.its)(hb:x.base<=c.pos):BZ prog 16 #[.pointer (some ⟨c.cp,0,none⟩),.string x.key] [[(c.cp,.cells c.BA1 87 (0,0))],c.sW,[(c.mi,.map c.esI c.ckI)],c.SI,c.M] (fun w H'=>∃(z:Ri) (l:List BP) (s s2:List A9),z.a=⟨x.q,x.res,x.since,c.pos,x.base,x.L,l⟩/\l.map BP.pc=(DC c.pos x.base c.win).map BP.pc/\z.ok (s++s2)/\w= .tuple #[.agg z.A99,.bool true]/\H'=[[(c.cp,.cells c.BA1 87 (0,0))],c.sW,[(c.mi,.map c.esI c.ckI)],c.SI,c.M,s,s2]):=by
 have sO:=mL;have G:=h.all x hx
 obtain ⟨r0,gq,J⟩:=G.run;have l5:=G.base
 have pg:=h.pos;have ve:=h.wl
 have pq:=Ew h.win;have gy:=G.reach
 obtain ⟨wl,g⟩:∃wl,wl=(DC c.pos x.base c.win):=⟨_,rfl⟩;have O:wl.length=(c.pos -x.base).toNat:=by rw [g];exact OU gy
 have ic:EE (c.sW++c.M) (.slice (EY c.wq (c.win.length -(c.pos -x.base).toNat) c.wc 2) (c.pos -x.base).toNat (c.wc -(c.win.length -(c.pos -x.base).toNat))) wl:=by
  have h1:=Ns (a:=c.win.length -(c.pos -x.base).toNat) (jL h.tookb) A1;rw [g];rwa [show c.win.length -(c.win.length -(c.pos -x.base).toNat)=(c.pos -x.base).toNat by omega]at h1
 obtain ⟨cv,d9⟩:∃cv,cv=c.wc -(c.win.length -(c.pos -x.base).toNat):=⟨_,rfl⟩;obtain ⟨pv,gm⟩:∃pv,pv=EY c.wq (c.win.length -(c.pos -x.base).toNat) c.wc 2:=⟨_,rfl⟩;rw [<-d9,<-gm,<-O]at ic;obtain ⟨p8,ql,e8,⟨sM,sJ⟩,l8⟩:=id ic;injection e8 with e81 e82 e83
 subst e81 e83;rw [<-g]at J⊢;refine Se func16 ntmps16 [0,1] ?_;intro u R;refine A0<|Ze (EZ Ks (cs:=#[I4 0,I4 0,I4 0,I4 0,I4 0,I4 0,I4 0,.slice none 0 0,I4 0,.bool false,I4 0,I4 0,I4 0,.slice none 0 0,.slice none 0 0]) AE)<|AG fun bo=>A4 Y<|A0<|Zm Y<|Zm Y<|Zc [_,_] Y call54 Y V (bM h hx) ?_;rintro _ _ ⟨_,⟨pz,cz,se,rfl,j3,rfl⟩,rfl⟩;refine Zm Y<|Zd Y V<|Zd Y V<|Ze (EZ cD (cs:=#[I4 0,I4 0,I4 0,I4 0,I4 0,I4 0,I4 0,I4 0,I4 0,.slice none 0 0]) AE)<|AG fun be=>Xe (Xw HH #[I4 x.q.kd,I4 x.q.tb,I4 x.q.cl,I4 x.q.lo,I4 x.q.hi,I4 x.q.bq,I4 x.q.ot,I4 x.tn,I4 x.base,.slice pz x.L.length cz]) ?_;refine A4 Y<|Zq<|Zq<|Az (n:=11) (0::1::3::7::15::7::39::103::231::511::1023::[]) 0 AE AE V<|A2 0 V (AP Y)<|A2 1 V (Br Y)<|A2 2 V (AP Y)<|Ch (t:=21) Y (fun g1=>?_) (fun g1=>?_);·
  rw [g1];cases g1
 rw [g1];refine B3 3 V (AB (off:=8) G4 V rfl A6 Y)<|DQ 4 V Wh (BO AF Y As) ?_;refine B3 5 V (AP Y)<|B3 6 V (Ap Y V)<|B3 7 V (AB (off:=0) FG V rfl A6 Y)<|DQ 8 V Wh (BO AF Y As) ?_;refine B3 9 V (Et Y Y)<|A2 10 V (AL Y Y)<|Ag<|Zn [0,4,6,29] ?_;refine Zx<|Aq Y (fun kv=>by omega)<|fun kv=>AC<|Zx<|A0<|Zm Y<|Zh 8 G4 V rfl A6 Y<|Zl AF Y ?_;refine Xr [_,_] Y call55 Y V (OL pg x.base l5 ⟨pq,by omega⟩) ?_;rw [Ax gy,<-d9,<-gm,<-O];refine Zm Y<|Zd Y V<|Zd Y V<|Za Y<|A4 Y<|Zq<|CP (s1:=c.sW) (s2:=c.M) Wo Wo ?_;refine Zg<|Zm Y<|Zv (AY GO Y)<|Ze (X4 (by_:=32) (sz:=2) (l:=0) GO (V:Tryz.prog.info? 50=some Tryz.t50) V rfl V Y Y ?_ ?_ ?_) ?_
 (focus (omega))
 (focus (omega))
 (focus (omega))
 rintro _ _ ⟨gr,qo,rfl,W,rfl⟩;refine AN Y<|Zn [4,6,8,10] ?_;refine Zx<|Zq<|Zq<|BX<|Zg<|Zm Y<|Zv (AY GO Y)<|Zm Y<|A5<|AQ<|Zb [10,43,4,6,41,42] ?_;refine BA (e0:=[(10,_),(43,_)]) (fun m e H=>∃(k:Nat) (l:List BP) (vr:A3) (U MR:List A9),m=wl.length -k/\((k<=wl.length/\l.length=k)/\Bd 2 50 vr l.length (Du l) U/\(∀r∈l,Cf MR (.slice r.q r.cs.length r.cap) r.cs)/\l.map BP.pc=(wl.take k).map BP.pc)/\e=[(10,vr),(43,I4 (k:Int))]/\H=[U,MR]) (by exact ⟨0,[],_,_,[],V,⟨⟨C5 _,V⟩,lQ A1 W,fun r X=>absurd X B4,V⟩,V,V⟩) Wp ?_;rintro _ _ _ ⟨k,l,vr,U,MR,rfl,⟨⟨hk,l9⟩,hR,ax,B⟩,rfl,rfl⟩;refine A0<|Zv (Au Y Y)<|A5<|Zq<|Aq Y (fun o8=>?_) (fun o8=>?_);·
  obtain ⟨r,X⟩:∃r,wl[k]?=some r:=⟨_,B7 A1⟩;obtain ⟨cu,g9,r9,qw,T9,vo,p9,o9,qz,ek⟩:=l8 k r X;rw [p9];obtain ⟨gv,Z,rfl⟩:=hR.form;have qx:=Py h.tookb (r:=r) (by rw [g]at X;exact KB (Dg X))
  refine AC<|Zx<|Zq<|AQ<|A0<|BV (Ad GO F1 Y Y A1)<|CG (Gd Wo (o9)) (AA (cs:=#[I4 r.p,.slice r.q r.cs.length r.cap]) HP F1 Y A1 (by exact ek)) V rfl ?_;refine Ze (Al S2 #[_,_])<|AG fun br=>Xe (Xw F1 #[I4 r.p,.slice r.q r.cs.length r.cap]) ?_;refine A5<|Zg<|Zm Y<|Zo Wh (AA (cs:=#[I4 r.p,.slice r.q r.cs.length r.cap]) HP F1 Y B1 (by exact BK V)) ?_;refine Zc [_] Y call45 Y V (R7 r.p cu A1) ?_;rintro _ _ ⟨_,⟨q2,cap2,s2,rfl,bn,rfl⟩,rfl⟩;refine Ze (Ai (vs:=[_]) (cs:=[_,_]) GO F1 S2 Y V rfl V rfl V)<|AG fun gb=>Ze (BR (by_:=32) (sz:=2) GO (V:Tryz.prog.info? 50=some Tryz.t50) V rfl V rfl Y (hR) Y (DN 2 gb 1 1 50 (0,0) [I4 r.p,.slice q2 r.cs.length cap2] V) Wo Wo GP A1 A1) ?_;rintro _ _ ⟨qj,I,rfl⟩;obtain ⟨sw,sj,rfl⟩:=I.form;refine AN Y<|A8<|Zx<|CP (s1:=s2) (s2:=MR) Wo Wo ?_;refine Zg<|Ya (n:=1) Y Y<|Zm Y<|Z0<|Zn [10,43,4,6,41,42] ?_;refine Ab (e':=[(10,_),(43,_)]) (by
   exact ⟨k+1,l++[⟨r.p,q2,cap2,r.cs⟩],_,qj,s2++MR,rfl,⟨⟨by omega,by rw [BW,l9];rfl⟩,BS I (by rw [BW];rfl) (by rw [Kq];rfl),fun y hy=>by
    rcases Bm.1 hy with hy|hy
    · exact H8 (ax y hy) s2
    · rw [C1.1 hy];exact Jp bn MR,by rw [C2,B,Bn X,C2];rfl⟩,rfl,rfl⟩)
 obtain rfl:k=wl.length:=by omega
 rw [GS]at B;obtain ⟨gv,Z,rfl⟩:=hR.form;refine Ay<|Zt<|Zt<|AR<|Zx<|Zq<|kS (s1:=c.sW) (s2:=c.M) (by repeat(first|exact VC.here _|apply VC.there)) ?_;refine CP (s1:=se) (s2:=U) Wo Wo ?_;refine CP (s1:=(se++U)) (s2:=MR) Wo Wo ?_;have j5:EE ((se++U)++MR) (.slice gv l.length Z) l:=M3 (KI hR A1 ax) (fun q hq=>by rcases Bm.1 hq with h9|h9<;>simp [h9])
 have cO:∀y∈l,y.cs.length<=1000:=yu B fun y hy=>by
  have:=Py h.tookb (r:=y) (by rw [g]at hy;exact KB hy);omega
 have af:K5 x.q x.base x.L l=some ⟨x.q,x.res,x.since,c.pos,x.base,x.L,l⟩:=by
  rw [Ql gq A1,Oq B,J];show some (YM.mk x.q x.res x.since (x.base+(l.length:Int)) x.base x.L l)=_
  rw [show x.base+(l.length:Int)=c.pos by omega]
 refine Zg<|Zo Wh (AA (cs:=#[I4 x.q.kd,I4 x.q.tb,I4 x.q.cl,I4 x.q.lo,I4 x.q.hi,I4 x.q.bq,I4 x.q.ot,I4 x.tn,I4 x.base,.slice pz x.L.length cz]) S5 HH Y B1 (by exact BK V)) ?_;refine Zm Y<|Zc [_,_] Y call56 Y V (zA x.q x.tn x.base A1 (j3.mono fun q hq=>by simp [hq]) G.rl gq j5 cO) ?_;rintro _ _ ⟨_,⟨z,s9,b9,q9,rfl,rfl⟩,rfl⟩;obtain ⟨rfl,qa,qb⟩:b9=true/\z.a=⟨x.q,x.res,x.since,c.pos,x.base,x.L,l⟩/\z.ok (s9++((se++U)++MR)):=by
  rcases q9 with⟨h1,h2,h3⟩|⟨_,h2⟩
  · rw [af]at h2;injection h2 with h2;exact ⟨h1,h2.symm,h3⟩
  · rw [af]at h2;cases h2
 refine Zd Y rfl<|Zd Y rfl<|Xe (BM Hx Y Y HT Wu (by exact Dx rfl) Fc AW (by exact BC _)) ?_;refine A4 Y<|AJ<|Bj V results16 Y Wh (Am ZD Hx Wn (BK V)) Y (by exact ⟨z,l,s9,(se++U)++MR,qa,B,qb,V,V⟩)
theorem ub(h:c.ok)(hx:x∈c.its)(G:x.base<=c.pos):BZ prog 16 #[.pointer (some ⟨c.cp,0,none⟩),.string x.key] [[(c.cp,.cells c.BA1 87 (0,0))],c.sW,[(c.mi,.map c.esI c.ckI)],c.SI,c.M] (fun w H'=>∃(z:Ri) (l:List BP) (s:List A9),z.a=⟨x.q,x.res,x.since,c.pos,x.base,x.L,l⟩/\l.map BP.pc=(DC c.pos x.base c.win).map BP.pc/\z.ok s/\w= .tuple #[.agg z.A99,.bool true]/\H'=[[(c.cp,.cells c.BA1 87 (0,0))],c.sW,[(c.mi,.map c.esI c.ckI)],c.SI,c.M,s]):=by
 refine H6 (yf h hx G) V ?_;rintro w H' ⟨z,l,s,s2,g,h2,m,B,rfl⟩;exact ⟨_,⟨z,l,s++s2,g,h2,m,B,V⟩,by simp⟩
theorem xm(h:c.ok){q:QM}(hq:BF q)(te base:Int)(hb:0<=base/\base<=10000){pg:B6}{O:Nat}{L:List RP}{I:List A9}(hL:FW I (.slice pg L.length O) L)(cu:L.length<=1000000)(bn:∀x∈L,x.fits){G:CB}(X:Ea q L=some G)(Z:¬(c.pos -base).toNat<=c.win.length)(J:AK)(zp:Nat×Nat):BZ prog 28 #[.pointer (some ⟨c.cp,0,none⟩),.agg #[I4 q.kd,I4 q.tb,I4 q.cl,I4 q.lo,I4 q.hi,I4 q.bq,I4 q.ot,I4 te,I4 base,.slice pg L.length O]] [[(c.cp,.cells c.BA1 87 (0,0))],c.sW,c.M,I,[(1,.cells (Lib.pow10Tab.map fun z=>Value.int .u64 z).toArray J zp)]] (fun w H'=>w= .tuple #[.string ⟨#[]⟩,.pointer none,.bool false]/\H'=[[(c.cp,.cells c.BA1 87 (0,0))],c.sW,c.M,I,[(1,.cells (Lib.pow10Tab.map fun z=>Value.int .u64 z).toArray J zp)]]):=by
 have cO:=mL;have W:=h.pos
 have d9:=h.wl;have af:=Ew h.win
 refine Se func28 ntmps28 [0,1] ?_;intro u R;refine A0<|Ze (Bx #[I4 q.kd,I4 q.tb,I4 q.cl,I4 q.lo,I4 q.hi,I4 q.bq,I4 q.ot,I4 te,I4 base,.slice pg L.length O])<|AG fun be=>Za Y<|Za Y<|A4 Y<|A0<|Zh 0 G4 V rfl CN Y<|Zo Wh (AA (cs:=q.A98) F2 CN Y B1 (by exact (by apply HX.1;rfl)))<|Xr [_] Y call11 Y V (Kt q hq J zp)<|Zm Y<|Zd Y V<|Zd Y V<|Za Y<|A4 Y<|Zq<|A0<|Zm Y<|Zv (Dn (n:=0) Y Y)<|Zm Y<|Aj (t:=22) Y V (fun g1=>?_) (fun g1=>?_);·
  exact absurd V g1
 refine Yf 8 G4 V rfl A6 Y<|Yl AF Y<|Xr [_] Y call25 Y V (JO base) ?_;rw [DE hb];refine Yg (Br Y)<|Zv (AL Y Y)<|Z0<|Zn [0,3,7,27] ?_;refine Zx<|AU Y (fun m=>by cases m)<|fun m=>AC<|Zx<|A0<|Zm Y<|Zh 8 G4 V rfl A6 Y<|Zl AF Y<|Xr [_,_] Y call55 Y V (OL W base hb ⟨af,by omega⟩) ?_;rw [An Z];refine Zm Y<|Zd Y V<|Zd Y V<|Za Y<|A4 Y<|A0<|Zh 0 G4 V rfl CN Y<|Zo Wh (AA (cs:=#[_,_,_,_,_,_,_]) F2 CN Y B1 (by exact (by apply HX.1;rfl)))<|Zh 9 G4 V rfl MD Y<|Zl PC Y<|Zc [_,_] Y call69 Y V (XA hL q X) ?_;rintro _ _ ⟨_,⟨ek,sr,rfl,g,rfl⟩,rfl⟩;obtain ⟨ax,U,rfl⟩:=g.form;refine Zm Y<|Zd Y V<|Zd Y V<|Ze (Al Gk #[_,_,_])<|AG fun bs=>Xe (Xw B2 #[.slice ax G.rows.length U,I4 G.val,.bool G.fnd])<|AN Y<|Zn [3,7,9,10,11,12] ?_;refine Zx<|Zq<|A0<|Zm Y<|Zv (Br Y)<|Zm Y<|Ae (t:=45) Y V (fun g2=>by cases g2)<|fun g2=>Zf Y Y<|Yg (Br Y)<|Zv (AL Y Y)<|A5<|AU Y (fun B=>?_) (fun B=>?_);·
  refine A0<|Za Y<|Za Y<|A4 Y<|AJ<|Zt<|jl V results28 Y Y Y (by exact ⟨V,V⟩)
 cases B
set_option maxHeartbeats 1000000 in
theorem Rm(h:c.ok){q:QM}(hq:BF q)(te base:Int)(hb:0<=base/\base<=10000){pg:B6}{cg:Nat}{L:List RP}{ME:List A9}(hL:FW ME (.slice pg L.length cg) L)(d9:L.length<=1000000)(X:∀x∈L,x.fits){g:CB}(af:Ea q L=some g)(ax:(c.pos -base).toNat<=c.win.length)(Tp:AK)(zp:Nat×Nat):BZ prog 28 #[.pointer (some ⟨c.cp,0,none⟩),.agg #[I4 q.kd,I4 q.tb,I4 q.cl,I4 q.lo,I4 q.hi,I4 q.bq,I4 q.ot,I4 te,I4 base,.slice pg L.length cg]] [[(c.cp,.cells c.BA1 87 (0,0))],c.sW,c.M,ME,[(1,.cells (Lib.pow10Tab.map fun z=>Value.int .u64 z).toArray Tp zp)]] (fun w H'=>∃b rq rc wq wc s1 s2,w= .tuple #[.string (str (CJ q)),I5 b,.bool (BD q g base (DC c.pos base c.win)).2.2]/\FW s1 (.slice rq L.length rc) L/\DW s2 (.slice wq (BD q g base (DC c.pos base c.win)).1.rows.length wc) (BD q g base (DC c.pos base c.win)).1.rows/\H'=[[(c.cp,.cells c.BA1 87 (0,0))],c.sW,c.M,ME,[(1,.cells (Lib.pow10Tab.map fun z=>Value.int .u64 z).toArray Tp zp)],[(b,.cells #[I4 q.kd,I4 q.tb,I4 q.cl,I4 q.lo,I4 q.hi,I4 q.bq,I4 q.ot,I4 te,I4 base,.slice rq L.length rc,I4 0,.slice wq (BD q g base (DC c.pos base c.win)).1.rows.length wc,I4 (BD q g base (DC c.pos base c.win)).1.val,.bool (BD q g base (DC c.pos base c.win)).1.fnd,I4 (BD q g base (DC c.pos base c.win)).2.1] 93 (0,0))],s1,s2]):=by
 have j5:=mL;have gq:=h.pos
 have l5:=h.wl;have ic:=Ew h.win
 obtain ⟨wl,B⟩:∃wl,wl=DC c.pos base c.win:=⟨_,rfl⟩;have I:wl.length=(c.pos -base).toNat:=by rw [B];exact OU ax
 have bn:EE (c.sW++c.M) (.slice (EY c.wq (c.win.length -(c.pos -base).toNat) c.wc 2) (c.pos -base).toNat (c.wc -(c.win.length -(c.pos -base).toNat))) wl:=by
  have h1:=Ns (a:=c.win.length -(c.pos -base).toNat) (jL h.tookb) A1;rw [B];rwa [show c.win.length -(c.win.length -(c.pos -base).toNat)=(c.pos -base).toNat by omega]at h1
 obtain ⟨cv,W⟩:∃cv,cv=c.wc -(c.win.length -(c.pos -base).toNat):=⟨_,rfl⟩;obtain ⟨pv,Z⟩:∃pv,pv=EY c.wq (c.win.length -(c.pos -base).toNat) c.wc 2:=⟨_,rfl⟩;rw [<-W,<-Z,<-I]at bn;rw [<-B];have U:∀y∈wl,y.cs.length<=1000:=fun y hy=>by
  have:=Py h.tookb (r:=y) (by rw [B]at hy;exact KB hy);omega
 obtain ⟨_,kv,gy⟩:=Lp af;refine Se func28 ntmps28 [0,1] ?_;intro u R;refine A0<|Ze (Bx #[I4 q.kd,I4 q.tb,I4 q.cl,I4 q.lo,I4 q.hi,I4 q.bq,I4 q.ot,I4 te,I4 base,.slice pg L.length cg])<|AG fun be=>Za Y<|Za Y<|A4 Y<|A0<|Zh 0 G4 V rfl CN Y<|Zo Wh (AA (cs:=q.A98) F2 CN Y B1 (by exact (by apply HX.1;rfl)))<|Xr [_] Y call11 Y V (Kt q hq Tp zp)<|Zm Y<|Zd Y V<|Zd Y V<|Za Y<|A4 Y<|Zq<|A0<|Zm Y<|Zv (Dn (n:=0) Y Y)<|Zm Y<|Aj (t:=22) Y V (fun g1=>?_) (fun g1=>?_);·
  exact absurd V g1
 refine Yf 8 G4 V rfl A6 Y<|Yl AF Y<|Xr [_] Y call25 Y V (JO base) ?_;rw [DE hb];refine Yg (Br Y)<|Zv (AL Y Y)<|Z0<|Zn [0,3,7,27] ?_;refine Zx<|AU Y (fun J=>by cases J)<|fun J=>AC<|Zx<|A0<|Zm Y<|Zh 8 G4 V rfl A6 Y<|Zl AF Y<|Xr [_,_] Y call55 Y V (OL gq base hb ⟨ic,by omega⟩) ?_;rw [Ax ax,<-W,<-Z,<-I];refine Zm Y<|Zd Y V<|Zd Y V<|Za Y<|A4 Y<|A0<|Zh 0 G4 V rfl CN Y<|Zo Wh (AA (cs:=#[_,_,_,_,_,_,_]) F2 CN Y B1 (by exact (by apply HX.1;rfl)))<|Zh 9 G4 V rfl MD Y<|Zl PC Y<|Zc [_,_] Y call69 Y V (XA hL q af) ?_;rintro _ _ ⟨_,⟨l8,sr,rfl,G,rfl⟩,rfl⟩;obtain ⟨j3,cu,rfl⟩:=G.form;refine Zm Y<|Zd Y V<|Zd Y V<|Ze (Al Gk #[_,_,_])<|AG fun bs=>Xe (Xw B2 #[.slice j3 g.rows.length cu,I4 g.val,.bool g.fnd])<|AN Y<|Zn [3,7,9,10,11,12] ?_;refine Zx<|Zq<|A0<|Zm Y<|Zv (Br Y)<|Zm Y<|Ae (t:=45) Y V (fun g2=>by cases g2)<|fun g2=>Zf Y Y<|Yg (Br Y)<|Zv (AL Y Y)<|A5<|AU Y (fun O=>by cases O)<|fun O=>AC<|Zx<|Zq ?_;have gm:=DY G A1
 refine CP (s1:=c.sW) (s2:=c.M) Wo Wo ?_;refine Zg<|Zh 0 G4 V rfl CN Y<|Zo Wh (AA (cs:=#[_,_,_,_,_,_,_]) F2 CN Y B1 (by exact (by apply HX.1;rfl)))<|Zo Wh (AA (cs:=#[_,_,_]) C6 B2 Y B1 (BK V))<|Zh 8 G4 V rfl A6 Y<|Zl AF Y<|Zm Y<|Zc [_,_,_,_] Y call70 Y V (Qw q hq base A1 bn A1 U gm A1 gy) ?_;rintro _ _ ⟨_,⟨l9,s3,rfl,m,rfl⟩,rfl⟩;obtain ⟨wq,wc,rfl⟩:=m.form;have cO:=Mj m
 refine Zm Y<|Zd Y rfl<|Zd Y rfl<|Zd Y rfl<|Xe (BM B2 Y Y HT Wu (by exact (rfl:_=(#[.slice wq (BD q g base wl).1.rows.length wc,I4 (BD q g base wl).1.val,.bool (BD q g base wl).1.fnd]:AH))) Fc B1 (by exact BC _))<|Za Y<|AN Y<|Zn [3,7,11,12,13] ?_;refine Zx<|Zq<|kS (s1:=c.sW) (s2:=c.M) (by repeat(first|exact VC.here _|apply VC.there)) ?_;refine Az (n:=11) (0::0::2::0::0::30::62::0::7::383::1023::[]) 68 AE AE V<|A2 0 V (AP Y)<|Fk 1 V Wh (AA (cs:=#[_,_,_,_,_,_,_,_,_,_]) S5 HH Y B1 (BK V))<|Fk 3 V Wh (AA (cs:=#[_,_,_]) C6 B2 Y B1 (BK V))<|A2 4 V (AP Y)<|A2 7 V (AP Y)<|Zz (l:=[2])<|B5 [true,false] [(3,(_,_))] V rfl (Zw [_] Y call71 Y V (R8 q te base hL d9 X)) ?_ Bw Ah;rintro _ _ ⟨_,⟨rq,rc,s1,rfl,ek,rfl⟩,rfl⟩;refine BT<|A2 5 V (BL (vs:=[(0,.agg #[I4 q.kd,I4 q.tb,I4 q.cl,I4 q.lo,I4 q.hi,I4 q.bq,I4 q.ot,I4 te,I4 base,.slice rq L.length rc]),(2,.agg #[.slice wq (BD q g base wl).1.rows.length wc,I4 (BD q g base wl).1.val,.bool (BD q g base wl).1.fnd]),(3,I4 (BD q g base wl).2.1)]) (cs:=#[I4 q.kd,I4 q.tb,I4 q.cl,I4 q.lo,I4 q.hi,I4 q.bq,I4 q.ot,I4 te,I4 base,.slice rq L.length rc,I4 0,.slice wq (BD q g base wl).1.rows.length wc,I4 (BD q g base wl).1.val,.bool (BD q g base wl).1.fnd,I4 (BD q g base wl).2.1]) Y (AZ (pl:=#[(0,10),(10,1),(11,3),(14,1)]) zeroValue93 Hi (fun _=>by kernel_rfl) AE))<|A2 8 V (Aw Y)<|Zz (l:=[6])<|B5 [false] [] V rfl (Bx #[I4 q.kd,I4 q.tb,I4 q.cl,I4 q.lo,I4 q.hi,I4 q.bq,I4 q.ot,I4 te,I4 base,.slice rq L.length rc,I4 0,.slice wq (BD q g base wl).1.rows.length wc,I4 (BD q g base wl).1.val,.bool (BD q g base wl).1.fnd,I4 (BD q g base wl).2.1]) ?_ (fun _ _ h=>h.elim) Ah;rintro _ _ ⟨b,rfl,rfl⟩;refine BT<|A2 9 V (Aw Y)<|A2 10 V (Aw Y)<|Ag<|Zx<|AJ<|jl V results28 Y Y Y (by exact ⟨b,rq,rc,wq,wc,s1,s3,V,ek,DY m cO,V⟩)
end Go.Proofs.YtfhjaegddfehhabGreatDoor
