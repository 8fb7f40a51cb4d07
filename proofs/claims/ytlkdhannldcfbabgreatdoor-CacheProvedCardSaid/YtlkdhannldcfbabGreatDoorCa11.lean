/- A cache in memory; Drop, Keys, Position, Used, Touch. -/
import Derived.Test.YtlkdhannldcfbabGreatDoorCa3
set_option linter.unusedVariables false
set_option linter.unusedSimpArgs false
namespace Go.Proofs.YtlkdhannldcfbabGreatDoor
open Go.Proofs.Tryz
open Go Go.RowKit Gw
set_option maxRecDepth 100000
attribute [local irreducible] Gw.At Gw.Nx Gw.Ops
structure CZ where
 cp:Nat
 pos:Int
 wq:BE
 wc:Nat
 win:List BF
 sW:List A8
 z:Bi
 ns:Nat
 PL:List Br
 mb:Nat
 esP:Array MapEntry
 ckP:Nat
 lmP:List (CA×A2)
 su:List A8
 ip:Nat
 mq:Nat
 mi:Nat
 mkb:Nat
 next:Int
 its:List ItM
 esQ:Array MapEntry
 ckQ:Nat
 lmQ:List (Int×A2)
 lv:A2
 ML:List A8
 esI:Array MapEntry
 ckI:Nat
 lmI:List (CA×A2)
 esK:Array MapEntry
 ckK:Nat
 lmK:List (Int×A2)
 SI:List A8
 M:List A8
 MR:List A8
abbrev CZ.BM8(c:CZ):Array Go.Value:=#[I4 c.pos,.slice c.wq c.win.length c.wc,.pointer (some ⟨c.z.r,0,none⟩),.pointer (some ⟨c.ip,0,none⟩),.map (some c.mi),.map (some c.mkb),I4 c.next]
structure CZ.okb(c:CZ):Prop where
 pos:0<=c.pos/\c.pos<=10000
 win:BU 2 55 (.slice c.wq c.win.length c.wc) c.win.length (Da c.win) c.sW
 wl:c.win.length<=64
 wp:∀(i:Nat) (r:BF),c.win[i]?=some r->r.p=c.pos -(c.win.length:Int)+1+(i:Int)/\CL c.M (.slice r.q r.cs.length r.cap) r.cs/\Db r.p r.cs
 pool:Dk c.z c.ns c.PL c.mb c.esP c.ckP c.lmP c.su
 pk:∀k,k∈c.PL.map (·.key)↔k∈c.its.map ItM.key
 its:GV c.its c.next c.esQ c.ckQ c.lmQ c.lv c.ML c.esI c.ckI c.lmI c.esK c.ckK c.lmK c.SI
 tns:∀x∈c.its,x.tn<(c.ns:Int)
structure CZ.ok(c:CZ):Prop extends CZ.okb c where
 all:∀x∈c.its,x.ok c.M c.MR c.pos c.win
structure CZ.like(c d:CZ):Prop where
 cp:d.cp=c.cp
 pos:d.pos=c.pos
 win:d.win=c.win
 ns:d.ns=c.ns
 sc:d.z.cs=c.z.cs
variable{c:CZ}
theorem CZ.like.trans{a b:CZ}(h:a.like b)(k:b.like c):a.like c:=⟨k.cp.trans h.cp,k.pos.trans h.pos,k.win.trans h.win,k.ns.trans h.ns,k.sc.trans h.sc⟩
variable{d:CZ}
theorem CZ.like.cap(h:c.like d):d.z.cap=c.z.cap:=congrArg Prod.fst h.sc
theorem kr(h:c.okb):Dx (c.sW++c.M) (.slice c.wq c.win.length c.wc) c.win:=KU h.win (by have:=h.wl;have g:maxLen=9223372036854775807:=rfl;omega) fun r m=>by
 obtain ⟨i,hi⟩:=HU m;exact (h.wp i r hi).2.1
variable{α:Type}
theorem WA{l:List α}{x:α}(h:x∈l):∃A B,l=A++x::B:=cW h
variable{its:List ItM}
theorem oL{PL:List Br}{K:CA}(Z:∀k,k∈PL.map (·.key)↔k∈its.map ItM.key){I J:List Br}{e:Br}(X:PL=I++e::J)(hn:(PL.map (·.key)).Nodup)(U:e.key=K):∀k,k∈(I++J).map (·.key)↔k∈(its.filter fun y=>y.key≠K).map ItM.key:=by
 intro k;subst X U;have O:=Z k
 rw [CN,Fc,HX,LI]at hn;constructor
 · intro h
   rw [CN,CD]at h;have m:k≠e.key:=by
    rintro rfl;rcases h with h|h
    · exact hn.2.2 _ h _ (Fo ..) rfl
    · exact hn.2.1.1 h
   obtain ⟨y,hy,rfl⟩:=CI.1 (O.1 (by rw [CN,Fc,CD,DS];rcases h with h|h;exact .inl h;exact .inr (.inr h)));exact CI.2 ⟨y,GF.2 ⟨hy,by simpa using m⟩,V⟩
 · intro h
   obtain ⟨y,hy,rfl⟩:=CI.1 h;obtain ⟨B,G⟩:=GF.1 hy;have g:=O.2 (Fk B)
   rw [CN,Fc,CD,DS]at g;rw [CN,CD];rcases g with g|g|g
   · exact .inl g
   · simp [g]at G
   · exact .inr g
variable{x:ItM}
theorem jq(h:c.okb)(hx:x∈c.its):BS prog 47 #[.pointer (some ⟨c.cp,0,none⟩),.string x.key] [[(c.cp,.cells #[I4 c.pos,.slice c.wq c.win.length c.wc,.pointer (some ⟨c.z.r,0,none⟩),.pointer (some ⟨c.ip,0,none⟩),.map (some c.mi),.map (some c.mkb),I4 c.next] 110 (0,0))],c.sW,c.z.S,[(c.mb,.map c.esP c.ckP)],c.su,[(c.ip,.cells #[.map (some c.mq),c.lv] 200 (0,0))],[(c.mq,.map c.esQ c.ckQ)],c.ML,[(c.mi,.map c.esI c.ckI)],[(c.mkb,.map c.esK c.ckK)],c.SI,c.M,c.MR] (fun v H'=>v= .bool true/\∃d:CZ,d.okb/\c.like d/\d.next=c.next/\(d.M=c.M/\d.MR=c.MR)/\d.SI=c.SI/\d.mi=c.mi/\d.its=(c.its.filter fun y=>y.key≠x.key)/\(∀e∈d.PL,e∈c.PL)/\H'=[[(d.cp,.cells #[I4 d.pos,.slice d.wq d.win.length d.wc,.pointer (some ⟨d.z.r,0,none⟩),.pointer (some ⟨d.ip,0,none⟩),.map (some d.mi),.map (some d.mkb),I4 d.next] 110 (0,0))],d.sW,d.z.S,[(d.mb,.map d.esP d.ckP)],d.su,[(d.ip,.cells #[.map (some d.mq),d.lv] 200 (0,0))],[(d.mq,.map d.esQ d.ckQ)],d.ML,[(d.mi,.map d.esI d.ckI)],[(d.mkb,.map d.esK d.ckK)],d.SI,d.M,d.MR]):=by
 obtain ⟨e,Z,B⟩:=CI.1 ((h.pk x.key).2 (Fk hx));obtain ⟨L1,L2,m⟩:=WA Z;have g:=h.pool
 rw [m]at g;rw [<-B];refine Se func47 ntmps47 [0,1] ?_;intro u R;refine A3<|CT Y<|Zq<|Bc<|Ht (s:=c.z.S) Wo (fun U=>?_);rw [Bi.keys]at U;refine Zg<|Zm Y<|Zv (Bb Sx Y Y)<|A4<|AY Y (fun G=>by cases G)<|fun G=>B3<|AK Y<|Zp Y V<|Zh 2 Gk V rfl sizeOf102 Y<|Zl Ly Y<|Zm Y<|Zc [_,_] Y call110 Y V (o7 g U) ?_;rintro _ _ ⟨_,⟨rfl,z2,es2,ck2,lm2,su2,O,K,X,J,rfl⟩,rfl⟩;refine A4<|AK Y<|Zm Y ?_;rw [B];refine Zc [_,_] Y call38 Y V (XI h.its hx) ?_;rintro _ _ ⟨_,⟨rfl,eq3,cq3,lq3,ei3,ci3,li3,ek3,ck3,lk3,I,rfl⟩,rfl⟩;refine B2 Y<|Zn [4] ?_;refine Zx<|AL<|AO V results47 Y (by
  refine ⟨rfl,({c with z:=z2,PL:=L1++L2,esP:=es2,ckP:=ck2,lmP:=lm2,su:=su2,its:=c.its.filter fun y=>y.key≠x.key,esQ:=eq3,ckQ:=cq3,lmQ:=lq3,lv:= .pointer none,ML:=[],esI:=ei3,ckI:=ci3,lmI:=li3,esK:=ek3,ckK:=ck3,lmK:=lk3}:CZ),⟨h.pos,h.win,h.wl,h.wp,J,oL h.pk m h.pool.keys B,I,fun y hy=>h.tns y (GF.1 hy).1⟩,⟨rfl,rfl,rfl,rfl,K⟩,rfl,⟨rfl,rfl⟩,rfl,rfl,rfl,fun y hy=>by rw [m];rcases CD.1 hy with h9|h9<;>simp [h9],?_⟩;simp only [O];rfl)
theorem Om(h:c.okb):BS prog 17 #[.pointer (some ⟨c.cp,0,none⟩)] [[(c.cp,.cells c.BM8 110 (0,0))],[(c.mi,.map c.esI c.ckI)]] (fun r H'=>∃(zs:List CA) (s':List A8),zs.Perm (c.its.map ItM.key)/\(zs.Pairwise fun x y=>x.data.toList<=y.data.toList)/\Row 9 r (zs.map Value.string) s'/\H'=[[(c.cp,.cells c.BM8 110 (0,0))],[(c.mi,.map c.esI c.ckI)],s']):=by
 have m:=h.its.len_eq;have I:=m.length_eq
 rw [Bk,Bk]at I;have O:=h.its.len
 refine Se func17 ntmps17 [0] ?_;intro u R;refine A3<|AH Y<|B8 Y<|Zv (Bb Sx Y Y)<|A4<|AY Y (fun g=>by cases g)<|fun g=>B3<|AK Y<|Zp Y V<|Zh 4 Gk V rfl T5 Y<|Zl Sh Y<|Zc [_] Y call54 Y V (jN c.mi) ?_;rintro _ _ ⟨_,⟨K,rfl,rfl⟩,rfl⟩;refine Zc [_] Y call53 Y V (Xv h.its.im A0 K c.mi (M:=[(c.mi,.map c.esI c.ckI)]) B7) ?_;rintro _ _ ⟨_,⟨zs,U,G,B,J,rfl⟩,rfl⟩;refine An Y<|AO V results17 Y (by exact ⟨zs,U,G.trans m,B,J,V⟩)
theorem rW(c:CZ):Au prog 23 #[.pointer (some ⟨c.cp,0,none⟩)] [[(c.cp,.cells c.BM8 110 (0,0))]] (I4 c.pos):=by
 refine Se func23 ntmps23 [0] ?_;intro u R;refine A3<|AH Y<|B8 Y<|Zv (Bb Sx Y Y)<|A4<|AY Y (fun g=>by cases g)<|fun g=>B3<|AK Y<|Zp Y V<|Zh 0 Gk V rfl A6 Y<|Zl AE Y<|An Y<|AO V results23 Y (by exact ⟨V,V⟩)
variable{k:Nat}
theorem jy(h:c.okb)(B:k<c.ns):Au prog 24 #[.pointer (some ⟨c.cp,0,none⟩),I4 (k:Int)] [[(c.cp,.cells c.BM8 110 (0,0))],c.z.S,[(c.mb,.map c.esP c.ckP)],c.su] (I4 (Fg c.PL (k:Int))):=by
 refine Se func24 ntmps24 [0,1] ?_;intro u R;refine A3<|CT Y<|Zq<|Ht (s:=c.z.S) Wo (fun m=>?_);rw [Bi.keys]at m;refine Zg<|Zm Y<|Zv (Bb Sx Y Y)<|A4<|AY Y (fun g=>by cases g)<|fun g=>B3<|AK Y<|Zp Y V<|Zh 2 Gk V rfl sizeOf102 Y<|Zl Ly Y<|Zm Y<|Xr [_,_] Y call70 Y V (AF1 h.pool m B)<|An Y<|AO V results24 Y (by exact ⟨V,V⟩)
def BF.pc(r:BF):Int×List Chg:=(r.p,r.cs)
theorem NF{q:QM}{base:Int}:∀{l l':List BF} {i:Nat} {st:C8×Int},l.map BF.pc=l'.map BF.pc->Fs q base i st l=Fs q base i st l'
 |[],[],_,_,_=>rfl
 |[],_::_,_,_,h=>by simp at h
 |_::_,[],_,_,h=>by simp at h
 |x::l,y::l',i,st,h=>by
  rw [Fc,Fc]at h;injection h with h1 h2
  injection h1 with h3 h4
  unfold Fs;rw [h3,h4];split;· exact NF h2
  · rfl
variable{base pos:Int}
theorem PD{win:List BF}(h:(pos -base).toNat<=win.length):(Dj pos base win).length=(pos -base).toNat:=by
 unfold Dj;rw [Cp];omega
variable{r:BF}
theorem Sk(h:c.okb)(g:r∈c.win):r.cs.length<=8:=by
 obtain ⟨i,hi⟩:=HU g;exact (h.wp i r hi).2.2.len.2
theorem mU{l m:List BF}(g:l.map BF.pc=m.map BF.pc){n:Nat}(h:∀y∈m,y.cs.length<=n):∀y∈l,y.cs.length<=n:=fun y hy=>by
 have B:y.pc∈m.map BF.pc:=by rw [<-g];exact Fk hy
 obtain ⟨w,J,I⟩:=CI.1 B;have h2:=h w J
 have G:y.cs=w.cs:=(congrArg Prod.snd I).symm;rw [G];exact h2
theorem di(h:c.ok)(hx:x∈c.its):BS prog 55 #[.pointer (some ⟨c.cp,0,none⟩),.string x.key] [[(c.cp,.cells c.BM8 110 (0,0))],[(c.mi,.map c.esI c.ckI)],c.SI,c.M] (fun r H'=>∃G B s,r= .tuple #[.agg #[I4 x.q.kd,I4 x.q.tb,I4 x.q.cl,I4 x.q.lo,I4 x.q.hi,I4 x.q.bq,I4 x.q.ot,I4 x.tn,I4 x.base,.slice G x.L.length B],.bool true]/\FV s (.slice G x.L.length B) x.L/\H'=[[(c.cp,.cells c.BM8 110 (0,0))],[(c.mi,.map c.esI c.ckI)],c.SI,c.M,s]):=by
 have O:=h.its.get hx;have g:=h.all x hx
 have J:(x.b,Obj.cells x.BM7 116 (0,0))∈c.SI:=h.its.sub x hx;refine Se func55 ntmps55 [0,1] ?_;intro u R;refine A3<|Ze (FM fN (cs:=#[I4 0,I4 0,I4 0,I4 0,I4 0,I4 0,I4 0,I4 0,I4 0,.slice none 0 0]) AD)<|AF fun X=>AH Y<|B8 Y<|Zv (Bb Sx Y Y)<|Zm Y<|Ad (t:=8) Y V (fun K=>by cases K)<|fun K=>Zf Y Y<|Yg (Ao Y V)<|Yf 4 Gk V rfl T5 Y<|Yl Sh Y ?_;refine Zf Y Y<|D6 Y Wh (Du (EI GW (D:=fun _=>True)) Ss cA h.its.im (fun _ _=>trivial) (trivial) (by rw [O];first|done|rfl) Y Y) rfl rfl ?_;refine Yg (Bb underlying111 Y Y)<|B9 Y Y<|Z0<|Zn [0,1,4,16] ?_;refine Zx<|AY Y (fun m=>by cases m)<|fun m=>B3<|AK Y<|Zp Y V<|Zh 4 Gk V rfl T5 Y<|Zl Sh Y ?_;refine Zm Y<|Zo Wh (Du (EI GW (D:=fun _=>True)) Ss cA h.its.im (fun _ _=>trivial) (trivial) (by rw [O];first|done|rfl) Y Y) ?_;refine Zp Y V<|Zh 0 LS V rfl I3 Y<|Bu (HY Wo (J)) (A9 (cs:=#[I4 x.q.kd,I4 x.q.tb,I4 x.q.cl,I4 x.q.lo,I4 x.q.hi,I4 x.q.bq,I4 x.q.ot,I4 x.tn,I4 x.base,.slice x.rq x.L.length x.rc]) ZD I3 Y B5 (by exact (by apply J0.1;rfl))) V rfl ?_;refine Zc [_] Y call88 Y V (Re x.q x.tn x.base g.rp g.rl g.fit) ?_;rintro _ _ ⟨_,⟨G,B,U,rfl,I,rfl⟩,rfl⟩;refine Xe (BJ I3 Y Y K0 Wu (by exact Dz rfl) G4 B0 (by exact BB _)) ?_;refine An Y<|CS V results55 Y Wh (Av ZD I3 Wn (Az V)) Y (by exact ⟨G,B,U,V,I,V⟩)
theorem A88(h:c.ok)(hx:x∈c.its)(O:c.pos<x.base):Au prog 18 #[.pointer (some ⟨c.cp,0,none⟩),.string x.key] [[(c.cp,.cells c.BM8 110 (0,0))],[(c.mi,.map c.esI c.ckI)],c.SI,c.M] (.tuple #[.agg #[I4 0,I4 0,I4 0,I4 0,I4 0,I4 0,I4 0,.slice none 0 0,I4 0,.bool false,I4 0,I4 0,I4 0,.slice none 0 0,.slice none 0 0],.bool false]):=by
 refine Se func18 ntmps18 [0,1] ?_;intro u R;refine A3<|Ze (FM NO (cs:=#[I4 0,I4 0,I4 0,I4 0,I4 0,I4 0,I4 0,.slice none 0 0,I4 0,.bool false,I4 0,I4 0,I4 0,.slice none 0 0,.slice none 0 0]) AD)<|AF fun K=>AH Y<|AK Y<|Zm Y<|Zc [_,_] Y call55 Y V (di h hx) ?_;rintro _ _ ⟨_,⟨I,B,U,rfl,G,rfl⟩,rfl⟩;refine Zm Y<|Zd Y V<|Zd Y V<|Ze (FM fN (cs:=#[I4 0,I4 0,I4 0,I4 0,I4 0,I4 0,I4 0,I4 0,I4 0,.slice none 0 0]) AD)<|AF fun J=>Xe (Xw I3 #[I4 x.q.kd,I4 x.q.tb,I4 x.q.cl,I4 x.q.lo,I4 x.q.hi,I4 x.q.bq,I4 x.q.ot,I4 x.tn,I4 x.base,.slice I x.L.length B])<|CT Y<|Zq<|Ay (n:=11) (0::1::3::7::15::7::39::103::231::511::1023::[]) 0 AD AD V<|A1 0 V (AP Y)<|A1 1 V (Bo Y)<|A1 2 V (AP Y)<|DK (t:=21) Y (fun g=>?_) (fun g=>?_);·
  rw [g];cases g
 rw [g];refine B4 3 V (AB (off:=8) HF V rfl A6 Y)<|FF 4 V Wh (BK AE Y B1)<|B4 5 V (AP Y)<|B4 6 V (Ao Y V)<|B4 7 V (AB (off:=0) Gk V rfl A6 Y)<|FF 8 V Wh (BK AE Y B1)<|B4 9 V (F4 Y Y)<|A1 10 V (AJ Y Y)<|Aq<|Zn [0,4,6,29] ?_;refine Zx<|Ak Y (fun m=>?_) (fun m=>?_);·
  refine A3<|Zv (BN (vs:=[]) (cs:=#[_,_,_,_,_,_,_,_,_,_,_,_,_,_,_]) Y (Aa (pl:=#[(0,7),(7,3),(10,1),(11,1),(12,1),(13,1),(14,1)]) NO HH (fun _=>by kernel_rfl) rfl))<|Xe (BJ KB Y Y K0 Wu (Dz rfl) G4 Wn (by exact BB _))<|An Y<|Zt<|CS rfl results18 Y Wh (Av Z3 KB Wn (Az rfl)) Y q5
 exfalso;omega
set_option maxHeartbeats 1000000 in
theorem wS(h:c.ok)(hx:x∈c.its)(hb:x.base<=c.pos):BS prog 18 #[.pointer (some ⟨c.cp,0,none⟩),.string x.key] [[(c.cp,.cells c.BM8 110 (0,0))],c.sW,[(c.mi,.map c.esI c.ckI)],c.SI,c.M] (fun w H'=>∃(z:Ox) (l:List BF) (s s2:List A8),z.a=⟨x.q,x.res,x.since,c.pos,x.base,x.L,l⟩/\l.map BF.pc=(Dj c.pos x.base c.win).map BF.pc/\z.ok (s++s2)/\w= .tuple #[.agg z.BM6,.bool true]/\H'=[[(c.cp,.cells c.BM8 110 (0,0))],c.sW,[(c.mi,.map c.esI c.ckI)],c.SI,c.M,s,s2]):=by
 have sJ:=mL;have G:=h.all x hx
 obtain ⟨r0,gq,J⟩:=G.run;have kv:=G.base
 have p9:=h.pos;have sM:=h.wl
 have pg:=Eo h.win;have gy:=G.reach
 obtain ⟨wl,g⟩:∃wl,wl=(Dj c.pos x.base c.win):=⟨_,rfl⟩;have K:wl.length=(c.pos -x.base).toNat:=by rw [g];exact PD gy
 have gQ:Dx (c.sW++c.M) (.slice (Ej c.wq (c.win.length -(c.pos -x.base).toNat) c.wc 2) (c.pos -x.base).toNat (c.wc -(c.win.length -(c.pos -x.base).toNat))) wl:=by
  have h1:=OJ (a:=c.win.length -(c.pos -x.base).toNat) (kr h.tookb) A0;rw [g];rwa [show c.win.length -(c.win.length -(c.pos -x.base).toNat)=(c.pos -x.base).toNat by omega]at h1
 obtain ⟨cv,d9⟩:∃cv,cv=c.wc -(c.win.length -(c.pos -x.base).toNat):=⟨_,rfl⟩;obtain ⟨pv,gm⟩:∃pv,pv=Ej c.wq (c.win.length -(c.pos -x.base).toNat) c.wc 2:=⟨_,rfl⟩;rw [<-d9,<-gm,<-K]at gQ;obtain ⟨p8,qh,e8,⟨sw,sj⟩,l5⟩:=id gQ;injection e8 with e81 e82 e83
 subst e81 e83;rw [<-g]at J⊢;refine Se func18 ntmps18 [0,1] ?_;intro u R;refine A3<|Ze (FM NO (cs:=#[I4 0,I4 0,I4 0,I4 0,I4 0,I4 0,I4 0,.slice none 0 0,I4 0,.bool false,I4 0,I4 0,I4 0,.slice none 0 0,.slice none 0 0]) AD)<|AF fun bo=>AH Y<|AK Y<|Zm Y<|Zc [_,_] Y call55 Y V (di h hx) ?_;rintro _ _ ⟨_,⟨pz,cz,se,rfl,ic,rfl⟩,rfl⟩;refine Zm Y<|Zd Y V<|Zd Y V<|Ze (FM fN (cs:=#[I4 0,I4 0,I4 0,I4 0,I4 0,I4 0,I4 0,I4 0,I4 0,.slice none 0 0]) AD)<|AF fun be=>Xe (Xw I3 #[I4 x.q.kd,I4 x.q.tb,I4 x.q.cl,I4 x.q.lo,I4 x.q.hi,I4 x.q.bq,I4 x.q.ot,I4 x.tn,I4 x.base,.slice pz x.L.length cz]) ?_;refine CT Y<|Zq<|Ay (n:=11) (0::1::3::7::15::7::39::103::231::511::1023::[]) 0 AD AD V<|A1 0 V (AP Y)<|A1 1 V (Bo Y)<|A1 2 V (AP Y)<|DK (t:=21) Y (fun g1=>?_) (fun g1=>?_);·
  rw [g1];cases g1
 rw [g1];refine B4 3 V (AB (off:=8) HF V rfl A6 Y)<|FF 4 V Wh (BK AE Y B1) ?_;refine B4 5 V (AP Y)<|B4 6 V (Ao Y V)<|B4 7 V (AB (off:=0) Gk V rfl A6 Y)<|FF 8 V Wh (BK AE Y B1) ?_;refine B4 9 V (F4 Y Y)<|A1 10 V (AJ Y Y)<|Aq<|Zn [0,4,6,29] ?_;refine Zx<|Ak Y (fun j5=>by omega)<|fun j5=>B3<|AK Y<|Zh 8 HF V rfl A6 Y<|Zl AE Y ?_;refine Xr [_,_] Y call56 Y V (Ov p9 x.base kv ⟨pg,by omega⟩) ?_;rw [Ax gy,<-d9,<-gm,<-K];refine Zm Y<|Zd Y V<|Zd Y V<|Za Y<|CT Y<|Cc (s1:=c.sW) (s2:=c.M) Wo Wo ?_;refine Zg<|Zm Y<|Zv (AR G2 Y)<|Ze (Xl (by_:=32) (sz:=2) (l:=0) G2 (V:Tryz.prog.info? 55=some Tryz.t55) V rfl V Y Y ?_ ?_ ?_) ?_
 (focus (omega))
 (focus (omega))
 (focus (omega))
 rintro _ _ ⟨gr,qj,rfl,U,rfl⟩;refine B2 Y<|Zn [4,6,8,10] ?_;refine Zx<|Zq<|Zq<|Bc<|Zg<|Zm Y<|Zv (AR G2 Y)<|Zm Y<|A4<|AQ<|Zb [10,43,4,6,41,42] ?_;refine Aw (e0:=[(10,_),(43,_)]) (fun m e H=>∃(k:Nat) (l:List BF) (vr:A2) (O MR:List A8),m=wl.length -k/\((k<=wl.length/\l.length=k)/\BU 2 55 vr l.length (Da l) O/\(∀r∈l,CL MR (.slice r.q r.cs.length r.cap) r.cs)/\l.map BF.pc=(wl.take k).map BF.pc)/\e=[(10,vr),(43,I4 (k:Int))]/\H=[O,MR]) (by exact ⟨0,[],_,_,[],V,⟨⟨CM _,V⟩,ny A0 U,fun r X=>absurd X B7,V⟩,V,V⟩) Wp ?_;rintro _ _ _ ⟨k,l,vr,O,MR,rfl,⟨⟨hk,l8⟩,hR,ax,B⟩,rfl,rfl⟩;refine A3<|Zv (Ap Y Y)<|A4<|Zq<|Ak Y (fun l9=>?_) (fun l9=>?_);·
  obtain ⟨r,X⟩:∃r,wl[k]?=some r:=⟨_,BT A0⟩;obtain ⟨cu,g9,qx,ql,T9,sO,o9,o8,qw,ek⟩:=l5 k r X;rw [o9];obtain ⟨gv,Z,rfl⟩:=hR.form;have qo:=Sk h.tookb (r:=r) (by rw [g]at X;exact MT (Ek X))
  refine B3<|Zq<|AQ<|A3<|BX (AZ G2 E0 Y Y A0)<|Bu (HY Wo (o8)) (A9 (cs:=#[I4 r.p,.slice r.q r.cs.length r.cap]) HN E0 Y A0 (by exact ek)) V rfl ?_;refine Ze (Al N2 #[_,_])<|AF fun br=>Xe (Xw E0 #[I4 r.p,.slice r.q r.cs.length r.cap]) ?_;refine A4<|Zg<|Zm Y<|Zo Wh (A9 (cs:=#[I4 r.p,.slice r.q r.cs.length r.cap]) HN E0 Y B5 (by exact Az V)) ?_;refine Zc [_] Y call43 Y V (Rc r.p cu A0) ?_;rintro _ _ ⟨_,⟨q2,cap2,s2,rfl,bn,rfl⟩,rfl⟩;refine Ze (Ah (vs:=[_]) (cs:=[_,_]) G2 E0 N2 Y V rfl V rfl V)<|AF fun gb=>Ze (BP (by_:=32) (sz:=2) G2 (V:Tryz.prog.info? 55=some Tryz.t55) V rfl V rfl Y (hR) Y (Cu 2 gb 1 1 55 (0,0) [I4 r.p,.slice q2 r.cs.length cap2] V) Wo Wo HO A0 A0) ?_;rintro _ _ ⟨qb,I,rfl⟩;obtain ⟨r9,qz,rfl⟩:=I.form;refine B2 Y<|AA<|Zx<|Cc (s1:=s2) (s2:=MR) Wo Wo ?_;refine Dg Y Y Y<|Zn [10,43,4,6,41,42] ?_;refine Ac (e':=[(10,_),(43,_)]) (by
   exact ⟨k+1,l++[⟨r.p,q2,cap2,r.cs⟩],_,qb,s2++MR,rfl,⟨⟨by omega,by rw [C0,l8];rfl⟩,BZ I (by rw [C0];rfl) (by rw [JD];rfl),fun y hy=>by
    rcases CD.1 hy with hy|hy
    · exact Ho (ax y hy) s2
    · rw [CH.1 hy];exact K7 bn MR,by rw [CN,B,Bl X,CN];rfl⟩,rfl,rfl⟩)
 obtain rfl:k=wl.length:=by omega
 rw [HE]at B;obtain ⟨gv,Z,rfl⟩:=hR.form;refine BA<|Zt<|Zt<|AX<|Zx<|Zq<|mg (s1:=c.sW) (s2:=c.M) (by repeat(first|exact Vo.here _|apply Vo.there)) ?_;refine Cc (s1:=se) (s2:=O) Wo Wo ?_;refine Cc (s1:=(se++O)) (s2:=MR) Wo Wo ?_;have j3:Dx ((se++O)++MR) (.slice gv l.length Z) l:=MV (KU hR A0 ax) (fun q hq=>by rcases CD.1 hq with h9|h9<;>simp [h9])
 have cO:∀y∈l,y.cs.length<=1000:=mU B fun y hy=>by
  have:=Sk h.tookb (r:=y) (by rw [g]at hy;exact MT hy);omega
 have af:Fh x.q x.base x.L l=some ⟨x.q,x.res,x.since,c.pos,x.base,x.L,l⟩:=by
  rw [Kt gq A0,NF B,J];show some (Nq.mk x.q x.res x.since (x.base+(l.length:Int)) x.base x.L l)=_
  rw [show x.base+(l.length:Int)=c.pos by omega]
 refine Zg<|Zo Wh (A9 (cs:=#[I4 x.q.kd,I4 x.q.tb,I4 x.q.cl,I4 x.q.lo,I4 x.q.hi,I4 x.q.bq,I4 x.q.ot,I4 x.tn,I4 x.base,.slice pz x.L.length cz]) ZD I3 Y B5 (by exact Az V)) ?_;refine Zm Y<|Zc [_,_] Y call57 Y V (mZ x.q x.tn x.base A0 (ic.mono fun q hq=>by simp [hq]) G.rl gq j3 cO) ?_;rintro _ _ ⟨_,⟨z,s9,b9,pq,rfl,rfl⟩,rfl⟩;obtain ⟨rfl,q9,qa⟩:b9=true/\z.a=⟨x.q,x.res,x.since,c.pos,x.base,x.L,l⟩/\z.ok (s9++((se++O)++MR)):=by
  rcases pq with⟨h1,h2,h3⟩|⟨_,h2⟩
  · rw [af]at h2;injection h2 with h2;exact ⟨h1,h2.symm,h3⟩
  · rw [af]at h2;cases h2
 refine Zd Y rfl<|Zd Y rfl<|Xe (BJ KB Y Y K0 Wu (by exact Dz rfl) G4 B0 (by exact BB _)) ?_;refine An Y<|CS V results18 Y Wh (Av Z3 KB Wn (Az V)) Y (by exact ⟨z,l,s9,(se++O)++MR,q9,B,qa,V,V⟩)
theorem xv(h:c.ok)(hx:x∈c.its)(G:x.base<=c.pos):BS prog 18 #[.pointer (some ⟨c.cp,0,none⟩),.string x.key] [[(c.cp,.cells c.BM8 110 (0,0))],c.sW,[(c.mi,.map c.esI c.ckI)],c.SI,c.M] (fun w H'=>∃(z:Ox) (l:List BF) (s:List A8),z.a=⟨x.q,x.res,x.since,c.pos,x.base,x.L,l⟩/\l.map BF.pc=(Dj c.pos x.base c.win).map BF.pc/\z.ok s/\w= .tuple #[.agg z.BM6,.bool true]/\H'=[[(c.cp,.cells c.BM8 110 (0,0))],c.sW,[(c.mi,.map c.esI c.ckI)],c.SI,c.M,s]):=by
 refine Gj (wS h hx G) V ?_;rintro w H' ⟨z,l,s,s2,g,h2,m,B,rfl⟩;exact ⟨_,⟨z,l,s++s2,g,h2,m,B,V⟩,by simp⟩
variable{q:QM}{pg:BE}{cg:Nat}{L:List RP}{ME:List A8}{r0:C8}
theorem vK(h:c.ok)(hq:BH q)(te base:Int)(hb:0<=base/\base<=10000)(hL:FV ME (.slice pg L.length cg) L)(ax:L.length<=1000000)(af:∀x∈L,x.fits)(K:EJ q L=some r0)(O:¬(c.pos -base).toNat<=c.win.length)(G:AM)(Z:Nat×Nat):BS prog 35 #[.pointer (some ⟨c.cp,0,none⟩),.agg #[I4 q.kd,I4 q.tb,I4 q.cl,I4 q.lo,I4 q.hi,I4 q.bq,I4 q.ot,I4 te,I4 base,.slice pg L.length cg]] [[(c.cp,.cells c.BM8 110 (0,0))],c.sW,c.M,ME,[(3,.cells (Lib.pow10Tab.map fun z=>Value.int .u64 z).toArray G Z)]] (fun w H'=>w= .tuple #[.string ⟨#[]⟩,.pointer none,.bool false]/\H'=[[(c.cp,.cells c.BM8 110 (0,0))],c.sW,c.M,ME,[(3,.cells (Lib.pow10Tab.map fun z=>Value.int .u64 z).toArray G Z)]]):=by
 have bn:=mL;have J:=h.pos
 have cu:=h.wl;have U:=Eo h.win
 refine Se func35 ntmps35 [0,1] ?_;intro u R;refine A3<|Ze (Bx #[I4 q.kd,I4 q.tb,I4 q.cl,I4 q.lo,I4 q.hi,I4 q.bq,I4 q.ot,I4 te,I4 base,.slice pg L.length cg])<|AF fun be=>Za Y<|Za Y<|AH Y<|A3<|Zh 0 HF V rfl D4 Y<|Zo Wh (A9 (cs:=q.BM5) Fm D4 Y B5 (by exact (by apply J0.1;rfl)))<|Xr [_] Y call21 Y V (OM q hq G Z)<|Zm Y<|Zd Y V<|Zd Y V<|Za Y<|AH Y<|B8 Y<|Zv (Cm (n:=0) Y Y)<|Zm Y<|Af (t:=22) Y V (fun g1=>?_) (fun g1=>?_);·
  exact absurd V g1
 refine Yf 8 HF V rfl A6 Y<|Yl AE Y<|Xr [_] Y call32 Y V (JZ base) ?_;rw [DE hb];refine Yg (Bo Y)<|B9 Y Y<|Z0<|Zn [0,3,7,27] ?_;refine Zx<|AY Y (fun m=>by cases m)<|fun m=>B3<|AK Y<|Zh 8 HF V rfl A6 Y<|Zl AE Y<|Xr [_,_] Y call56 Y V (Ov J base hb ⟨U,by omega⟩) ?_;rw [As O];refine Zm Y<|Zd Y V<|Zd Y V<|Za Y<|AH Y<|A3<|Zh 0 HF V rfl D4 Y<|Zo Wh (A9 (cs:=#[_,_,_,_,_,_,_]) Fm D4 Y B5 (by exact (by apply J0.1;rfl)))<|Zh 9 HF V rfl Lw Y<|Zl PC Y<|Zc [_,_] Y call86 Y V (Xu hL q K) ?_;rintro _ _ ⟨_,⟨cO,sr,rfl,g,rfl⟩,rfl⟩;obtain ⟨X,I,rfl⟩:=g.form;refine Zm Y<|Zd Y V<|Zd Y V<|Ze (Al HS #[_,_,_])<|AF fun bs=>Xe (Xw C5 #[.slice X r0.rows.length I,I4 r0.val,.bool r0.fnd])<|B2 Y<|Zn [3,7,9,10,11,12] ?_;refine Zx<|B8 Y<|Zv (Bo Y)<|Zm Y<|Ad (t:=45) Y V (fun g2=>by cases g2)<|fun g2=>Zf Y Y<|Yg (Bo Y)<|B9 Y Y<|A4<|AY Y (fun B=>?_) (fun B=>?_);·
  refine A3<|Za Y<|Za Y<|An Y<|Zt<|SL V results35 Y Y Y (by exact ⟨V,V⟩)
 cases B
set_option maxHeartbeats 1000000 in
theorem YC(h:c.ok)(hq:BH q)(te base:Int)(hb:0<=base/\base<=10000)(hL:FV ME (.slice pg L.length cg) L)(cO:L.length<=1000000)(U:∀x∈L,x.fits)(Z:EJ q L=some r0)(af:(c.pos -base).toNat<=c.win.length)(Tp:AM)(zp:Nat×Nat):BS prog 35 #[.pointer (some ⟨c.cp,0,none⟩),.agg #[I4 q.kd,I4 q.tb,I4 q.cl,I4 q.lo,I4 q.hi,I4 q.bq,I4 q.ot,I4 te,I4 base,.slice pg L.length cg]] [[(c.cp,.cells c.BM8 110 (0,0))],c.sW,c.M,ME,[(3,.cells (Lib.pow10Tab.map fun z=>Value.int .u64 z).toArray Tp zp)]] (fun w H'=>∃b rq rc wq wc s1 s2,w= .tuple #[.string (str (DI q)),I5 b,.bool (BI q r0 base (Dj c.pos base c.win)).2.2]/\FV s1 (.slice rq L.length rc) L/\Dp s2 (.slice wq (BI q r0 base (Dj c.pos base c.win)).1.rows.length wc) (BI q r0 base (Dj c.pos base c.win)).1.rows/\H'=[[(c.cp,.cells c.BM8 110 (0,0))],c.sW,c.M,ME,[(3,.cells (Lib.pow10Tab.map fun z=>Value.int .u64 z).toArray Tp zp)],[(b,.cells #[I4 q.kd,I4 q.tb,I4 q.cl,I4 q.lo,I4 q.hi,I4 q.bq,I4 q.ot,I4 te,I4 base,.slice rq L.length rc,I4 0,.slice wq (BI q r0 base (Dj c.pos base c.win)).1.rows.length wc,I4 (BI q r0 base (Dj c.pos base c.win)).1.val,.bool (BI q r0 base (Dj c.pos base c.win)).1.fnd,I4 (BI q r0 base (Dj c.pos base c.win)).2.1] 116 (0,0))],s1,s2]):=by
 have ic:=mL;have gm:=h.pos
 have j5:=h.wl;have gy:=Eo h.win
 obtain ⟨wl,m⟩:∃wl,wl=Dj c.pos base c.win:=⟨_,rfl⟩;have G:wl.length=(c.pos -base).toNat:=by rw [m];exact PD af
 have ax:Dx (c.sW++c.M) (.slice (Ej c.wq (c.win.length -(c.pos -base).toNat) c.wc 2) (c.pos -base).toNat (c.wc -(c.win.length -(c.pos -base).toNat))) wl:=by
  have h1:=OJ (a:=c.win.length -(c.pos -base).toNat) (kr h.tookb) A0;rw [m];rwa [show c.win.length -(c.win.length -(c.pos -base).toNat)=(c.pos -base).toNat by omega]at h1
 obtain ⟨cv,O⟩:∃cv,cv=c.wc -(c.win.length -(c.pos -base).toNat):=⟨_,rfl⟩;obtain ⟨pv,X⟩:∃pv,pv=Ej c.wq (c.win.length -(c.pos -base).toNat) c.wc 2:=⟨_,rfl⟩;rw [<-O,<-X,<-G]at ax;rw [<-m];have K:∀y∈wl,y.cs.length<=1000:=fun y hy=>by
  have:=Sk h.tookb (r:=y) (by rw [m]at hy;exact MT hy);omega
 obtain ⟨_,j3,gq⟩:=PR Z;refine Se func35 ntmps35 [0,1] ?_;intro u R;refine A3<|Ze (Bx #[I4 q.kd,I4 q.tb,I4 q.cl,I4 q.lo,I4 q.hi,I4 q.bq,I4 q.ot,I4 te,I4 base,.slice pg L.length cg])<|AF fun be=>Za Y<|Za Y<|AH Y<|A3<|Zh 0 HF V rfl D4 Y<|Zo Wh (A9 (cs:=q.BM5) Fm D4 Y B5 (by exact (by apply J0.1;rfl)))<|Xr [_] Y call21 Y V (OM q hq Tp zp)<|Zm Y<|Zd Y V<|Zd Y V<|Za Y<|AH Y<|B8 Y<|Zv (Cm (n:=0) Y Y)<|Zm Y<|Af (t:=22) Y V (fun g1=>?_) (fun g1=>?_);·
  exact absurd V g1
 refine Yf 8 HF V rfl A6 Y<|Yl AE Y<|Xr [_] Y call32 Y V (JZ base) ?_;rw [DE hb];refine Yg (Bo Y)<|B9 Y Y<|Z0<|Zn [0,3,7,27] ?_;refine Zx<|AY Y (fun I=>by cases I)<|fun I=>B3<|AK Y<|Zh 8 HF V rfl A6 Y<|Zl AE Y<|Xr [_,_] Y call56 Y V (Ov gm base hb ⟨gy,by omega⟩) ?_;rw [Ax af,<-O,<-X,<-G];refine Zm Y<|Zd Y V<|Zd Y V<|Za Y<|AH Y<|A3<|Zh 0 HF V rfl D4 Y<|Zo Wh (A9 (cs:=#[_,_,_,_,_,_,_]) Fm D4 Y B5 (by exact (by apply J0.1;rfl)))<|Zh 9 HF V rfl Lw Y<|Zl PC Y<|Zc [_,_] Y call86 Y V (Xu hL q Z) ?_;rintro _ _ ⟨_,⟨kv,sr,rfl,B,rfl⟩,rfl⟩;obtain ⟨gQ,bn,rfl⟩:=B.form;refine Zm Y<|Zd Y V<|Zd Y V<|Ze (Al HS #[_,_,_])<|AF fun bs=>Xe (Xw C5 #[.slice gQ r0.rows.length bn,I4 r0.val,.bool r0.fnd])<|B2 Y<|Zn [3,7,9,10,11,12] ?_;refine Zx<|B8 Y<|Zv (Bo Y)<|Zm Y<|Ad (t:=45) Y V (fun g2=>by cases g2)<|fun g2=>Zf Y Y<|Yg (Bo Y)<|B9 Y Y<|A4<|AY Y (fun J=>by cases J)<|fun J=>B3<|Zq ?_;have ek:=Dl B A0
 refine Cc (s1:=c.sW) (s2:=c.M) Wo Wo ?_;refine Zg<|Zh 0 HF V rfl D4 Y<|Zo Wh (A9 (cs:=#[_,_,_,_,_,_,_]) Fm D4 Y B5 (by exact (by apply J0.1;rfl)))<|Zo Wh (A9 (cs:=#[_,_,_]) EV C5 Y B5 (Az V))<|Zh 8 HF V rfl A6 Y<|Zl AE Y<|Zm Y<|Zc [_,_,_,_] Y call87 Y V (RV q hq base A0 ax A0 K ek A0 gq) ?_;rintro _ _ ⟨_,⟨l5,s3,rfl,g,rfl⟩,rfl⟩;obtain ⟨wq,wc,rfl⟩:=g.form;have cu:=Qc g
 refine Zm Y<|Zd Y rfl<|Zd Y rfl<|Zd Y rfl<|Xe (BJ C5 Y Y K0 Wu (by exact (rfl:_=(#[.slice wq (BI q r0 base wl).1.rows.length wc,I4 (BI q r0 base wl).1.val,.bool (BI q r0 base wl).1.fnd]:AN))) G4 B5 (by exact BB _))<|Za Y<|B2 Y<|Zn [3,7,11,12,13] ?_;refine Zx<|Zq<|mg (s1:=c.sW) (s2:=c.M) (by repeat(first|exact Vo.here _|apply Vo.there)) ?_;refine Ay (n:=11) (0::0::2::0::0::30::62::0::7::383::1023::[]) 68 AD AD V<|A1 0 V (AP Y)<|G3 1 V Wh (A9 (cs:=#[_,_,_,_,_,_,_,_,_,_]) ZD I3 Y B5 (Az V))<|G3 3 V Wh (A9 (cs:=#[_,_,_]) EV C5 Y B5 (Az V))<|A1 4 V (AP Y)<|A1 7 V (AP Y)<|Zz (l:=[2])<|BW [true,false] [(3,(_,_))] V rfl (Zw [_] Y call88 Y V (Re q te base hL cO U)) ?_ Bv Aj;rintro _ _ ⟨_,⟨rq,rc,s1,rfl,d9,rfl⟩,rfl⟩;refine C3<|A1 5 V (BN (vs:=[(0,.agg #[I4 q.kd,I4 q.tb,I4 q.cl,I4 q.lo,I4 q.hi,I4 q.bq,I4 q.ot,I4 te,I4 base,.slice rq L.length rc]),(2,.agg #[.slice wq (BI q r0 base wl).1.rows.length wc,I4 (BI q r0 base wl).1.val,.bool (BI q r0 base wl).1.fnd]),(3,I4 (BI q r0 base wl).2.1)]) (cs:=#[I4 q.kd,I4 q.tb,I4 q.cl,I4 q.lo,I4 q.hi,I4 q.bq,I4 q.ot,I4 te,I4 base,.slice rq L.length rc,I4 0,.slice wq (BI q r0 base wl).1.rows.length wc,I4 (BI q r0 base wl).1.val,.bool (BI q r0 base wl).1.fnd,I4 (BI q r0 base wl).2.1]) Y (Aa (pl:=#[(0,10),(10,1),(11,3),(14,1)]) zeroValue116 LS (fun _=>by kernel_rfl) AD))<|A1 8 V (BC Y)<|Zz (l:=[6])<|BW [false] [] V rfl (Bx #[I4 q.kd,I4 q.tb,I4 q.cl,I4 q.lo,I4 q.hi,I4 q.bq,I4 q.ot,I4 te,I4 base,.slice rq L.length rc,I4 0,.slice wq (BI q r0 base wl).1.rows.length wc,I4 (BI q r0 base wl).1.val,.bool (BI q r0 base wl).1.fnd,I4 (BI q r0 base wl).2.1]) ?_ (fun _ _ h=>h.elim) Aj;rintro _ _ ⟨b,rfl,rfl⟩;refine C3<|A1 9 V (BC Y)<|A1 10 V (BC Y)<|Aq<|Zx<|AL<|SL V results35 Y Y Y (by exact ⟨b,rq,rc,wq,wc,s1,s3,V,d9,Dl g cu,V⟩)
theorem Tc{r:C8}{l:List BF}(h:(BI q r base l).2.2=true):Fs q base 0 (r,base) l=some ((BI q r base l).1,(BI q r base l).2.1):=MU h
theorem ko{c:CZ}(h:c.okb){m:List A8}(X:∀q∈c.M,q∈m):∀(i:Nat) (r:BF),c.win[i]?=some r->r.p=c.pos -(c.win.length:Int)+1+(i:Int)/\CL m (.slice r.q r.cs.length r.cap) r.cs/\Db r.p r.cs:=fun i r Z=>by
 obtain ⟨J,⟨p,cap,e,U,O⟩,K⟩:=h.wp i r Z;refine ⟨J,⟨p,cap,e,U,fun j x hx=>?_⟩,K⟩;obtain ⟨g,off,cur,T,zz,B,G,I⟩:=O j x hx;exact ⟨g,off,cur,T,zz,B,X _ G,I⟩
theorem dP{K:CA}(h:∀y∈its,y.key≠K):(its.filter fun y=>y.key≠K)=its:=eW.2 fun y hy=>by simpa using h y hy
theorem xW{PL:List Br}(m:∀k,k∈PL.map (·.key)↔k∈its.map ItM.key)(e:Br)(x:ItM)(g:e.key=x.key):∀k,k∈(PL++[e]).map (·.key)↔k∈(its++[x]).map ItM.key:=by
 intro k;rw [CN,CN,CD,CD,m k,S0,S0,g]
def NY(b:Nat)(id:Int)(q:QM)(tn base:Int)(rq:BE)(rc:Nat)(L:List RP)(R:C8×Int×Bool)(wq:BE)(wc:Nat):ItM:=⟨b,id,q,tn,base,rq,rc,L,R.1,wq,wc,R.2.1⟩
variable{wq:BE}{wc:Nat}
theorem jA{b:Nat}{id:Int}(X:BH q){tn:Int}(Z:0<=tn/\tn<=1000000)(U:0<=base/\base<=10000){rq:BE}{rc:Nat}(G:L.length<=1000000)(m:∀x∈L,x.fits)(I:EJ q L=some r0)(J:(c.pos -base).toNat<=c.win.length)(B:(BI q r0 base (Dj c.pos base c.win)).2.2=true){K g:List A8}
 (O:FV K (.slice rq L.length rc) L)(h2:Dp g (.slice wq (BI q r0 base (Dj c.pos base c.win)).1.rows.length wc) (BI q r0 base (Dj c.pos base c.win)).1.rows):(NY b id q tn base rq rc L (BI q r0 base (Dj c.pos base c.win)) wq wc).ok K g c.pos c.win:=
 ⟨X,U,Z,O,G,m,h2,J,r0,I,Tc B⟩
theorem ji(p:BE)(n c:Nat)(v f:A2)(hv:v.oneCell'=true/\v.cells=#[v])(B:f.oneCell'=true/\f.cells=#[f])(hn:n<=1000000):Au prog 37 #[.agg #[.slice p n c,v,f]] [] (I4 (1+(n:Int))):=by
 refine Se func37 ntmps37 [0] ?_;intro u R;refine A3<|Ze (Bx #[_,_,_])<|AF fun g=>AH Y<|A3<|Zh 0 FA V rfl E3 Y<|Zl GP Y<|Zv (AR C2 Y)<|Ya (m:=1) Y Y<|An Y<|AO V results37 Y (by exact ⟨V,V⟩)
theorem vH(h:c.ok)(hq:BH q)(hk:k<c.ns)(Z:k<=1000000)(base:Int)(X:0<=base/\base<=10000)(U:FV ME (.slice pg L.length cg) L)(I:L.length<=1000000)(B:∀x∈L,x.fits)(J:EJ q L=some r0)(K:¬(c.pos -base).toNat<=c.win.length)(G:AM)(O:Nat×Nat):BS prog 11 #[.pointer (some ⟨c.cp,0,none⟩),.agg #[I4 q.kd,I4 q.tb,I4 q.cl,I4 q.lo,I4 q.hi,I4 q.bq,I4 q.ot,I4 (k:Int),I4 base,.slice pg L.length cg]] [[(c.cp,.cells c.BM8 110 (0,0))],c.sW,c.M,ME,[(3,.cells (Lib.pow10Tab.map fun z=>Value.int .u64 z).toArray G O)]] (fun w H'=>w= .bool false/\H'=[[(c.cp,.cells c.BM8 110 (0,0))],c.sW,c.M,ME,[(3,.cells (Lib.pow10Tab.map fun z=>Value.int .u64 z).toArray G O)]]):=by
 refine Se func11 ntmps11 [0,1] ?_;intro u R;refine A3<|Ze (Bx #[I4 q.kd,I4 q.tb,I4 q.cl,I4 q.lo,I4 q.hi,I4 q.bq,I4 q.ot,I4 (k:Int),I4 base,.slice pg L.length cg])<|AF fun be=>AH Y<|B8 Y<|Zv (Bb Sx Y Y)<|A4<|AY Y (fun m=>by cases m)<|fun m=>B3<|AK Y<|Zo Wh (A9 (cs:=#[I4 q.kd,I4 q.tb,I4 q.cl,I4 q.lo,I4 q.hi,I4 q.bq,I4 q.ot,I4 (k:Int),I4 base,.slice pg L.length cg]) ZD I3 Y Wn (Az V))<|Zc [_,_] Y call35 Y V (vK h hq (k:Int) base X U I B J K G O) ?_;rintro _ _ ⟨_,⟨rfl,rfl⟩,rfl⟩;refine Zm Y<|Zd Y V<|Zd Y V<|Zd Y V<|Za Y<|Za Y<|B2 Y<|Zn [0,3,5,6,7] ?_;refine Zx<|B8 Y<|Zv (Bo Y)<|A4<|AY Y (fun g=>?_) (fun g=>?_);·
  refine A3<|An Y<|Zt<|AO V results11 Y (by exact ⟨V,V⟩)
 cases g
theorem A35(h:c.ok)(hq:BH q)(hk:k<c.ns)(ax:k<=1000000)(base:Int)(hb:0<=base/\base<=10000)(X:FV ME (.slice pg L.length cg) L)(J:L.length<=1000000)(B:∀x∈L,x.fits)(K:EJ q L=some r0)(O:(c.pos -base).toNat<=c.win.length)(G:(BI q r0 base (Dj c.pos base c.win)).2.2=false)(I:AM)(U:Nat×Nat):BS prog 11 #[.pointer (some ⟨c.cp,0,none⟩),.agg #[I4 q.kd,I4 q.tb,I4 q.cl,I4 q.lo,I4 q.hi,I4 q.bq,I4 q.ot,I4 (k:Int),I4 base,.slice pg L.length cg]] [[(c.cp,.cells c.BM8 110 (0,0))],c.sW,c.M,ME,[(3,.cells (Lib.pow10Tab.map fun z=>Value.int .u64 z).toArray I U)]] (fun w H'=>w= .bool false/\H'=[[(c.cp,.cells c.BM8 110 (0,0))],c.sW,c.M,ME,[(3,.cells (Lib.pow10Tab.map fun z=>Value.int .u64 z).toArray I U)]]):=by
 refine Se func11 ntmps11 [0,1] ?_;intro u R;refine A3<|Ze (Bx #[I4 q.kd,I4 q.tb,I4 q.cl,I4 q.lo,I4 q.hi,I4 q.bq,I4 q.ot,I4 (k:Int),I4 base,.slice pg L.length cg])<|AF fun be=>AH Y<|B8 Y<|Zv (Bb Sx Y Y)<|A4<|AY Y (fun m=>by cases m)<|fun m=>B3<|AK Y<|Zo Wh (A9 (cs:=#[I4 q.kd,I4 q.tb,I4 q.cl,I4 q.lo,I4 q.hi,I4 q.bq,I4 q.ot,I4 (k:Int),I4 base,.slice pg L.length cg]) ZD I3 Y Wn (Az V))<|Zc [_,_] Y call35 Y V (YC h hq (k:Int) base hb X J B K O I U) ?_;rintro _ _ ⟨_,⟨b,rq,rc,wq,wc,s1,s2,rfl,Z,af,rfl⟩,rfl⟩;rw [G];refine Zm Y<|Zd Y V<|Zd Y V<|Zd Y V<|Za Y<|Za Y<|B2 Y<|Zn [0,3,5,6,7] ?_;refine Zx<|B8 Y<|Zv (Bo Y)<|A4<|AY Y (fun g=>?_) (fun g=>?_);·
  refine A3<|An Y<|Zt<|AO V results11 Y (by exact ⟨V,V⟩)
 cases g
theorem A34(h:c.ok)(hq:BH q)(hk:k<c.ns)(cu:k<=1000000)(base:Int)(hb:0<=base/\base<=10000)(hL:FV ME (.slice pg L.length cg) L)(K:L.length<=1000000)(B:∀x∈L,x.fits)(X:EJ q L=some r0)(Z:(c.pos -base).toNat<=c.win.length)(G:(BI q r0 base (Dj c.pos base c.win)).2.2=true)(hx:x∈c.its)(af:x.key=str (DI q))(cO:base<=x.base)(J:AM)(zp:Nat×Nat):BS prog 11 #[.pointer (some ⟨c.cp,0,none⟩),.agg #[I4 q.kd,I4 q.tb,I4 q.cl,I4 q.lo,I4 q.hi,I4 q.bq,I4 q.ot,I4 (k:Int),I4 base,.slice pg L.length cg]] [[(c.cp,.cells c.BM8 110 (0,0))],c.sW,c.M,[(c.mi,.map c.esI c.ckI)],c.SI,ME,[(3,.cells (Lib.pow10Tab.map fun z=>Value.int .u64 z).toArray J zp)]] (fun w H'=>w= .bool true/\H'=[[(c.cp,.cells c.BM8 110 (0,0))],c.sW,c.M,[(c.mi,.map c.esI c.ckI)],c.SI,ME,[(3,.cells (Lib.pow10Tab.map fun z=>Value.int .u64 z).toArray J zp)]]):=by
 have U:=h.its.get hx;rw [af]at U;have O:(x.b,Obj.cells x.BM7 116 (0,0))∈c.SI:=h.its.sub x hx
 refine Se func11 ntmps11 [0,1] ?_;intro u R;refine A3<|Ze (Bx #[I4 q.kd,I4 q.tb,I4 q.cl,I4 q.lo,I4 q.hi,I4 q.bq,I4 q.ot,I4 (k:Int),I4 base,.slice pg L.length cg])<|AF fun be=>AH Y<|B8 Y<|Zv (Bb Sx Y Y)<|A4<|AY Y (fun m=>by cases m)<|fun m=>B3<|AK Y<|Zo Wh (A9 (cs:=#[I4 q.kd,I4 q.tb,I4 q.cl,I4 q.lo,I4 q.hi,I4 q.bq,I4 q.ot,I4 (k:Int),I4 base,.slice pg L.length cg]) ZD I3 Y Wn (Az V))<|Zc [_,_] Y call35 Y V (YC h hq (k:Int) base hb hL K B X Z J zp) ?_;rintro _ _ ⟨_,⟨b,rq,rc,wq,wc,s1,s2,rfl,ax,bn,rfl⟩,rfl⟩;rw [G];refine Zm Y<|Zd Y V<|Zd Y V<|Zd Y V<|Za Y<|Za Y<|B2 Y<|Zn [0,3,5,6,7] ?_;refine Zx<|B8 Y<|Zv (Bo Y)<|A4<|AY Y (fun g=>by cases g)<|fun g=>B3<|AK Y<|Zp Y rfl<|Zh 4 Gk rfl rfl T5 Y<|Zl Sh Y<|Zm Y<|Zo Wh (EO (EI GW (D:=fun _=>True)) Ss cA h.its.im (fun _ _=>trivial) (trivial) (⟨by rw [U];first|done|rfl,by rw [U];first|done|rfl⟩) Y Y)<|Zm Y<|Zd Y rfl<|Zd Y rfl<|Za Y<|B2 Y<|Zn [0,3,5,6,8,9] ?_;refine Zx<|Zq<|AQ<|Zq<|Ay (n:=12) (0::1::3::7::15::31::63::3::131::511::1023::2047::[]) 0 AD AD V<|A1 0 V (AP Y)<|A1 1 V (AP Y)<|DK (t:=36) Y (fun I=>?_) (fun I=>?_);·
  rw [I];refine B4 2 V (AP Y)<|B4 3 V (Ao Y V)<|B4 4 V (AB (off:=0) LS V rfl I3 Y)<|B4 5 V (AB (off:=8) HF V rfl A6 Y)<|SN (D':=127) 6 Y V rfl V (FN Wo (O)) (BK AE Y B1) ?_;refine B4 7 V (AB (off:=8) HF V rfl A6 Y)<|FF 8 V Wh (BK AE Y B1)<|B4 9 V (Ga Y Y)<|A1 10 V (AU Y Y)<|A1 11 V (BC Y)<|Aq<|Zx<|Ak Y (fun h3=>?_) (fun h3=>?_);·
   refine A3<|B2 Y<|Zn [4] ?_;refine Zx<|AL<|Ag<|Zt<|AO V results11 Y (by exact ⟨V,V⟩)
  exfalso;omega
 rw [I];cases I
theorem FJ{P:Program}{f:FuncId}{args:AN}{H H1:Hp}{Q m:A2->Hp->Prop}(h:BS P f args H Q)(R:List A8)(K:H1.flatten.Perm (H.flatten++R))(O:∀v H',Q v H'->∃g,m v g/\g.flatten.Perm (H'.flatten++R)):BS P f args H1 m:=fun u B w U=>by
 have G:Sat u (H++([R]++B)) w:=U.perm (by
  simp only [HW,D2,H4,E7];rw [<-DH];exact K.append_right _)
 refine (h u ([R]++B) w G).mono ?_;rintro e X (⟨v,H',rfl,h2,h3⟩|⟨_,_,_,h,_⟩)
 · obtain ⟨g,I,J⟩:=O v H' h2
   refine .inl ⟨v,g,V,I,h3.perm ?_⟩;simp only [HW,D2,H4,E7];rw [<-DH];exact J.symm.append_right _
 · exact h.elim
theorem jf{cp r ip mi mk mq:Nat}{wv:A2}{next:Int}{esQ:Array MapEntry}{ckQ:Nat}{lmQ:List (Int×A2)}{lv:A2}{ML:List A8}{esI:Array MapEntry}{ckI:Nat}{lmI:List (CA×A2)}{esK:Array MapEntry}{ckK:Nat}{lmK:List (Int×A2)}{SI:List A8}(h:GV its next esQ ckQ lmQ lv ML esI ckI lmI esK ckK lmK SI)(K:CA):BS prog 38 #[I5 cp,.string K] [[(cp,.cells #[I4 pos,wv,I5 r,I5 ip,.map (some mi),.map (some mk),I4 next] 110 (0,0))],[(ip,.cells #[.map (some mq),lv] 200 (0,0))],[(mq,.map esQ ckQ)],[(mi,.map esI ckI)],[(mk,.map esK ckK)],SI] (fun v H'=>∃af ax J B Z G g U I m X,(∃b,v= .bool b)/\GV (its.filter fun y=>y.key≠K) next J B Z af ax G g U I m X SI/\H'=[[(cp,.cells #[I4 pos,wv,I5 r,I5 ip,.map (some mi),.map (some mk),I4 next] 110 (0,0))],[(ip,.cells #[.map (some mq),af] 200 (0,0))],[(mq,.map J B)],[(mi,.map G g)],[(mk,.map I m)],SI]):=by
 by_cases hx:∃x∈its,x.key=K
 · obtain ⟨x,hx,rfl⟩:=hx
   refine (XI h hx).mono ?_;rintro v H' ⟨rfl,e1,e2,e3,e4,e5,e6,e7,e8,e9,h1,rfl⟩;exact ⟨_,_,e1,e2,e3,e4,e5,e6,e7,e8,e9,⟨_,V⟩,h1,V⟩
 · have O:∀y∈its,y.key≠K:=fun y hy hk=>hx ⟨y,hy,hk⟩
   refine FJ (qZ (cp:=cp) (r:=r) (ip:=ip) (mi:=mi) (mk:=mk) (pos:=pos) (wv:=wv) h O) (([(ip,.cells #[.map (some mq),lv] 200 (0,0))]:List A8)++([(mq,.map esQ ckQ)]:List A8)++([(mk,.map esK ckK)]:List A8)++(SI:List A8)++[]) (CR fun f hf=>by simp only [D2,H4,E7,hf]<;>omega) ?_;rintro v H' ⟨rfl,rfl⟩;exact ⟨_,⟨lv,ML,_,_,_,_,_,_,_,_,_,⟨_,rfl⟩,by rw [dP O];exact h,rfl⟩,CR fun f hf=>by simp only [D2,H4,E7,hf]<;>omega⟩
theorem vI{z:Bi}{ns:Nat}{L:List Br}{mb:Nat}{es:Array MapEntry}{ck:Nat}{lm:List (CA×A2)}{su:List A8}(g:Dk z ns L mb es ck lm su)(hd:z.bl.Nodup)(U:k<ns){sz:Int}(J:1<=sz)(af:sz<=z.fr)(K:CA):BS prog 36 #[.pointer (some ⟨z.r,0,none⟩),I4 (k:Int),.string K,I4 sz] [z.S,[(mb,.map es ck)],su] (fun v H'=>v= .tuple #[.slice none 0 0,.bool true]/\∃X G B ax O b,X.r=z.r/\X.cs=z.cs/\Dk X ns ((L.filter fun e=>e.key≠K)++[⟨b,K,(k:Int),sz⟩]) mb G B ax O/\H'=[X.S,[(mb,.map G B)],O]):=by
 by_cases hx:∃y∈L,y.key=K
 · obtain ⟨y,hy,rfl⟩:=hx
   have bn:=g.size hy;obtain ⟨L1,L2,rfl⟩:=WA hy;have m:=g.keys
   rw [CN,Fc,HX,LI]at m;have e1:((L1++y::L2).filter fun e=>e.key≠y.key)=L1++L2:=by
    rw [L7,kl B7,eW.2 fun x hx=>DE (m.2.2 _ (Fk hx) _ (Fo ..)),eW.2 fun x hx=>DE (show x.key≠y.key from fun hh=>m.2.1.1 (hh▸Fk hx))]
   rw [e1];exact vD g hd U J A0
 · have I:∀e∈L,e.key≠K:=fun e Z U=>hx ⟨e,Z,U⟩
   rw [eW.2 fun e Z=>DE (I e Z)];exact vE g hd U J af I
set_option maxHeartbeats 1000000 in
theorem vC(h:c.ok)(B:BH q)(hk:k<c.ns)(sO:k<=1000000)(base:Int)(hb:0<=base/\base<=10000)(hL:FV ME (.slice pg L.length cg) L)(j5:L.length<=1000000)(U:∀x∈L,x.fits)(gm:EJ q L=some r0)(pz:(c.pos -base).toNat<=c.win.length)(I:(BI q r0 base (Dj c.pos base c.win)).2.2=true)(vo:c.next<1000000000)(pq:∀x∈c.its,x.key=(str (DI q))->x.base<base)(zb:c.its.length<500)(gy:(1+((BI q r0 base (Dj c.pos base c.win)).1.rows.length:Int))<=c.z.fr)(Tp:AM)(zp:Nat×Nat):BS prog 11 #[.pointer (some ⟨c.cp,0,none⟩),.agg #[I4 q.kd,I4 q.tb,I4 q.cl,I4 q.lo,I4 q.hi,I4 q.bq,I4 q.ot,I4 (k:Int),I4 base,.slice pg L.length cg]] [[(c.cp,.cells #[I4 c.pos,.slice c.wq c.win.length c.wc,.pointer (some ⟨c.z.r,0,none⟩),.pointer (some ⟨c.ip,0,none⟩),.map (some c.mi),.map (some c.mkb),I4 c.next] 110 (0,0))],c.sW,c.z.S,[(c.mb,.map c.esP c.ckP)],c.su,[(c.ip,.cells #[.map (some c.mq),c.lv] 200 (0,0))],[(c.mq,.map c.esQ c.ckQ)],c.ML,[(c.mi,.map c.esI c.ckI)],[(c.mkb,.map c.esK c.ckK)],c.SI,c.M,c.MR,ME,[(3,.cells (Lib.pow10Tab.map fun z=>Value.int .u64 z).toArray Tp zp)]] (fun w H'=>w= .bool true/\∃(d:CZ) (b:Nat) (rq wq:BE) (rc wc:Nat) (s:List A8) (tn:Int),((tn=(k:Int)/\∀y∈c.its,y.key≠(str (DI q)))\/∃x∈c.its,x.key=(str (DI q))/\tn=x.tn)/\d.ok/\c.like d/\d.next=c.next+1/\d.M=s++c.M/\d.its=(c.its.filter fun y=>y.key≠(str (DI q)))++[(NY b (c.next+1) q tn base rq rc L (BI q r0 base (Dj c.pos base c.win)) wq wc)]/\(∀e∈d.PL,e∈c.PL\/e.sz=(1+((BI q r0 base (Dj c.pos base c.win)).1.rows.length:Int)))/\H'=[[(d.cp,.cells #[I4 d.pos,.slice d.wq d.win.length d.wc,.pointer (some ⟨d.z.r,0,none⟩),.pointer (some ⟨d.ip,0,none⟩),.map (some d.mi),.map (some d.mkb),I4 d.next] 110 (0,0))],d.sW,d.z.S,[(d.mb,.map d.esP d.ckP)],d.su,[(d.ip,.cells #[.map (some d.mq),d.lv] 200 (0,0))],[(d.mq,.map d.esQ d.ckQ)],d.ML,[(d.mi,.map d.esI d.ckI)],[(d.mkb,.map d.esK d.ckK)],d.SI,d.M,d.MR,ME,[(3,.cells (Lib.pow10Tab.map fun z=>Value.int .u64 z).toArray Tp zp)]]):=by
 have p8:=h.its.len_eq.length_eq;rw [Bk,Bk]at p8;have zh:=Tl (fun y:ItM=>decide (y.key≠(str (DI q)))) c.its
 have vz:(BI q r0 base (Dj c.pos base c.win)).1.rows.length<=1000000:=by
  obtain ⟨_,wo,wz⟩:=PR gm;have zk:=h.wl
  have zi:(Dj c.pos base c.win).length<=64:=by unfold Dj;rw [Cp];omega
  have G:=SK _ 0 (r0,base) _ 1000000000000000000 200 (Tc I) (fun y hy=>by have:=Sk h.tookb (r:=y) (MT hy);omega) wz B0 wo;have zf:(BI q r0 base (Dj c.pos base c.win)).1.rows.length<=_:=G.2
  omega
 refine Se func11 ntmps11 [0,1] ?_;intro u R;refine A3<|Ze (Bx #[I4 q.kd,I4 q.tb,I4 q.cl,I4 q.lo,I4 q.hi,I4 q.bq,I4 q.ot,I4 (k:Int),I4 base,.slice pg L.length cg])<|AF fun be=>AH Y<|B8 Y<|Zv (Bb Sx Y Y)<|A4<|AY Y (fun l8=>by cases l8)<|fun l8=>B3<|AK Y<|Zo Wh (A9 (cs:=#[I4 q.kd,I4 q.tb,I4 q.cl,I4 q.lo,I4 q.hi,I4 q.bq,I4 q.ot,I4 (k:Int),I4 base,.slice pg L.length cg]) ZD I3 Y Wn (Az V))<|Zc [_,_] Y call35 Y V (YC h B (k:Int) base hb hL j5 U gm pz Tp zp) ?_;rintro _ _ ⟨_,⟨b,rq,rc,wq,wc,s1,s2,rfl,sJ,sM,rfl⟩,rfl⟩;rw [I];refine Zm Y<|Zd Y V<|Zd Y V<|Zd Y V<|Za Y<|Za Y<|B2 Y<|Zn [0,3,5,6,7] ?_;refine Zx<|B8 Y<|Zv (Bo Y)<|A4<|AY Y (fun kv=>by cases kv)<|fun kv=>B3<|AK Y<|Zp Y V<|Zh 4 Gk V rfl T5 Y<|Zl Sh Y<|Zm Y<|Zo Wh (EO (EI GW (D:=fun _=>True)) Ss cA h.its.im (fun _ _=>trivial) (trivial) (⟨V,V⟩) Y Y)<|Zm Y<|Zd Y V<|Zd Y V<|Za Y<|B2 Y<|Zn [0,3,5,6,8,9] ?_;refine Zx<|Zb [3,8,9,0,5,6] ?_;refine CP (e0:=[(3,_),(8,_),(9,_)]) (H0:=[[(b,.cells #[I4 q.kd,I4 q.tb,I4 q.cl,I4 q.lo,I4 q.hi,I4 q.bq,I4 q.ot,I4 (k:Int),I4 base,.slice rq L.length rc,I4 0,.slice wq (BI q r0 base (Dj c.pos base c.win)).1.rows.length wc,I4 (BI q r0 base (Dj c.pos base c.win)).1.val,.bool (BI q r0 base (Dj c.pos base c.win)).1.fnd,I4 (BI q r0 base (Dj c.pos base c.win)).2.1] 116 (0,0))]]) (fun e H=>∃(k9:Nat),((((k9:Int)=(k:Int)/\∀y∈c.its,y.key≠(str (DI q)))\/∃x∈c.its,x.key=(str (DI q))/\(k9:Int)=x.tn)/\k9<c.ns/\k9<=1000000)/\e=[]/\H=[[(b,.cells #[I4 q.kd,I4 q.tb,I4 q.cl,I4 q.lo,I4 q.hi,I4 q.bq,I4 q.ot,I4 (k9:Int),I4 base,.slice rq L.length rc,I4 0,.slice wq (BI q r0 base (Dj c.pos base c.win)).1.rows.length wc,I4 (BI q r0 base (Dj c.pos base c.win)).1.val,.bool (BI q r0 base (Dj c.pos base c.win)).1.fnd,I4 (BI q r0 base (Dj c.pos base c.win)).2.1] 116 (0,0))]]) Wp ?hx_1 ?hy_1
 case hx_1=>
  refine AQ<|Zq<|Ay (n:=12) (0::1::3::7::15::31::63::3::131::511::1023::2047::[]) 0 AD AD V<|A1 0 V (AP Y)<|A1 1 V (AP Y)<|DK (t:=36) Y (fun g1=>?_) (fun g1=>?_);·
   rw [g1];obtain ⟨x,hx,gQ⟩:∃x∈c.its,x.key=(str (DI q)):=by
    refine Wg fun G=>?_;rw [h.its.none fun y hy hk=>G ⟨y,hy,hk⟩]at g1;cases g1
   have hg:=h.its.get hx;rw [gQ]at hg;rw [hg];have zl:=pq x hx gQ
   have qb:=h.all x hx;have zm:=h.tns x hx
   obtain ⟨k2,o9⟩:∃k2:Nat,x.tn=(k2:Int):=⟨x.tn.toNat,by have:=qb.tn;omega⟩;have l9:(x.b,Obj.cells #[I4 x.q.kd,I4 x.q.tb,I4 x.q.cl,I4 x.q.lo,I4 x.q.hi,I4 x.q.bq,I4 x.q.ot,I4 x.tn,I4 x.base,.slice x.rq x.L.length x.rc,I4 x.id,.slice x.wq x.res.rows.length x.wc,I4 x.res.val,.bool x.res.fnd,I4 x.since] 116 (0,0))∈c.SI:=h.its.sub x hx
   refine B4 2 V (AP Y)<|B4 3 V (Ao Y V)<|B4 4 V (AB (off:=0) LS V rfl I3 Y)<|B4 5 V (AB (off:=8) HF V rfl A6 Y)<|SN (D':=127) 6 Y V rfl V (FN Wo (l9)) (BK AE Y B1) ?_;refine B4 7 V (AB (off:=8) HF V rfl A6 Y)<|FF 8 V Wh (BK AE Y B1)<|B4 9 V (Ga Y Y)<|A1 10 V (AU Y Y)<|A1 11 V (BC Y)<|Aq<|Zx<|Ak Y (fun h3=>by omega)<|fun h3=>AK Y<|B2 Y<|Zn [0,5,6,8,46] ?_;refine Zx<|AY Y (fun J=>?_) (fun J=>?_);·
    refine Zg<|Zm Y<|Zm Y<|Zp Y V<|Zh 0 LS V rfl I3 Y<|Zh 7 HF V rfl A6 Y<|Bu (HY Wo (l9)) (BK AE Y B1) V rfl<|Zp Y V<|Zh 0 LS V rfl I3 Y<|Zh 7 HF V rfl A6 Y<|Xe (Zs A6 Y Y V (hi:=by(simp;done)))<|Z0<|AA<|HB (e:=[]) (h:=by exact ⟨k2,⟨.inr ⟨x,hx,gQ,o9.symm⟩,by omega,by have:=qb.tn;omega⟩,rfl,by rw [<-o9]⟩)
   cases J
  rw [g1];have ve:∀y∈c.its,y.key≠(str (DI q)):=fun y hy hk=>by
   have hg:=h.its.get hy;rw [hk]at hg;rw [hg]at g1;cases g1
  refine AW 2 V<|AW 3 V<|AW 4 V<|AW 5 V<|AW 6 V<|AW 7 V<|AW 8 V<|AW 9 V<|A1 10 V (AJ Y Y)<|A1 11 V (BC Y)<|Aq<|Zx<|Df Y<|AK Y<|B2 Y<|Zn [0,5,6,8,46] ?_;refine Zx<|AY Y (fun J=>by cases J)<|fun J=>AK Y<|Zp Y V<|Zh 4 Gk V rfl T5 Y<|Zl Sh Y<|Zo Wh (Qt Ss h.its.im Y)<|Zv (Ef (n:=500) Y Y)<|AH Y<|Ak Y (fun h5=>by omega)<|fun h5=>AC<|AA<|Hh (by exact ⟨k,⟨.inl ⟨V,ve⟩,hk,sO⟩,V,V⟩)
 rintro _ _ ⟨k9,⟨qa,sQ,za⟩,rfl,rfl⟩;refine Ht (s:=c.z.S) Wo (fun hd=>?_);rw [Bi.keys]at hd;refine Zq<|Ay (n:=21) (0::1::3::7::0::16::48::112::240::0::0::1024::3072::7168::15360::32767::65535::131071::131071::262143::1048575::[]) 49152 AD AD V<|A1 0 V (AP Y)<|A1 1 V (Ao Y V)<|A1 2 V (AB (off:=2) Gk V rfl sizeOf102 Y)<|Bm 3 V Ly Y<|A1 4 V (AP Y)<|A1 5 V (Ao Y V)<|A1 6 V (AB (off:=0) LS V rfl I3 Y)<|A1 7 V (AB (off:=7) HF V rfl A6 Y)<|Bm 8 V AE Y<|A1 9 V (AP Y)<|A1 10 V (AP Y)<|A1 11 V (Ao Y V)<|A1 12 V (AB (off:=11) LS V rfl C5 Y)<|G3 13 V Wh (A9 (cs:=#[_,_,_]) EV C5 Y B5 (by exact (by apply J0.1;rfl)))<|Yz 14 15360 32767 [13,8,3] [false,true,true] [(8,(_,_)),(3,(_,_))] V Y V rfl V rfl (Zu [_] Y call37 Y V (ji wq (BI q r0 base (Dj c.pos base c.win)).1.rows.length wc (I4 (BI q r0 base (Dj c.pos base c.win)).1.val) (.bool (BI q r0 base (Dj c.pos base c.win)).1.fnd) ⟨V,V⟩ ⟨V,V⟩ vz))<|F0<|C3<|Zz (l:=[15])<|BW [false,false] [] V rfl (Zw [_,_,_,_] Y call36 Y V (vI h.pool hd sQ A0 gy (str (DI q)))) ?_ Bv Aj;rintro _ _ ⟨_,⟨rfl,z2,ep2,cp2,lp2,su2,bp,vw,cO,p9,rfl⟩,rfl⟩;refine C3<|A1 16 V (AP Y)<|A1 17 V (C9 Y V)<|A1 18 V (C9 Y V)<|A1 19 V (BC Y)<|A1 20 V (BC Y)<|Aq<|Zn [0,5,6,10,11] ?_;refine Zx<|B8 Y<|Zv (Bo Y)<|A4<|AY Y (fun l5=>by cases l5)<|fun l5=>B3<|Zq<|Zq<|Bc<|Zg<|Zm Y<|Zm Y<|Ze (Ah (vs:=[_]) (cs:=[_]) DO FG I2 Y V rfl V rfl V)<|AF fun ga=>Ze (F8 (by_:=16) (news:=[_]) DO (V:Tryz.prog.info? 9=some Tryz.t9) V rfl V rfl Y (Gg 9) Y Wo Wh B1 V HO B0 B0 B0) ?_;rintro _ _ ⟨sq,q9,rfl⟩;obtain ⟨gq,cq,rfl⟩:=q9.form;rcases q9 with⟨_,h0,_⟩|⟨gq2,capq,curq,zq,hvq,rfl,hleq,hcmq,hcsq,htkq,hfrq⟩
 · cases h0
 injection hvq with hv1 hv2 hv3
 subst hv1 hv3;have o8:curq[0]?=some (.string (str (DI q))):=by
  have h:=congrArg (fun l=>l[0]?) htkq;simpa using h
 refine Zv (AR DO Y)<|Zm Y<|A4<|AQ<|Zb [90,0,5,6,88,89] ?_;refine Aw (e0:=[(90,_)]) (fun m e H=>∃(i:Nat) (ic:A2) (j3:List A8) (cu:Array MapEntry) (af:Nat) (ql:List (Int×A2)) (ax:Array MapEntry) (X:Nat) (qh:List (CA×A2)) (bn:Array MapEntry) (Z:Nat) (qj:List (Int×A2)),m=1 -i/\(i<=1/\GV (if i=0 then c.its else(c.its.filter fun y=>y.key≠(str (DI q)))) c.next cu af ql ic j3 ax X qh bn Z qj c.SI)/\e=[(90,I4 (i:Int))]/\H=[[(c.ip,.cells #[.map (some c.mq),ic] 200 (0,0))],[(c.mq,.map cu af)],[(c.mi,.map ax X)],[(c.mkb,.map bn Z)]]) (by exact ⟨0,c.lv,c.ML,c.esQ,c.ckQ,c.lmQ,c.esI,c.ckI,c.lmI,c.esK,c.ckK,c.lmK,V,⟨by decide,h.its⟩,V,V⟩) Wp ?_;rintro _ _ _ ⟨i,ic,j3,cu,af,ql,ax,X,qh,bn,Z,qj,rfl,⟨hi,g⟩,rfl,rfl⟩;refine Zq<|Bc<|Zg<|Zv (Ap Y Y)<|A4<|Zq<|Ak Y (fun O=>?_) (fun O=>?_);·
  obtain rfl:i=0:=by simp at O;omega
  rw [Ax rfl]at g;refine B3<|Zq<|AQ<|Zq<|Bc<|Zg<|BX (Bd DO FG Y Y (by first|omega|decide|(simp;done)|(simp at O⊢;omega)))<|Zl H3 Y (hv:=by exact o8)<|AH Y<|Zg<|Zm Y<|Zm Y<|Zc [_,_] Y call38 Y rfl (jf g (str (DI q))) ?_;rintro _ _ ⟨_,⟨yt,qo,sw,qz,y9,r9,qw,x9,sj,qx,y5,⟨b6,rfl⟩,ek,rfl⟩,rfl⟩;refine Z0<|AA<|Zx<|Bc<|Dg Y Y Y<|DG (e:=[(90,_)]) (h:=by exact ⟨1,yt,qo,sw,qz,y9,r9,qw,x9,sj,qx,y5,rfl,⟨by decide,by rw [As B0];exact ek⟩,rfl,rfl⟩)
 obtain rfl:i=1:=by simp at O;omega
 rw [As B0]at g;refine BA<|Zt<|Zt<|AX<|Zx<|AK Y<|Zm Y<|Zm Y<|Zc [_,_,_] Y call39 Y V (VK g (x:=(NY b (c.next+1) q (k9:Int) base rq rc L (BI q r0 base (Dj c.pos base c.win)) wq wc)) (fun y hy=>IH (GF.1 hy).2) V vo A0 B) ?_;rintro _ _ ⟨_,⟨rfl,eq5,cq5,lq5,ei5,ci5,li5,ek5,ck5,lk5,d9,rfl⟩,rfl⟩;refine A4<|Zq<|Cc (s1:=s2) (s2:=c.MR) Wo Wo ?_;refine Cc (s1:=s1) (s2:=c.M) Wo Wo ?_;refine Zg<|An Y<|AO V results11 Y (by
  refine ⟨V,({c with z:=z2,PL:=(c.PL.filter fun e=>e.key≠(str (DI q)))++[⟨bp,(str (DI q)),(k9:Int),(1+((BI q r0 base (Dj c.pos base c.win)).1.rows.length:Int))⟩],esP:=ep2,ckP:=cp2,lmP:=lp2,su:=su2,next:=c.next+1,its:=(c.its.filter fun y=>y.key≠(str (DI q)))++[(NY b (c.next+1) q (k9:Int) base rq rc L (BI q r0 base (Dj c.pos base c.win)) wq wc)],esQ:=eq5,ckQ:=cq5,lmQ:=lq5,lv:= .pointer none,ML:=[],esI:=ei5,ckI:=ci5,lmI:=li5,esK:=ek5,ckK:=ck5,lmK:=lk5,SI:=c.SI++[(NY b (c.next+1) q (k9:Int) base rq rc L (BI q r0 base (Dj c.pos base c.win)) wq wc).ch],M:=s1++c.M,MR:=s2++c.MR}:CZ),b,rq,wq,rc,wc,s1,(k9:Int),qa,⟨⟨h.pos,h.win,h.wl,ko h.tookb (fun q B=>by simp [B]),p9,xW (fun K=>?_) _ _ V,d9,fun y hy=>?_⟩,fun y hy=>?_⟩,⟨V,V,V,V,cO⟩,V,V,V,fun e he=>?_,?_⟩
  · have G:=h.pk K
    simp only [CI,GF,HA]at G⊢;exact ⟨fun⟨e,⟨h1,h2⟩,h3⟩=>by obtain ⟨y,J,h5⟩:=G.1 ⟨e,h1,h3⟩;exact ⟨y,⟨J,by rw [h5,<-h3];exact h2⟩,h5⟩,fun⟨y,⟨h1,h2⟩,h3⟩=>by obtain ⟨e,J,h5⟩:=G.2 ⟨y,h1,h3⟩;exact ⟨e,⟨J,by rw [h5,<-h3];exact h2⟩,h5⟩⟩
  · rcases CD.1 hy with hy|hy
    · exact h.tns y (GF.1 hy).1
    · rw [CH.1 hy];simp only [NY];omega
  · rcases CD.1 hy with hy|hy
    · exact (h.all y (GF.1 hy).1).mono (fun q B=>by simp [B]) (fun q B=>by simp [B])
    · rw [CH.1 hy];exact jA B ⟨by omega,by omega⟩ hb j5 U gm pz I (sJ.mono fun q B=>by simp [B]) (sM.mono fun q B=>by simp [B])
  · rcases CD.1 he with G|G
    · exact .inl (GF.1 G).1
    · exact .inr (by rw [CH.1 G])
  · simp only [vw];rfl)
variable{s:List A8}
theorem Vw{b:Nat}{o o':Obj}(h:(b,o)∈s):(b,o')∈JQ b o' s:=CI.2 ⟨_,h,Ax rfl⟩
theorem nK(b:Nat)(o o':Obj)(s:List A8):JQ b o' (JQ b o s)=JQ b o' s:=by
 unfold JQ;rw [Mn];refine cD fun p _=>?_;show(if(if p.1=b then(b,o)else p).1=b then(b,o')else(if p.1=b then(b,o)else p))=if p.1=b then(b,o')else p
 by_cases h:p.1=b
 · simp only [Ax h,KK]
 · simp only [As h]
def ItM.upd(x:ItM)(p:Int)(cs:List Chg)(wq:BE)(wc:Nat):ItM:={x with res:=(Bf x.q x.res cs).1,wq:=wq,wc:=wc,since:=p}
structure ItM.live(MR:List A8)(x:ItM):Prop where
 q:BH x.q
 rw:Dp MR (.slice x.wq x.res.rows.length x.wc) x.res.rows
 wn:x.res.rows.length<=10000000
 wv:-2000000000000000000<=x.res.val/\x.res.val<=2000000000000000000
theorem ItM.ok.live(h:c.okb)(hx:x.ok c.M c.MR c.pos c.win):x.live c.MR:=by
 obtain ⟨r0,m,g⟩:=hx.run;obtain ⟨_,B,G⟩:=PR m;have U:=h.wl
 have O:(Dj c.pos x.base c.win).length<=64:=by unfold Dj;rw [Cp];omega
 have I:=SK _ 0 (r0,x.base) _ 1000000000000000000 200 g (fun y hy=>by have:=Sk h (r:=y) (MT hy);omega) G B0 B;have J:x.res.rows.length<=_:=I.2
 have K:_<=x.res.val/\x.res.val<=_:=I.1;exact ⟨hx.q,hx.rw,by omega,by omega,by omega⟩
variable{qa:BE}{cap:Nat}{cs:List Chg}{tl:List CA}{tv:A2}{st:List A8}
set_option maxHeartbeats 1000000 in
theorem sU(h:d.okb)(hx:x∈d.its)(G:x.live d.MR)(p:Int)(hC:CL ME (.slice qa cs.length cap) cs)(X:cs.length<=1000)(I:(Bf x.q x.res cs).2.2=true)(hT:Row 9 tv (tl.map Value.string) st)(gy:tl.length<=1000000)(bt br bc:Nat):BS prog 45 #[.string x.key,.pointer (some ⟨x.b,0,none⟩),I5 bt,I5 br,I5 bc] [[(bt,.cells #[tv] 50 (0,0))],[(br,.cells #[I4 p,.slice qa cs.length cap] 55 (0,0))],[(bc,.cells #[.pointer (some ⟨d.cp,0,none⟩)] 35 (0,0))],st,[(d.cp,.cells d.BM8 110 (0,0))],d.sW,d.z.S,[(d.mb,.map d.esP d.ckP)],d.su,[(d.ip,.cells #[.map (some d.mq),d.lv] 200 (0,0))],[(d.mq,.map d.esQ d.ckQ)],d.ML,[(d.mi,.map d.esI d.ckI)],[(d.mkb,.map d.esK d.ckK)],d.SI,d.M,d.MR,ME] (fun v H'=>v=undef/\∃wq wc af Z s,Row 9 af ((tl++[x.key]).map Value.string) Z/\Dp s (.slice wq (Bf x.q x.res cs).1.rows.length wc) (Bf x.q x.res cs).1.rows/\(d.SI.map (·.1)).Nodup/\H'=[[(bt,.cells #[af] 50 (0,0))],[(br,.cells #[I4 p,.slice qa cs.length cap] 55 (0,0))],[(bc,.cells #[.pointer (some ⟨d.cp,0,none⟩)] 35 (0,0))],Z,[(d.cp,.cells d.BM8 110 (0,0))],d.sW,d.z.S,[(d.mb,.map d.esP d.ckP)],d.su,[(d.ip,.cells #[.map (some d.mq),d.lv] 200 (0,0))],[(d.mq,.map d.esQ d.ckQ)],d.ML,[(d.mi,.map d.esI d.ckI)],[(d.mkb,.map d.esK d.ckK)],JQ x.b (x.upd p cs wq wc).obj d.SI,d.M,s++d.MR,ME]):=by
 have gq:=mL;have m:(x.b,Obj.cells x.BM7 116 (0,0))∈d.SI:=h.its.sub x hx
 obtain ⟨gt,ct,rfl⟩:=hT.form;refine Se func45 ntmps45 [0,1,2,3,4] ?_;intro u R;refine Zq<|Ht (s:=d.SI) Wo (fun cu=>?_);refine Zg<|Zl ID Y<|Zm Y<|Ze (Ah (vs:=[_]) (cs:=[_]) DO FG I2 Y V rfl V rfl V)<|AF fun gb=>Ze (F8 (by_:=16) (news:=[_]) DO (V:Tryz.prog.info? 9=some Tryz.t9) V rfl V rfl Y hT Y Wo Wh B1 V HO B0 (by(simp only [Bk];omega)) (by(simp only [Bk];omega))) ?_;rintro _ _ ⟨d9,J,rfl⟩;obtain ⟨gm,ek,rfl⟩:=J.form;refine Xe (Zs Hc Y Y V)<|A4<|Zq<|Ay (n:=19) (0::1::3::7::15::0::32::96::224::0::1023::2047::4095::4095::4095::0::40959::114687::262143::[]) 99328 AD AD V<|A1 0 V (AP Y)<|A1 1 V (Ao Y V)<|A1 2 V (AB (off:=0) LS V rfl I3 Y)<|A1 3 V (Ar (off:=0) HF V rfl D4 Y)<|Cn (D':=31) 4 V rfl V (FN Wo (m)) (A9 (cs:=#[_,_,_,_,_,_,_]) Fm D4 Y B5 (by exact (by apply J0.1;rfl))) ?_;refine A1 5 V (AP Y)<|A1 6 V (Ao Y V)<|A1 7 V (AB (off:=11) LS V rfl C5 Y)<|Cn (D':=511) 8 V rfl V (FN Wo (m)) (A9 (cs:=#[_,_,_]) EV C5 Y B5 (by exact (by apply J0.1;rfl))) ?_;refine G3 9 V Wh (A9 (cs:=#[_,_]) HN E0 Y B5 (Az V))<|Zz (l:=[10,15])<|BW [false,false,false] [] V rfl (Zw [_,_,_] Y call46 Y V (Je x.q G.q p qa cap cs hC X G.rw G.wn G.wv)) ?hk_1 Bv ?hl_1
 case' hk_1=>
  rintro _ _ ⟨_,⟨cO,s3,rfl,g,rfl⟩,rfl⟩;refine ⟨Ab,?_⟩;obtain ⟨K,B,rfl⟩:=g.form;rw [I];refine A1 11 V (AP Y)<|A1 12 V (C9 Y V)<|A1 13 V (C9 Y V)<|A1 14 V (C9 Y V)<|Zz (l:=[15])<|BW [] [] V rfl (Al HS #[_,_,_]) ?hk_2 (fun _ _ h=>h.elim) ?hl_2
  case' hk_2=>
   rintro _ _ ⟨bn,rfl,rfl⟩;refine C3<|Yz 16 40959 131071 [] [] [] V Y V rfl V rfl (Xw C5 #[.slice K (Bf x.q x.res cs).1.rows.length B,I4 (Bf x.q x.res cs).1.val,.bool (Bf x.q x.res cs).1.fnd]) ?_
  case' hl_2=>
   exact Aj
 case' hl_1=>
  refine BW [true,true,true] [(9,(_,_)),(8,(_,_)),(4,(_,_))] V rfl (Al HS #[_,_,_]) ?hk_7 (fun _ _ h=>h.elim) ?hl_7
  case' hk_7=>
   rintro _ _ ⟨bn,rfl,rfl⟩;refine ⟨Zk (FP (by simp [*]) (FP (by simp [*]) (Ab))),?_⟩;refine Zz (l:=[10])<|BW [false,false,false] [] V rfl (Zw [_,_,_] Y call46 Y V (Je x.q G.q p qa cap cs hC X G.rw G.wn G.wv)) ?hk_8 Bv ?hl_8
   case' hk_8=>
    rintro _ _ ⟨_,⟨cO,s3,rfl,g,rfl⟩,rfl⟩;refine ⟨Ab,?_⟩;obtain ⟨K,B,rfl⟩:=g.form;rw [I];refine A1 11 V (AP Y)<|A1 12 V (C9 Y V)<|A1 13 V (C9 Y V)<|A1 14 V (C9 Y V)<|Zz (l:=[16])<|BW [] [] V rfl (Xw C5 #[.slice K (Bf x.q x.res cs).1.rows.length B,I4 (Bf x.q x.res cs).1.val,.bool (Bf x.q x.res cs).1.fnd]) ?hk_9 (fun _ _ h=>h.elim) ?hl_9
    case' hl_9=>
     exact Aj
   case' hl_8=>
    exact Aj
  case' hl_7=>
   exact Aj
 all_goals
  rintro _ _ ⟨rfl,rfl⟩;refine C3<|A1 17 V (BC Y)<|A1 18 V (BC Y)<|Aq<|Zn [0,1,3,4,7,9] ?_;refine Zx<|B8 Y<|Zv (Bo Y)<|A4<|AY Y (fun O=>by cases O)<|fun O=>AC<|Zx ?_;have ax:=Qc g
  have U:(x.b,Obj.cells #[I4 x.q.kd,I4 x.q.tb,I4 x.q.cl,I4 x.q.lo,I4 x.q.hi,I4 x.q.bq,I4 x.q.ot,I4 x.tn,I4 x.base,.slice x.rq x.L.length x.rc,I4 x.id,.slice K (Bf x.q x.res cs).1.rows.length B,I4 (Bf x.q x.res cs).1.val,.bool (Bf x.q x.res cs).1.fnd,I4 x.since] 116 (0,0))∈JQ x.b (.cells #[I4 x.q.kd,I4 x.q.tb,I4 x.q.cl,I4 x.q.lo,I4 x.q.hi,I4 x.q.bq,I4 x.q.ot,I4 x.tn,I4 x.base,.slice x.rq x.L.length x.rc,I4 x.id,.slice K (Bf x.q x.res cs).1.rows.length B,I4 (Bf x.q x.res cs).1.val,.bool (Bf x.q x.res cs).1.fnd,I4 x.since] 116 (0,0)) d.SI:=Vw m;refine Cc (s1:=s3) (s2:=d.MR) Wo Wo ?_;refine Ay (n:=11) (0::0::0::0::8::5::37::101::255::511::1023::[]) 1152 AD AD rfl<|A1 0 rfl (AP Y)<|A1 1 rfl (AP Y)<|G3 2 rfl Wh (A9 (cs:=#[_,_,_]) EV C5 Y B5 (Az rfl))<|A1 3 rfl (AB (off:=0) GS rfl rfl A6 Y)<|Bm 4 rfl AE Y<|A1 5 rfl (Ao Y rfl)<|A1 6 rfl (AB (off:=11) LS rfl rfl C5 Y)<|Zz (l:=[7])<|BW [true,false] [(4,(_,_))] rfl rfl (Xk C5 Y Y K0 Wo (m) (by exact congrArg (fun a=>JQ x.b (Obj.cells a 116 (0,0)) d.SI) (rfl:_=(#[I4 x.q.kd,I4 x.q.tb,I4 x.q.cl,I4 x.q.lo,I4 x.q.hi,I4 x.q.bq,I4 x.q.ot,I4 x.tn,I4 x.base,.slice x.rq x.L.length x.rc,I4 x.id,.slice K (Bf x.q x.res cs).1.rows.length B,I4 (Bf x.q x.res cs).1.val,.bool (Bf x.q x.res cs).1.fnd,I4 x.since]:AN))) G4 B5 (by exact BB _)) ?_ (fun _ _ h=>h.elim) Aj;rintro _ _ ⟨rfl,rfl⟩;refine C3<|A1 8 V (Ao Y V)<|A1 9 V (AB (off:=14) LS V rfl A6 Y)<|Zz (l:=[10])<|BW [false] [] V rfl (IZ A6 Y Y V Wo (U) (by exact (nK _ _ _ _).trans (congrArg (fun a=>JQ x.b (Obj.cells a 116 (0,0)) d.SI) (V:_=(#[I4 x.q.kd,I4 x.q.tb,I4 x.q.cl,I4 x.q.lo,I4 x.q.hi,I4 x.q.bq,I4 x.q.ot,I4 x.tn,I4 x.base,.slice x.rq x.L.length x.rc,I4 x.id,.slice K (Bf x.q x.res cs).1.rows.length B,I4 (Bf x.q x.res cs).1.val,.bool (Bf x.q x.res cs).1.fnd,I4 p]:AN)))) B5 (by exact BB _)) ?_ (fun _ _ h=>h.elim) Aj;rintro _ _ ⟨rfl,rfl⟩
  refine C3<|Aq<|DC rfl results45 (by exact ⟨rfl,K,B,_,d9,s3,(by rw [CN];exact J),Dl g ax,cu,rfl⟩)
set_option maxHeartbeats 1000000 in
theorem sV(h:d.okb)(hx:x∈d.its)(m:x.live d.MR)(p:Int)(hC:CL ME (.slice qa cs.length cap) cs)(K:cs.length<=1000)(B:(Bf x.q x.res cs).2.2=false)(hT:Row 9 tv (tl.map Value.string) st)(j5:tl.length<=1000000)(X U O:Nat):BS prog 45 #[.string x.key,.pointer (some ⟨x.b,0,none⟩),I5 X,I5 U,I5 O] [[(X,.cells #[tv] 50 (0,0))],[(U,.cells #[I4 p,.slice qa cs.length cap] 55 (0,0))],[(O,.cells #[.pointer (some ⟨d.cp,0,none⟩)] 35 (0,0))],st,[(d.cp,.cells d.BM8 110 (0,0))],d.sW,d.z.S,[(d.mb,.map d.esP d.ckP)],d.su,[(d.ip,.cells #[.map (some d.mq),d.lv] 200 (0,0))],[(d.mq,.map d.esQ d.ckQ)],d.ML,[(d.mi,.map d.esI d.ckI)],[(d.mkb,.map d.esK d.ckK)],d.SI,d.M,d.MR,ME] (fun v H'=>v=undef/\∃(d2:CZ) (tv':A2) (st':List A8),d2.okb/\d.like d2/\d2.next=d.next/\(d2.M=d.M/\d2.MR=d.MR)/\d2.SI=d.SI/\d2.its=(d.its.filter fun y=>y.key≠x.key)/\(∀e∈d2.PL,e∈d.PL)/\Row 9 tv' ((tl++[x.key]).map Value.string) st'/\H'=[[(X,.cells #[tv'] 50 (0,0))],[(U,.cells #[I4 p,.slice qa cs.length cap] 55 (0,0))],[(O,.cells #[.pointer (some ⟨d.cp,0,none⟩)] 35 (0,0))],st',[(d2.cp,.cells d2.BM8 110 (0,0))],d2.sW,d2.z.S,[(d2.mb,.map d2.esP d2.ckP)],d2.su,[(d2.ip,.cells #[.map (some d2.mq),d2.lv] 200 (0,0))],[(d2.mq,.map d2.esQ d2.ckQ)],d2.ML,[(d2.mi,.map d2.esI d2.ckI)],[(d2.mkb,.map d2.esK d2.ckK)],d2.SI,d2.M,d2.MR,ME]):=by
 have j3:=mL;have J:(x.b,Obj.cells x.BM7 116 (0,0))∈d.SI:=h.its.sub x hx
 obtain ⟨gt,ct,rfl⟩:=hT.form;refine Se func45 ntmps45 [0,1,2,3,4] ?_;intro u R;refine A3<|Zl ID Y<|Zm Y<|Ze (Ah (vs:=[_]) (cs:=[_]) DO FG I2 Y V rfl V rfl V)<|AF fun gb=>Ze (F8 (by_:=16) (news:=[_]) DO (V:Tryz.prog.info? 9=some Tryz.t9) V rfl V rfl Y hT Y Wo Wh B1 V HO B0 (by(simp only [Bk];omega)) (by(simp only [Bk];omega))) ?_;rintro _ _ ⟨gy,G,rfl⟩;obtain ⟨ic,gQ,rfl⟩:=G.form;refine Xe (Zs Hc Y Y V)<|A4<|Zq<|Ay (n:=19) (0::1::3::7::15::0::32::96::224::0::1023::2047::4095::4095::4095::0::40959::114687::262143::[]) 99328 AD AD V<|A1 0 V (AP Y)<|A1 1 V (Ao Y V)<|A1 2 V (AB (off:=0) LS V rfl I3 Y)<|A1 3 V (Ar (off:=0) HF V rfl D4 Y)<|Cn (D':=31) 4 V rfl V (FN Wo (J)) (A9 (cs:=#[_,_,_,_,_,_,_]) Fm D4 Y B5 (by exact (by apply J0.1;rfl))) ?_;refine A1 5 V (AP Y)<|A1 6 V (Ao Y V)<|A1 7 V (AB (off:=11) LS V rfl C5 Y)<|Cn (D':=511) 8 V rfl V (FN Wo (J)) (A9 (cs:=#[_,_,_]) EV C5 Y B5 (by exact (by apply J0.1;rfl))) ?_;refine G3 9 V Wh (A9 (cs:=#[_,_]) HN E0 Y B5 (Az V))<|Zz (l:=[10,15])<|BW [false,false,false] [] V rfl (Zw [_,_,_] Y call46 Y V (Je x.q m.q p qa cap cs hC K m.rw m.wn m.wv)) ?hk_1 Bv ?hl_1
 case' hk_1=>
  rintro _ _ ⟨_,⟨gq,s3,rfl,g,rfl⟩,rfl⟩;refine ⟨Ab,?_⟩;obtain ⟨w3,Z,rfl⟩:=g.form;rw [B];refine A1 11 V (AP Y)<|A1 12 V (C9 Y V)<|A1 13 V (C9 Y V)<|A1 14 V (C9 Y V)<|Zz (l:=[15])<|BW [] [] V rfl (Al HS #[_,_,_]) ?hk_2 (fun _ _ h=>h.elim) ?hl_2
  case' hk_2=>
   rintro _ _ ⟨bn,rfl,rfl⟩;refine C3<|Yz 16 40959 131071 [] [] [] V Y V rfl V rfl (Xw C5 #[.slice w3 (Bf x.q x.res cs).1.rows.length Z,I4 (Bf x.q x.res cs).1.val,.bool (Bf x.q x.res cs).1.fnd]) ?_
  case' hl_2=>
   exact Aj
 case' hl_1=>
  refine BW [true,true,true] [(9,(_,_)),(8,(_,_)),(4,(_,_))] V rfl (Al HS #[_,_,_]) ?hk_5 (fun _ _ h=>h.elim) ?hl_5
  case' hk_5=>
   rintro _ _ ⟨bn,rfl,rfl⟩;refine ⟨Zk (FP (by simp [*]) (FP (by simp [*]) (Ab))),?_⟩;refine Zz (l:=[10])<|BW [false,false,false] [] V rfl (Zw [_,_,_] Y call46 Y V (Je x.q m.q p qa cap cs hC K m.rw m.wn m.wv)) ?hk_6 Bv ?hl_6
   case' hk_6=>
    rintro _ _ ⟨_,⟨gq,s3,rfl,g,rfl⟩,rfl⟩;refine ⟨Ab,?_⟩;obtain ⟨w3,Z,rfl⟩:=g.form;rw [B];refine A1 11 V (AP Y)<|A1 12 V (C9 Y V)<|A1 13 V (C9 Y V)<|A1 14 V (C9 Y V)<|Zz (l:=[16])<|BW [] [] V rfl (Xw C5 #[.slice w3 (Bf x.q x.res cs).1.rows.length Z,I4 (Bf x.q x.res cs).1.val,.bool (Bf x.q x.res cs).1.fnd]) ?hk_7 (fun _ _ h=>h.elim) ?hl_7
    case' hl_7=>
     exact Aj
   case' hl_6=>
    exact Aj
  case' hl_5=>
   exact Aj
 all_goals
  rintro _ _ ⟨rfl,rfl⟩;refine C3<|A1 17 V (BC Y)<|A1 18 V (BC Y)<|Aq<|Zn [0,1,3,4,7,9] ?_;refine Zx<|B8 Y<|Zv (Bo Y)<|A4<|AY Y (fun I=>?_) (fun I=>?_);·
   refine A3<|Zl MD Y<|Zm Y<|Zc [_,_] Y call47 Y V (jq h hx) ?_;rintro _ _ ⟨_,⟨rfl,d2,af,ax,cu,cO,d9,_,ek,gm,rfl⟩,rfl⟩;refine A4<|AL<|Zt<|DC rfl results45 (by exact ⟨rfl,d2,_,gy,af,ax,cu,cO,d9,ek,gm,(by rw [CN];exact G),rfl⟩)
  cases I
theorem dn{P:Program}{f:FuncId}{args:AN}{A B g:List A8}{Q:A2->List A8->Prop}(G:s.Perm (A++(B++g)))(h:BS P f args [A,B] (fun r H'=>∃m,Q r m/\H'=[A,B,m])):BS P f args [s] (fun r H'=>∃m,Q r m/\H'=[s,m]):=fun u R w J=>by
 have I:Sat u ([A,B]++([g]++R)) w:=J.perm (by
  simp only [SO,N4,D2];have:=G.append_right R.flatten
  simpa only [DH]using this)
 refine (h u ([g]++R) w I).mono ?_;rintro e K (⟨v,H',rfl,⟨m,hq,rfl⟩,hsat⟩|⟨_,_,_,h,_⟩)
 · refine .inl ⟨v,_,rfl,⟨m,hq,rfl⟩,hsat.perm ?_⟩
   simp only [SO,N4,D2];have e1:(A++(B++(m++(g++R.flatten)))).Perm ((A++(B++g))++(m++R.flatten)):=by
    simp only [DH];refine Th A (Th B ?_);rw [<-DH,<-DH];exact OS.append_right _
   exact e1.trans (G.symm.append_right _)
 · exact h.elim
theorem xG{a b:A8}(hn:(s.map (·.1)).Nodup)(J:a∈s)(K:b∈s)(m:a.1≠b.1):∃g,s.Perm ([a]++([b]++g)):=by
 obtain ⟨X,Y,rfl⟩:=cW J;have B:b∈X++Y:=by
  rcases CD.1 K with h|h
  · exact G1 _ h
  · rcases DS.1 h with h|h
    · exact absurd (by rw [h]) m
    · exact HK _ h
 obtain ⟨G,I,h2⟩:=cW B;refine ⟨G++I,To.trans (List.Perm.cons a ?_)⟩;rw [h2];exact To
noncomputable def JR(c:CZ)(k:CA):Bool:=@decide (∃x∈c.its,x.key=k/\x.base<c.pos -64) (Classical.propDecidable _)
def yE(c:CZ)(pre:List CA)(s:List A8):Prop:=∃d:CZ,d.okb/\d.cp=c.cp/\d.mi=c.mi/\d.pos=c.pos/\(∀y,y∈d.its↔y∈c.its/\y.key∉pre)/\(d.cp,Obj.cells d.BM8 110 (0,0))∈s/\(d.mi,Obj.map d.esI d.ckI)∈s/\∀q∈d.SI,q∈s
def fA(c:CZ)(p:List CA):Prop:=∃zs:List CA,zs.Perm (c.its.map ItM.key)/\∃post,zs.filter (JR c)=p++post
def XV(c:CZ)(ys:List CA):Prop:=∃zs:List CA,zs.Perm (c.its.map ItM.key)/\ys=zs.filter (JR c)
theorem QV(B:(c.its.map ItM.key).Nodup)(hx:x∈c.its):JR c x.key=true↔x.base<c.pos -64:=by
 unfold JR;rw [@decide_eq_true_eq _ (Classical.propDecidable _)];constructor
 · rintro ⟨y,hy,m,g⟩
   rwa [Ha B hy hx m]at g
 · intro h;exact ⟨x,hx,rfl,h⟩
theorem dO{l:List α}{f:α->Bool}{i:Nat}{x:α}(h:l[i]?=some x):(l.take (i+1)).filter f=(l.take i).filter f++(if f x=true then [x]else [])/\∃g,l.filter f=(l.take i).filter f++(if f x=true then [x]else [])++g:=by
 have e:(l.take (i+1)).filter f=(l.take i).filter f++(if f x=true then [x]else []):=by
  rw [Bl h,L7];congr 1;by_cases m:f x=true;· rw [Ax m,List.filter_cons_of_pos m];rfl
  · rw [As m,kl m];rfl
 refine ⟨e,(l.drop (i+1)).filter f,?_⟩;rw [<-e,<-L7,LO]
theorem fV{l:List CA}(hn:l.Nodup){i:Nat}{x:CA}(h:l[i]?=some x)(f:CA->Bool):x∉(l.take i).filter f:=fun G=>by
 have g:=(GF.1 G).1;have h2:l=l.take i++x::l.drop (i+1):=by
  obtain ⟨m,B⟩:=C7.1 h;rw [<-B,<-TX m,LO]
 rw [h2,HX]at hn;exact hn.2.2 x g x (Fo ..) V
theorem AB8(h:c.okb)(hn:(s.map (·.1)).Nodup)(g:(c.cp,Obj.cells c.BM8 110 (0,0))∈s)(h2:(c.mi,Obj.map c.esI c.ckI)∈s):BS prog 17 #[.pointer (some ⟨c.cp,0,none⟩)] [s] (fun r H'=>∃m,(∃zs:List CA,zs.Perm (c.its.map ItM.key)/\(zs.Pairwise fun x y=>x.data.toList<=y.data.toList)/\Row 9 r (zs.map Value.string) m)/\H'=[s,m]):=by
 have G:c.cp≠c.mi:=fun K=>by
  have B:=Ha hn g h2 K;injection B with _ B
  cases B
 obtain ⟨I,O⟩:=xG hn g h2 G;refine dn O ((Om h).mono ?_);rintro r H' ⟨zs,m,g,h2,J,rfl⟩;exact ⟨m,⟨zs,g,h2,J⟩,V⟩
theorem fu(c:CZ):BS prog 49 #[.pointer (some ⟨c.cp,0,none⟩)] [] (fun r H'=>∃g,r= .func (.func 115) #[] #[I5 g]/\H'=[[(g,.cells #[.pointer (some ⟨c.cp,0,none⟩)] 35 (0,0))]]):=by
 refine Se func49 ntmps49 [0] ?_;intro u R;refine A3<|Ze (Bx #[_])<|AF fun g=>AH Y<|A3<|Zv (Be (vs:=[]) (us:=[_]) Y Y)<|An Y<|AO V results49 Y (by exact ⟨g,V,V⟩)
set_option maxHeartbeats 1000000 in
theorem gB(h:c.okb)(bc:Nat):Kw prog 115 #[I5 bc] [[(bc,.cells #[.pointer (some ⟨c.cp,0,none⟩)] 35 (0,0))]] (yE c) (fun x:CA=>#[.string x]) (fA c) (XV c):=by
 intro l J hA hy s K;obtain ⟨d0,af,O,p8,p9,bn,gq,gQ,pg⟩:=hA _ _ K;have U:(d0.its.map ItM.key).Perm (c.its.map ItM.key):=(T7 af.its.keys h.its.keys).2 fun a=>by
  simp only [CI,bn,PA,me,ka]
 have pq:=h.its.len;have cu:=h.its.keys
 refine Se func115 ntmps115 [0,1] ?_;intro u R;refine Zq<|Ht (s:=s) Wo (fun l8=>?_);rw [<-O];refine Zg<|Zl MD Y ?_;refine Zc [_] Y call17 Y V (AB8 af l8 gq gQ) ?_;rintro _ _ ⟨_,⟨sk,⟨zs,g,qa,Z⟩,rfl⟩,rfl⟩;replace g:=g.trans U;have o8:=g.length_eq
 rw [Bk]at o8;have o9:zs.Nodup:=g.nodup_iff.2 cu
 obtain ⟨pk,ck,rfl⟩:=Z.form;simp only [Bk];rw [Bk]at Z;refine Zv (AR DO Y)<|Zm Y<|A4<|AQ<|Zb [8,0,1,6,7] ?_;refine Aw (e0:=[(8,_)]) (fun m e H=>∃(i:Nat) (s:List A8),m=zs.length -i/\(i<=zs.length/\J ((zs.take i).filter (JR c)) s)/\e=[(8,I4 (i:Int))]/\H=[s]) (by exact ⟨0,s,V,⟨CM _,K⟩,V,V⟩) Wp ?_;rintro _ _ _ ⟨i,s,rfl,⟨hi,K⟩,rfl,rfl⟩;refine A3<|Zv (Ap Y Y)<|A4<|Zq<|Ak Y (fun X=>?_) (fun X=>?_);·
  obtain ⟨k,hk⟩:∃k,zs[i]?=some k:=⟨_,BT A0⟩;obtain ⟨x,hx,rfl⟩:=CI.1 (g.mem_iff.1 (Ek hk));obtain ⟨ax,gm,G⟩:=dO (f:=JR c) hk;have l5:=fV o9 hk (JR c)
  obtain ⟨d,hd,j5,pz,cO,kv,hC,hM,hS⟩:=hA _ _ K;have ek:x∈d.its:=(kv x).2 ⟨hx,l5⟩
  have hg:=hd.its.get ek;have ic:(x.b,Obj.cells x.BM7 116 (0,0))∈s:=hS _ (hd.its.sub x ek)
  have d9:=QV cu hx;rw [show d.cp=d0.cp from j5.trans O.symm]at hC;have q9:zs[i]?=some x.key:=hk
  rcases Z with⟨_,h0,_⟩|⟨gk,capk,curk,zk,hvk,rfl,hlek,hcmk,hcsk,htkk,hfrk⟩
  · simp at h0;subst h0;simp at X
  injection hvk with hv1 hv2 hv3
  subst hv1 hv3;have j3:curk[i]?=some (.string x.key):=by
   have h:=congrArg (fun l=>l[i]?) htkk;simp only [HR,Bk,Ax X,E6,hk]at h;simpa using h
  refine B3<|Zq<|AQ<|A3<|BX (Bd DO FG Y Y (by first|omega|(simp;omega)))<|Zl H3 Y (hv:=by exact j3) ?_;refine CT Y<|Ay (n:=22) (0::1::3::7::0::31::63::127::255::511::0::1024::3072::7168::15360::32767::65535::131071::131071::524287::1048575::2097151::[]) 524288 AD AD V<|Bm 0 V MD Y ?_;refine A1 1 V (Ao Y V)<|A1 2 V (AB (off:=4) Gk V rfl T5 Y)<|Cn (D':=15) 3 V rfl V (FN Wo (hC)) (BK Sh Y B1) ?_;refine A1 4 rfl (AP Y)<|Cn (D':=63) 5 rfl rfl rfl (FN Wo (hM)) (Du (EI GW (D:=fun _=>True)) Ss cA hd.its.im (fun _ _=>trivial) (trivial) (by rw [hg];first|done|rfl) Y Y) ?_;refine A1 6 V (Ao Y V)<|A1 7 V (AB (off:=0) LS V rfl I3 Y)<|A1 8 V (Ar (off:=8) HF V rfl A6 Y)<|Cn (D':=1023) 9 V rfl V (FN Wo (ic)) (BK AE Y B1) ?_;refine Bm 10 V MD Y ?_;refine A1 11 V (Ao Y V)<|A1 12 V (AB (off:=0) Gk V rfl A6 Y)<|Cn (D':=16383) 13 V rfl V (FN Wo (hC)) (BK AE Y B1) ?_
  (refine F5 (D':=32767) 14 (GZ Y Y (IntWalk.i64_in _ ?_)) ?_;(focus (have:=hd.pos;omega)))
  refine A1 15 V (Dy Y Y)<|A1 16 V (AP Y)<|Cs (t:=28) Y (fun B=>?_) (fun B=>?_);·
   rw [DE B];have I:JR c x.key=true:=d9.2 (by rw [<-cO];exact B)
   rw [Ax I]at G;have l9:=hy _ x.key s ⟨zs,g,gm,G⟩ K
   refine B4 17 V (AP Y)<|B4 18 V (AP Y)<|Yw 19 1048575 V (GH (vs:=[_]) Y Y (l9) Wp) ?_;rintro _ _ ⟨_,⟨s',rfl,rfl,gy⟩,rfl⟩;refine B4 20 V (Bo Y)<|A1 21 V (AU Y Y)<|Aq<|Zn [0,1,6,7,8,33] ?_;refine Zx<|AY Y (fun hb=>by cases hb)<|fun hb=>AC<|AA<|Zx<|Dg Y Y Y<|DG (e:=[(8,_)]) (h:=by exact ⟨i+1,s',rfl,⟨by omega,by rw [ax,Ax I];exact gy⟩,rfl,rfl⟩)
  rw [DQ B];have I:¬JR c x.key=true:=fun h9=>B (by rw [cO];exact d9.1 h9)
  refine AW 17 V<|AW 18 V<|AW 19 V<|AW 20 V<|A1 21 V (AJ Y Y)<|Aq<|Zn [0,1,6,7,8,33] ?_;refine Zx<|Df Y<|AC<|AA<|Zx<|Dg Y Y Y<|DG (e:=[(8,_)]) (h:=by exact ⟨i+1,s,rfl,⟨by omega,by rw [ax,As I,E7];exact K⟩,rfl,rfl⟩)
 obtain rfl:i=zs.length:=by omega
 rw [HE]at K;refine BA<|Zt<|Zt<|AX<|DC V results115 (by exact ⟨_,s,⟨zs,g,V⟩,V,K⟩)
def ItM.core(x:ItM):ItM:={x with res:=C8.none,wq:=none,wc:=0,since:=0}
variable{y:ItM}
theorem IX(h:y.core=x.core):y.b=x.b/\y.id=x.id/\y.q=x.q/\y.tn=x.tn/\y.base=x.base/\y.rq=x.rq/\y.rc=x.rc/\y.L=x.L:=by
 obtain ⟨b,id,q,tn,base,rq,rc,L,res,wq,wc,since⟩:=x;obtain ⟨Z,G,q',K,m,J,I,X,B,U,O,g⟩:=y;unfold ItM.core at h;simp only [ItM.mk.injEq]at h;exact ⟨h.1,h.2.1,h.2.2.1,h.2.2.2.1,h.2.2.2.2.1,h.2.2.2.2.2.1,h.2.2.2.2.2.2.1,h.2.2.2.2.2.2.2.1⟩
theorem Mw(h:y.core=x.core):y.key=x.key:=by unfold ItM.key;rw [(IX h).2.2.1]
theorem XP(W:List α)(r:α){n:Nat}(h:n<=W.length):(W++[r]).drop n=W.drop n++[r]:=kf h
def KE(W W':List BF)(r:BF):Prop:=(W'=W++[r]/\W.length<64)\/(W'=(W++[r]).drop 1/\W.length=64)
variable{W' W:List BF}
theorem nI(g:KE W W' r)(B:(pos -base).toNat<=W.length)(G:base<=pos)(I:pos+1 -64<=base):Dj (pos+1) base W'=Dj pos base W++[r]/\(pos+1 -base).toNat<=W'.length:=by
 have e:(pos+1 -base).toNat=(pos -base).toNat+1:=by omega
 unfold Dj;rcases g with⟨rfl,m⟩|⟨rfl,m⟩
 · rw [C0,GC,e,show W.length+1 -((pos -base).toNat+1)=W.length -(pos -base).toNat by omega,XP _ _ A0]
   exact ⟨V,by omega⟩
 · rw [Cp,C0,GC,e,cG,show 1+(W.length+1 -1 -((pos -base).toNat+1))=W.length -(pos -base).toNat by omega,XP _ _ A0]
   exact ⟨V,by omega⟩
theorem M0(h:pos<=base):Dj pos base W=[]:=by
 unfold Dj;rw [show(pos -base).toNat=0 by omega,Sf,lO]
def Z8(cs:List Chg)(x:ItM):Prop:=∃ch∈cs,Ct x.q ch=true
theorem Sr(g:∀c∈cs,c.ok):cs.any (Dt q)=true↔∃ch∈cs,Ct q ch=true:=by
 rw [lE];constructor
 · rintro ⟨c,hc,h⟩
   unfold Dt at h;rw [Ge]at h;exact ⟨c,hc,h.2⟩
 · rintro ⟨c,hc,h⟩
   refine ⟨c,hc,?_⟩;unfold Dt;rw [DE (g c hc),h];rfl
theorem ed:∀{cs:List Chg} {r:C8},¬cs.any (Dt q)=true->Bf q r cs=(r,false,true):=fun{cs r} h=>by
 have g:∀{cs:List Chg},(∀c∈cs,Dt q c=false)->IG q r cs=some r:=fun{cs}=>by
  induction cs with
  |nil=>intro _;rfl
  |cons c cs ih=>
   intro h;have h2:Dh q c r=(r,true):=by unfold Dh;rw [h c (Fo ..)];rfl
   unfold IG;rw [h2];exact ih fun d B=>h d (GB _ B)
 have m:∀c∈cs,Dt q c=false:=fun c hc=>by
  cases h4:Dt q c with
  |false=>rfl
  |true=>exact absurd (lE.2 ⟨c,hc,h4⟩) h
 unfold Bf;rw [g m];show(r,cs.any (Dt q),true)=_
 rw [tD]at h;rw [h]
structure zK(cs:List Chg)(p:Int)(ids:List Int)(MR:List A8)(x y:ItM):Prop where
 core:y.core=x.core
 how:(y=x/\¬(x.id∈ids/\x.base<p))\/((x.id∈ids/\x.base<p)/\(Bf x.q x.res cs).2.2=true/\y.res=(Bf x.q x.res cs).1/\y.since=p/\Dp MR (.slice y.wq y.res.rows.length y.wc) y.res.rows)
structure I1(c d:CZ)(cs:List Chg)(p:Int)(W':List BF)(M1:List A8)(ids:List Int)(tl:List CA):Prop where
 okb:d.okb
 cp:d.cp=c.cp
 pos:d.pos=p
 win:d.win=W'
 M:d.M=M1
 ns:d.ns=c.ns
 sc:d.z.cs=c.z.cs
 next:d.next=c.next
 PL:∀e∈d.PL,e∈c.PL
 MR:∀q∈c.MR,q∈d.MR
 i1:∀y∈d.its,∃x∈c.its,zK cs p ids d.MR x y
 i2:∀x∈c.its,(x.id∈ids->x.base<p->(Bf x.q x.res cs).2.2=true)->∃y∈d.its,y.core=x.core
 t1:∀k,k∈tl↔∃x∈c.its,x.key=k/\x.id∈ids/\x.base<p
 t2:tl.Nodup
theorem K5(h:c.okb)(hx:x∈c.its)(hy:y∈c.its)(e:x.id=y.id):x=y:=by
 have hi:=h.its.idx.ids;rw [Mn]at hi;exact Ha hi hx hy e
variable{p:Int}{M1:List A8}{ids:List Int}
theorem I1.next_it(h:I1 c d cs p W' M1 ids tl)(hc:c.okb)(hx:x∈c.its)(hn:x.id∉ids):x∈d.its:=by
 obtain ⟨y,hy,B⟩:=h.i2 x hx fun g=>absurd g hn;obtain ⟨J,m,G⟩:=h.i1 y hy;have I:=K5 hc m hx (by rw [<-(IX G.core).2.1,(IX B).2.1])
 subst I;rcases G.how with⟨rfl,_⟩|⟨⟨g,_⟩,_⟩
 · exact hy
 · exact absurd g hn
theorem AD0(h:I1 c d cs p W' M1 ids tl)(hc:c.okb)(hx:x∈c.its)(J:¬x.base<p):I1 c d cs p W' M1 (ids++[x.id]) tl:=by
 have g:∀z∈c.its,z.base<p->(z.id∈ids++[x.id]↔z.id∈ids):=fun z hz B=>by
  rw [CD,CH];refine ⟨fun m=>m.elim id fun h2=>?_,.inl⟩;rw [K5 hc hz hx h2]at B;exact absurd B J
 refine ⟨h.okb,h.cp,h.pos,h.win,h.M,h.ns,h.sc,h.next,h.PL,h.MR,fun y hy=>?_,fun z hz K=>h.i2 z hz fun m h2=>K ((g z hz h2).2 m) h2,fun k=>?_,h.t2⟩
 · obtain ⟨z,hz,I⟩:=h.i1 y hy
   refine ⟨z,hz,I.core,?_⟩;rcases I.how with⟨e,m⟩|⟨m,h2⟩
   · exact .inl ⟨e,fun G=>m ⟨(g z hz G.2).1 G.1,G.2⟩⟩
   · exact .inr ⟨⟨(g z hz m.2).2 m.1,m.2⟩,h2⟩
 · rw [h.t1]
   constructor;· rintro ⟨z,hz,a,b,e⟩;exact ⟨z,hz,a,(g z hz e).2 b,e⟩
   · rintro ⟨z,hz,a,b,e⟩;exact ⟨z,hz,a,(g z hz e).1 b,e⟩
theorem yj(hc:c.okb)(t1:∀k,k∈tl↔∃x∈c.its,x.key=k/\x.id∈ids/\x.base<p)(t2:tl.Nodup)(hx:x∈c.its)(G:x.base<p)(hn:x.id∉ids):(∀k,k∈tl++[x.key]↔∃y∈c.its,y.key=k/\y.id∈ids++[x.id]/\y.base<p)/\(tl++[x.key]).Nodup:=by
 constructor
 · intro k
   rw [CD,CH,t1];constructor
   · rintro (⟨y,hy,a,b,e⟩|rfl)
     · exact ⟨y,hy,a,G1 _ b,e⟩
     · exact ⟨x,hx,rfl,by simp,G⟩
   · rintro ⟨y,hy,rfl,b,e⟩
     rcases CD.1 b with b|b
     · exact .inl ⟨y,hy,rfl,b,e⟩
     · rw [K5 hc hy hx (CH.1 b)];exact .inr rfl
 · rw [HX]
   refine ⟨t2,by simp,fun a B b g=>?_⟩;obtain rfl:=CH.1 g;intro I;obtain ⟨y,hy,m,h2,_⟩:=(t1 a).1 B;rw [Ha hc.its.keys hy hx (m.trans I)]at h2;exact hn h2
theorem wC{next:Int}{esQ:Array MapEntry}{ckQ:Nat}{lmQ:List (Int×A2)}{lv:A2}{ML:List A8}{esI:Array MapEntry}{ckI:Nat}{lmI:List (CA×A2)}{esK:Array MapEntry}{ckK:Nat}{lmK:List (Int×A2)}{SI:List A8}(h:GV its next esQ ckQ lmQ lv ML esI ckI lmI esK ckK lmK SI)(hn:(SI.map (·.1)).Nodup)(hx:x∈its)(p:Int)(cs:List Chg)(wq:BE)(wc:Nat):
 GV (its.map fun y=>if y.id=x.id then x.upd p cs wq wc else y) next esQ ckQ lmQ lv ML esI ckI lmI esK ckK lmK (JQ x.b (x.upd p cs wq wc).obj SI):=by
 have m:∀y∈its,y.id=x.id->y=x:=fun y hy e=>by
  have hi:=h.idx.ids;rw [Mn]at hi;exact Ha hi hy hx e
 have g:∀y∈its,(if y.id=x.id then x.upd p cs wq wc else y).key=y.key/\(if y.id=x.id then x.upd p cs wq wc else y).iq=y.iq/\(if y.id=x.id then x.upd p cs wq wc else y).b=y.b/\(if y.id=x.id then x.upd p cs wq wc else y).id=y.id/\(if y.id=x.id then x.upd p cs wq wc else y).q=y.q:=fun y hy=>by
  by_cases e:y.id=x.id
  · rw [m y hy e,Ax rfl];exact ⟨rfl,rfl,rfl,rfl,rfl⟩
  · rw [As e];exact ⟨rfl,rfl,rfl,rfl,rfl⟩
 have e1:((its.map fun y=>if y.id=x.id then x.upd p cs wq wc else y).map ItM.iq)=its.map ItM.iq:=by
  rw [Mn];exact cD fun y hy=>(g y hy).2.1
 have e2:((its.map fun y=>if y.id=x.id then x.upd p cs wq wc else y).map ItM.key)=its.map ItM.key:=by
  rw [Mn];exact cD fun y hy=>(g y hy).1
 refine ⟨by rw [e1];exact h.idx,by rw [e1];exact h.ist,h.im,fun q=>?_,h.km,fun q=>?_,by rw [e2];exact h.keys,fun y hy=>?_,h.nx,by rw [Bk];exact h.len,fun y hy=>?_,fun y hy=>?_⟩
 · rw [h.imem]
   constructor;· rintro ⟨y,hy,rfl⟩;exact ⟨_,Fk hy,by rw [(g y hy).1,(g y hy).2.2.1]⟩
   · rintro ⟨z,hz,rfl⟩
     obtain ⟨y,hy,rfl⟩:=CI.1 hz;exact ⟨y,hy,by rw [(g y hy).1,(g y hy).2.2.1]⟩
 · rw [h.kmem]
   constructor;· rintro ⟨y,hy,rfl⟩;exact ⟨_,Fk hy,by rw [(g y hy).1,(g y hy).2.2.2.1]⟩
   · rintro ⟨z,hz,rfl⟩
     obtain ⟨y,hy,rfl⟩:=CI.1 hz;exact ⟨y,hy,by rw [(g y hy).1,(g y hy).2.2.2.1]⟩
 · obtain ⟨z,hz,rfl⟩:=CI.1 hy
   rw [(g z hz).2.2.2.1];exact h.ids z hz
 · obtain ⟨z,hz,rfl⟩:=CI.1 hy
   rw [(g z hz).2.2.2.2];exact h.q z hz
 · obtain ⟨z,hz,rfl⟩:=CI.1 hy
   by_cases e:z.id=x.id
   · simp only [Ax e]
     exact Vw (h.sub x hx)
   · simp only [As e]
     refine CI.2 ⟨z.ch,h.sub z hz,As fun e2=>?_⟩;have B:=Ha hn (h.sub z hz) (h.sub x hx) e2
     unfold ItM.ch ItM.obj at B;simp only [lj,Obj.cells.injEq,tX,o4,Value.int.injEq,db,ka]at B;exact e (by simp_all)
theorem wj(h:I1 c d cs p W' M1 ids tl)(hc:c.okb)(hn:(d.SI.map (·.1)).Nodup)(hx:x∈c.its)(hb:x.base<p)(G:x.id∉ids)(O:(Bf x.q x.res cs).2.2=true)(hr:Dp s (.slice wq (Bf x.q x.res cs).1.rows.length wc) (Bf x.q x.res cs).1.rows):
 I1 c {d with SI:=JQ x.b (x.upd p cs wq wc).obj d.SI,MR:=s++d.MR,its:=d.its.map fun y=>if y.id=x.id then x.upd p cs wq wc else y} cs p W' M1 (ids++[x.id]) (tl++[x.key]):=by
 have g:=h.next_it hc hx G;have B:=wC h.okb.its hn g p cs wq wc
 have K:(x.upd p cs wq wc).core=x.core:=rfl;obtain ⟨X,Z⟩:=yj hc h.t1 h.t2 hx hb G;have e2:((d.its.map fun y=>if y.id=x.id then x.upd p cs wq wc else y).map ItM.key)=d.its.map ItM.key:=by
  rw [Mn];refine cD fun y hy=>?_;show(if y.id=x.id then x.upd p cs wq wc else y).key=y.key
  split;· rename_i e;rw [K5 h.okb hy g e];rfl
  · rfl
 refine ⟨⟨h.okb.pos,h.okb.win,h.okb.wl,h.okb.wp,h.okb.pool,fun k=>by rw [e2];exact h.okb.pk k,B,fun y hy=>?_⟩,h.cp,h.pos,h.win,h.M,h.ns,h.sc,h.next,h.PL,fun q I=>HK _ (h.MR q I),fun y hy=>?_,fun z hz hk=>?_,X,Z⟩
 · obtain ⟨z,hz,rfl⟩:=CI.1 hy
   split;· rename_i e;rw [<-K5 h.okb hz g e];exact h.okb.tns z hz
   · exact h.okb.tns z hz
 · obtain ⟨z,hz,rfl⟩:=CI.1 hy
   by_cases e:z.id=x.id
   · rw [Ax e]
     exact ⟨x,hx,K,.inr ⟨⟨by simp,hb⟩,O,V,V,hr.mono fun q I=>G1 _ I⟩⟩
   · rw [As e]
     obtain ⟨w,hw,U⟩:=h.i1 z hz;have af:w.id≠x.id:=fun m=>e (by rw [(IX U.core).2.1,m])
     refine ⟨w,hw,U.core,?_⟩;have hm:w.id∈ids++[x.id]↔w.id∈ids:=by rw [CD,CH];exact ⟨fun m=>m.elim id fun h2=>absurd h2 af,.inl⟩
     rcases U.how with⟨a,b⟩|⟨a,b,e1,e3,e4⟩
     · exact .inl ⟨a,fun h3=>b ⟨hm.1 h3.1,h3.2⟩⟩
     · exact .inr ⟨⟨hm.2 a.1,a.2⟩,b,e1,e3,e4.mono fun q I=>HK _ I⟩
 · by_cases e:z.id=x.id
   · obtain rfl:=K5 hc hz hx e
     exact ⟨_,CI.2 ⟨z,g,Ax V⟩,V⟩
   · obtain ⟨y,hy,J⟩:=h.i2 z hz fun m h2=>hk (G1 _ m) h2
     exact ⟨y,CI.2 ⟨y,hy,As (by rw [(IX J).2.1];exact e)⟩,J⟩
variable{d2:CZ}
theorem wk(h:I1 c d cs p W' M1 ids tl)(hc:c.okb)(hx:x∈c.its)(hb:x.base<p)(K:x.id∉ids)(B:(Bf x.q x.res cs).2.2=false)
 (g:d2.okb)(h2:d.like d2)(I:d2.next=d.next)(J:d2.M=d.M/\d2.MR=d.MR)(h6:d2.its=d.its.filter fun y=>y.key≠x.key)(h7:∀e∈d2.PL,e∈d.PL):I1 c d2 cs p W' M1 (ids++[x.id]) (tl++[x.key]):=by
 obtain ⟨U,X⟩:=yj hc h.t1 h.t2 hx hb K;have m:∀y,y∈d2.its↔y∈d.its/\y.key≠x.key:=fun y=>by rw [h6,GF];simp
 refine ⟨g,h2.cp.trans h.cp,h2.pos.trans h.pos,h2.win.trans h.win,J.1.trans h.M,h2.ns.trans h.ns,h2.sc.trans h.sc,I.trans h.next,fun e he=>h.PL e (h7 e he),fun q hq=>by rw [J.2];exact h.MR q hq,fun y hy=>?_,fun z hz hk=>?_,U,X⟩
 · obtain ⟨af,ax⟩:=(m y).1 hy
   obtain ⟨w,hw,O⟩:=h.i1 y af;have Z:w.id≠x.id:=fun e=>ax (by rw [Mw O.core,K5 hc hw hx e])
   refine ⟨w,hw,O.core,?_⟩;have m:w.id∈ids++[x.id]↔w.id∈ids:=by rw [CD,CH];exact ⟨fun g=>g.elim id fun h2=>absurd h2 Z,.inl⟩
   rcases O.how with⟨a,b⟩|⟨a,b,e1,e3,e4⟩
   · exact .inl ⟨a,fun I=>b ⟨m.1 I.1,I.2⟩⟩
   · exact .inr ⟨⟨m.2 a.1,a.2⟩,b,e1,e3,by rw [J.2];exact e4⟩
 · by_cases e:z.id=x.id
   · obtain rfl:=K5 hc hz hx e
     rw [hk B7 hb]at B;cases B
   · obtain ⟨y,hy,G⟩:=h.i2 z hz fun g h2=>hk (G1 _ g) h2
     refine ⟨y,(m y).2 ⟨hy,fun h9=>e ?_⟩,G⟩;rw [Mw G]at h9;rw [Ha hc.its.keys hz hx h9]
theorem wm(h:I1 c d r.cs r.p W' M1 ids tl)(hc:c.ok)(hr:Db r.p r.cs)(hp:r.p=c.pos+1){r':BF}(X:r'.pc=r.pc)(hW:KE c.win W' r')(hM:∀q∈c.M,q∈d.M)(G:∀x∈c.its,x.id∈ids↔Z8 r.cs x)(hy:y∈d.its)(d9:r.p -64<=y.base):y.ok d.M d.MR r.p W':=by
 obtain ⟨x,hx,hs⟩:=h.i1 y hy;have g:=hc.all x hx
 obtain ⟨c1,c2,c3,c4,c5,c6,c7,c8⟩:=IX hs.core;have B:∀ch∈r.cs,ch.ok:=fun ch af=>by
  obtain ⟨i,hi⟩:=HU af;exact hr.all i ch hi
 have J:r'.p=r.p:=congrArg Prod.fst X;have K:r'.cs=r.cs:=congrArg Prod.snd X
 have I:Dp d.MR (.slice y.wq y.res.rows.length y.wc) y.res.rows:=by
  rcases hs.how with⟨rfl,_⟩|⟨_,_,_,_,h5⟩
  · exact g.rw.mono h.MR
  · exact h5
 obtain ⟨r0,O,m⟩:=g.run;by_cases hb:x.base<r.p
 · obtain ⟨Z,U⟩:=nI hW g.reach A0 A0
   rw [<-hp]at Z U;refine ⟨by rw [c3];exact g.q,by rw [c5];exact g.base,by rw [c4];exact g.tn,by rw [c6,c7,c8];exact g.rp.mono hM,by rw [c8];exact g.rl,by rw [c8];exact g.fit,I,by rw [c5];exact U,r0,by rw [c3,c8];exact O,?_⟩;rw [c3,c5,Z,PZ,m,LR];have hl:=PD g.reach
   have cO:=hc.pos;have cu:=g.base
   unfold Fs Fs;rw [J,K];rcases hs.how with⟨rfl,ax⟩|⟨⟨hin,_⟩,hok,e1,e2,_⟩
   · have hq:¬r.cs.any (Dt y.q)=true:=fun h9=>ax ⟨(G y hx).2 ((Sr B).1 h9),hb⟩
     rw [ed hq,Ax ⟨rfl,by rw [hl];omega,by rw [hl];omega⟩];rfl
   · have hq:r.cs.any (Dt x.q)=true:=(Sr B).2 ((G x hx).1 hin)
     rw [Ax ⟨hok,by rw [hl];omega,by rw [hl];omega⟩,(NA hok).2,Ax hq,e1,e2]
 · have bn:y=x:=by
    rcases hs.how with⟨e,_⟩|⟨⟨_,h9⟩,_⟩
    · exact e
    · exact absurd h9 hb
   subst bn;rw [M0 A0]at m;exact ⟨g.q,g.base,g.tn,g.rp.mono hM,g.rl,g.fit,I,by omega,r0,O,by rw [M0 A0];exact m⟩
theorem Pp{α:Type} [DecidableEq α]:∀{a b:List α},a.Nodup->(∀x∈a,x∈b)->a.length<=b.length
 |[],_,_,_=>CM _
 |x::a,b,hn,hs=>by
  obtain ⟨hx,hn⟩:=LI.1 hn;have h2:=Pp (a:=a) (b:=b.erase x) hn fun y hy=>by
   have g:y≠x:=fun e=>hx (e▸hy);exact (List.mem_erase_of_ne g).2 (hs y (GB _ hy))
  have m:=rS (hs x (Fo ..));have B:=List.length_pos_of_mem (hs x (Fo ..))
  rw [F2];omega
theorem A00(h:c.okb)(U:KE c.win W r)(Z:r.p=c.pos+1)(O:Db r.p r.cs)(K:∀q∈c.M,q∈M1)(J:CL M1 (.slice r.q r.cs.length r.cap) r.cs):W.length<=64/\∀(i:Nat) (g:BF),W[i]?=some g->g.p=r.p -(W.length:Int)+1+(i:Int)/\CL M1 (.slice g.q g.cs.length g.cap) g.cs/\Db g.p g.cs:=by
 have B:∀(i:Nat) (g:BF),(c.win++[r])[i]?=some g->g.p=c.pos -(c.win.length:Int)+1+(i:Int)/\CL M1 (.slice g.q g.cs.length g.cap) g.cs/\Db g.p g.cs:=fun i g m=>by
  rcases Fi i c.win.length with h1|h1
  · rw [dj h1]at m
    exact ko h K i g m
  · rw [TO h1]at m
    have h2:i -c.win.length=0:=by
     have:=(C7.1 m).1;simp at this;omega
    rw [h2]at m;have I:r=g:=by simpa using m
    subst I;exact ⟨by omega,J,O⟩
 have G:(c.win++[r]).length=c.win.length+1:=by rw [C0];rfl
 rcases U with⟨rfl,X⟩|⟨rfl,X⟩
 · refine ⟨by omega,fun i g m=>?_⟩
   obtain ⟨a,b,e⟩:=B i g m;exact ⟨by rw [G];omega,b,e⟩
 · refine ⟨by rw [Cp];omega,fun i g m=>?_⟩
   rw [Pc]at m;obtain ⟨a,b,e⟩:=B (1+i) g m;exact ⟨by rw [Cp,G];omega,b,e⟩
theorem AD2(h:c.okb){sW:List A8}(J:KE c.win W r)(g:BU 2 55 (.slice wq W.length wc) W.length (Da W) sW)(O:r.p=c.pos+1)(m:Db r.p r.cs)(I:∀q∈c.M,q∈M1)(G:CL M1 (.slice r.q r.cs.length r.cap) r.cs){lv2:A2}{ML2:List A8}(hst:Xa (c.its.map ItM.iq) lv2 ML2):
 I1 c {c with pos:=r.p,wq:=wq,wc:=wc,win:=W,sW:=sW,lv:=lv2,ML:=ML2,M:=M1} r.cs r.p W M1 [] []:=by
 have B:=A00 h J O m I G;have U:=m.pos
 exact ⟨⟨⟨by show 0<=r.p;omega,by show r.p<=10000;omega⟩,g,B.1,B.2,h.pool,h.pk,{h.its with ist:=hst},h.tns⟩,V,V,V,V,V,V,V,fun e K=>K,fun q X=>X,fun y hy=>⟨y,hy,V,.inl ⟨V,fun h=>absurd h.1 B7⟩⟩,fun x hx _=>⟨x,hx,V⟩,fun k=>by simp,oE⟩
structure Hz(c d:CZ)(p:Int)(cs:List Chg)(q2:BE)(cap2:Nat)(zs:List CA):Prop where
 ok:d.ok
 cp:d.cp=c.cp
 pos:d.pos=p
 win:KE c.win d.win ⟨p,q2,cap2,cs⟩
 ns:d.ns=c.ns
 sc:d.z.cs=c.z.cs
 next:d.next=c.next
 PL:∀e∈d.PL,e∈c.PL
 i1:∀y∈d.its,p -64<=y.base/\∃x∈c.its,y.core=x.core/\((¬(Z8 cs x/\x.base<p)/\y.res=x.res/\y.since=x.since)\/((Z8 cs x/\x.base<p)/\(Bf x.q x.res cs).2.2=true/\y.since=p))
 i2:∀x∈c.its,p -64<=x.base->(Z8 cs x->x.base<p->(Bf x.q x.res cs).2.2=true)->∃y∈d.its,y.core=x.core
 z1:∀k,k∈zs↔∃x∈c.its,x.key=k/\Z8 cs x/\x.base<p
 z2:zs.Nodup
 z3:zs.Pairwise fun x y=>x.data.toList<=y.data.toList
 M:∀q∈c.M,q∈d.M
theorem Hz.zcap{q2:BE}{cap2:Nat}{zs:List CA}(h:Hz c d p cs q2 cap2 zs):d.z.cap=c.z.cap:=congrArg Prod.fst h.sc
theorem wM(hn:((its.map ItM.iq).map (·.1)).Nodup){g:List Int}(h:∀i,i∈g↔Jj (its.map ItM.iq) cs i)(hx:x∈its):x.id∈g↔Z8 cs x:=by
 rw [h];constructor
 · rintro ⟨y,hy,m,hc⟩
   obtain ⟨w,B,rfl⟩:=CI.1 hy;rw [Mn]at hn;have:=Ha hn B hx m
   subst this;exact hc
 · intro hc
   exact ⟨x.iq,Fk hx,V,hc⟩
structure Jf(d d2:CZ)(pre:List CA):Prop where
 okb:d2.okb
 like:d.like d2
 next:d2.next=d.next
 M:d2.M=d.M/\d2.MR=d.MR
 mi:d2.mi=d.mi
 PL:∀e∈d2.PL,e∈d.PL
 its:∀y,y∈d2.its↔y∈d.its/\y.key∉pre
theorem TC(h:d.okb):Jf d d []:=⟨h,⟨rfl,rfl,rfl,rfl,rfl⟩,rfl,⟨rfl,rfl⟩,rfl,fun e g=>g,fun y=>by simp⟩
theorem fw{pre:List CA}{k:CA}(h:Jf d d2 pre)(J:d.okb)(I:fA d (pre++[k])):∃x∈d2.its,x.key=k:=by
 obtain ⟨zs,m,B,g⟩:=I;have hn:(zs.filter (JR d)).Nodup:=(m.nodup_iff.2 J.its.keys).sublist cC
 have K:k∈zs:=(GF.1 (by rw [g];simp:k∈zs.filter (JR d))).1;obtain ⟨x,hx,rfl⟩:=CI.1 (m.mem_iff.1 K);refine ⟨x,(h.its x).2 ⟨hx,fun G=>?_⟩,V⟩;rw [g,DH,HX]at hn;exact hn.2.2 _ G _ B7 V
theorem TB{g:CZ}{pre:List CA}(h:Jf d d2 pre)(B:g.okb)(h2:d2.like g)(G:g.next=d2.next)(m:g.M=d2.M/\g.MR=d2.MR)(I:g.mi=d2.mi)(J:g.its=d2.its.filter fun y=>y.key≠x.key)(K:∀e∈g.PL,e∈d2.PL):Jf d g (pre++[x.key]):=by
 refine ⟨B,h.like.trans h2,G.trans h.next,⟨m.1.trans h.M.1,m.2.trans h.M.2⟩,I.trans h.mi,fun e O=>h.PL e (K e O),fun y=>?_⟩;rw [J,GF,h.its,CD,CH];simp only [HA,ne_eq,not_or];exact ⟨fun⟨⟨a,b⟩,e⟩=>⟨a,b,e⟩,fun⟨a,b,e⟩=>⟨⟨a,b⟩,e⟩⟩
theorem AD1{q2:BE}{cap2:Nat}{zi:List Int}{zs ys:List CA}(hc:c.ok)(hR:Db p cs)(hp:p=c.pos+1)(hW:KE c.win W ⟨p,q2,cap2,cs⟩)(h:I1 c d cs p W M1 zi tl)(hM:∀q∈c.M,q∈M1)(ax:∀i,i∈zi↔Jj (c.its.map ItM.iq) cs i)(B:Jf d d2 ys)(U:XV d ys)(hz:zs.Perm tl)(bn:zs.Pairwise fun x y=>x.data.toList<=y.data.toList):Hz c d2 p cs q2 cap2 zs:=by
 have g:∀x∈c.its,x.id∈zi↔Z8 cs x:=fun x hx=>wM hc.its.idx.ids ax hx;have m:∀y,y∈d2.its↔y∈d.its/\p -64<=y.base:=fun y=>by
  rw [B.its];constructor
  · rintro ⟨hy,hn⟩
    refine ⟨hy,Wg fun O=>hn ?_⟩;obtain ⟨ks,X,rfl⟩:=U;refine GF.2 ⟨X.mem_iff.2 (Fk hy),(QV h.okb.its.keys hy).2 ?_⟩;rw [h.pos];omega
  · rintro ⟨hy,hb⟩
    refine ⟨hy,fun O=>?_⟩;obtain ⟨ks,X,rfl⟩:=U;have:=(QV h.okb.its.keys hy).1 (GF.1 O).2
    rw [h.pos]at this;omega
 have G:d2.pos=p:=B.like.pos.trans h.pos;have I:d2.win=W:=B.like.win.trans h.win
 refine ⟨⟨B.okb,fun y hy=>?_⟩,B.like.cp.trans h.cp,G,by rw [I];exact hW,B.like.ns.trans h.ns,B.like.sc.trans h.sc,B.next.trans h.next,fun e he=>h.PL e (B.PL e he),fun y hy=>?_,fun x hx hb hk=>?_,fun k=>?_,hz.nodup_iff.2 h.t2,bn,fun q hq=>by rw [B.M.1,h.M];exact hM q hq⟩
 · obtain ⟨J,K⟩:=(m y).1 hy
   rw [G,I,B.M.1,B.M.2];exact wm (r:=⟨p,q2,cap2,cs⟩) h hc hR hp rfl hW (fun q hq=>by rw [h.M];exact hM q hq) g J K
 · obtain ⟨J,K⟩:=(m y).1 hy
   obtain ⟨x,hx,hs⟩:=h.i1 y J;refine ⟨K,x,hx,hs.core,?_⟩;rcases hs.how with⟨rfl,af⟩|⟨⟨hin,hb⟩,hok,_,hsi,_⟩
   · exact .inl ⟨fun O=>af ⟨(g y hx).2 O.1,O.2⟩,rfl,rfl⟩
   · exact .inr ⟨⟨(g x hx).1 hin,hb⟩,hok,hsi⟩
 · obtain ⟨y,hy,Z⟩:=h.i2 x hx fun h1 h2=>hk ((g x hx).1 h1) h2
   exact ⟨y,(m y).2 ⟨hy,by rw [(IX Z).2.2.2.2.1];exact hb⟩,Z⟩
 · rw [hz.mem_iff,h.t1]
   constructor;· rintro ⟨x,hx,a,b,e⟩;exact ⟨x,hx,a,(g x hx).1 b,e⟩
   · rintro ⟨x,hx,a,b,e⟩;exact ⟨x,hx,a,(g x hx).2 b,e⟩
theorem kR(h:I1 c d cs p W' M1 ids tl)(hc:c.ok)(hC:CL ME (.slice qa cs.length cap) cs)(O:cs.length<=1000)(hx:x∈c.its)(hb:x.base<p)(G:x.id∉ids)(hT:Row 9 tv (tl.map Value.string) st)(U:tl.length<=1000000)(K J I:Nat):
 BS prog 45 #[.string x.key,.pointer (some ⟨x.b,0,none⟩),I5 K,I5 J,I5 I] [[(K,.cells #[tv] 50 (0,0))],[(J,.cells #[I4 p,.slice qa cs.length cap] 55 (0,0))],[(I,.cells #[.pointer (some ⟨c.cp,0,none⟩)] 35 (0,0))],st,[(c.cp,.cells d.BM8 110 (0,0))],d.sW,d.z.S,[(d.mb,.map d.esP d.ckP)],d.su,[(d.ip,.cells #[.map (some d.mq),d.lv] 200 (0,0))],[(d.mq,.map d.esQ d.ckQ)],d.ML,[(d.mi,.map d.esI d.ckI)],[(d.mkb,.map d.esK d.ckK)],d.SI,d.M,d.MR,ME] (fun v H'=>v=undef/\∃(d2:CZ) (m:A2) (g:List A8),I1 c d2 cs p W' M1 (ids++[x.id]) (tl++[x.key])/\Row 9 m ((tl++[x.key]).map Value.string) g/\H'=[[(K,.cells #[m] 50 (0,0))],[(J,.cells #[I4 p,.slice qa cs.length cap] 55 (0,0))],[(I,.cells #[.pointer (some ⟨c.cp,0,none⟩)] 35 (0,0))],g,[(c.cp,.cells d2.BM8 110 (0,0))],d2.sW,d2.z.S,[(d2.mb,.map d2.esP d2.ckP)],d2.su,[(d2.ip,.cells #[.map (some d2.mq),d2.lv] 200 (0,0))],[(d2.mq,.map d2.esQ d2.ckQ)],d2.ML,[(d2.mi,.map d2.esI d2.ckI)],[(d2.mkb,.map d2.esK d2.ckK)],d2.SI,d2.M,d2.MR,ME]):=by
 rw [<-h.cp];have X:=h.next_it hc.tookb hx G
 have hl:x.live d.MR:=by
  have B:=(hc.all x hx).live hc.tookb;exact ⟨B.q,B.rw.mono h.MR,B.wn,B.wv⟩
 cases hok:(Bf x.q x.res cs).2.2 with
 |true=>
  refine (sU h.okb X hl p hC O hok hT U K J I).mono ?_;rintro v H' ⟨B,wq,wc,m,g,s,h2,Z,h4,rfl⟩;exact ⟨B,_,m,g,wj h hc.tookb h4 hx hb G hok Z,h2,V⟩
 |false=>
  refine (sV h.okb X hl p hC O hok hT U K J I).mono ?_;rintro v H' ⟨B,d2,m,g,h2,Z,h4,h5,_,h6,h7,h8,rfl⟩;exact ⟨B,d2,m,g,wk h hc.tookb hx hb G hok h2 Z h4 h5 h6 h7,h8,by rw [Z.cp]⟩
end Go.Proofs.YtlkdhannldcfbabGreatDoor
