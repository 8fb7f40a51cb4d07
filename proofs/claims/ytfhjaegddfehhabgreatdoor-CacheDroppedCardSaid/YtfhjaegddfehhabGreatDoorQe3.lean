/- The store: At. -/
import Derived.Test.YtfhjaegddfehhabGreatDoorKs2
import Derived.WalkSpells
import Derived.Test.YtfhjaegddfehhabGreatDoorEx30
import Derived.Shelf.SlSortCmp.NoneTotal
set_option linter.unusedVariables false
set_option linter.unusedSimpArgs false
namespace Go.Proofs.YtfhjaegddfehhabGreatDoor
open Go.Proofs.Tryz
open Go Go.RowKit Gw
set_option maxRecDepth 100000
attribute [local irreducible] Gw.At Gw.Nx Gw.Ops
theorem w8(q:B6)(cap:Nat)(l:List BP)(M:List A9)(ax:EE M (.slice q l.length cap) l)(G:FC l)(hl:l.length<=1000000)(k:Nat)(hk:k<=l.length):
 BZ prog 33 #[.slice q l.length cap,I4 (k:Int)] [M] (fun r H'=>∃J mb es ck lm,r= .tuple #[I5 J,I4 0]/\Cm K2 es ck lm/\HV lm (Bb (l.take k))/\H'=[[(J,.cells #[.map (some mb),I4 (k:Int)] 234 (0,0))],[(mb,.map es ck)],M]):=by
 have j3:=mL;obtain ⟨p9,gy,e9,⟨j5,ic⟩,hg⟩:=id ax;injection e9 with e91 e92 e93
 subst e91 e93;refine Se func33 ntmps33 [0,1] ?_;intro u R;refine A0<|Za Y<|A4 Y<|Zq<|A0<|Zm Y<|Zv (Au (n:=0) Y Y)<|Zm Y<|Aj (t:=11) Y V (fun h1=>?_) (fun h1=>?_);·
  exfalso;(cases h1;done)
 refine Zf Y Y<|Zf Y Y<|Yg (AY GO Y)<|Yg (DK Y Y)<|Zv (AL Y Y)<|A5<|Aq Y (fun h2=>by omega)<|fun h2=>AC<|Zx<|A0<|Zc [] Y call80 Y V (tD) ?_;rintro _ _ ⟨_,⟨J,mb,rfl,rfl⟩,rfl⟩;refine A4 Y<|Zq<|A0<|Zm Y<|Zm Y<|BV (Bu GO F1 Y Y A1)<|Zv (AY GO Y)<|Zm Y<|Z0<|Zn [6,20,21,22] ?_;refine Zx<|AQ<|Zb [22,6,20,21] ?_;refine BA (e0:=[(22,_)]) (fun m e H=>∃(i:Nat) (es:Array MapEntry) (ck:Nat) (lm:List ((Int×Int)×A3)),m=k -i/\(i<=k/\Cm K2 es ck lm/\HV lm (Bb (l.take i)))/\e=[(22,I4 (i:Int))]/\H=[[(J,.cells #[.map (some mb),I4 (i:Int)] 234 (0,0))],[(mb,.map es ck)]]) (by exact ⟨0,#[],0,[],rfl,⟨C5 _,EW _,by rw [Kd];exact tY⟩,rfl,rfl⟩) Wp ?_;rintro _ _ _ ⟨i,es,ck,lm,rfl,⟨hi,hm,hR⟩,rfl,rfl⟩;refine A0<|Zv (Au Y Y)<|A5<|Zq<|Aq Y (fun cO=>?_) (fun cO=>?_);·
  obtain ⟨r,hr⟩:∃r,l[i]?=some r:=⟨_,B7 A1⟩;obtain ⟨X,g,off,cur,T,zz,rfl,ek,kv,bn⟩:=hg i r hr;obtain ⟨hA,h3⟩:=G i r hr;have gm:=hA.pos
  obtain ⟨gq,cu⟩:=G.rows i A1;refine AC<|Zx<|Zq<|AQ<|A0<|BV (Ad GO F1 Y Y A1)<|CG (cs:=[(g,.cells cur T zz)]) (by simp [ek]) (AA (cs:=#[_,_]) HP F1 Y A1 bn) V rfl<|Ze (Al S2 #[_,_])<|AG fun rb=>Xe (Xw F1 #[I4 r.p,.slice r.q r.cs.length r.cap])<|A5<|A0<|Zm Y<|Zo Wh (AA (cs:=#[_,_]) HP F1 Y B1 As)<|Zc [_,_] Y call81 Y V (qR J mb (i:Int) r.p es ck lm (Bb (l.take i)) M r.q r.cap r.cs hm hR X gq cu hA) ?_;rintro _ _ ⟨_,⟨rfl,U,O,I,d9,Z,rfl⟩,rfl⟩;have af:HV I (Bb (l.take (i+1))):=by rw [RK,hr];show HV I (Bb (l.take i++[r]));rw [Gn];exact Z
  rw [show r.p=((i+1:Nat):Int) by rw [gm];rfl];refine Zv (Dn (n:=0) Y Y)<|A5<|Aq Y (fun h4=>?_) (fun h4=>?_);·
   exfalso;exact h4 rfl
  refine AC<|A8<|Zx<|Zg<|Ya (n:=1) Y Y<|Zm Y<|Z0<|Zn [22,6,20,21] ?_;refine Ab (e':=[(22,_)]) (by exact ⟨i+1,U,O,I,V,⟨by omega,d9,af⟩,V,V⟩)
 have ei:i=k:=by omega
 subst ei;refine Ay<|Zt<|Zt<|AR<|Zx<|A0<|Zm Y<|Za Y<|A4 Y<|AJ<|Cv V results33 Y Y (by exact ⟨J,mb,es,ck,lm,V,hm,hR,V⟩)
def Di(r:AX)(c:Nat):Int:=if c=0 then r.k else if c=1 then r.v.a else if c=2 then r.v.b else r.v.c
def fG(c:Nat)(out:List AX)(v:Int):Nat:=(out.reverse.dropWhile (fun r=>decide (v<Di r c))).length
def aV(c:Nat)(out:List AX)(x:AX):List AX:=out.take (fG c out (Di x c))++[x]++out.drop (fG c out (Di x c))
def inR(t:Int)(c:Nat)(lo hi:Int)(r:AX):Bool:=decide (r.t=t/\lo<=Di r c/\Di r c<=hi)
def Dt(rs:List AX)(t:Int)(c:Nat)(lo hi:Int):List AX:=(rs.filter (inR t c lo hi)).foldl (aV c) []
end Go.Proofs.YtfhjaegddfehhabGreatDoor
namespace Go.Proofs.YtfhjaegddfehhabGreatDoor
open Go.Proofs.Tryz
open Go Go.RowKit Gw
set_option maxRecDepth 100000
attribute [local irreducible] Gw.At Gw.Nx Gw.Ops
open Go.Sort
def Bl(r:AX)(c:Int):Int:=if c=0 then r.k else if c=1 then r.v.a else if c=2 then r.v.b else if c=3 then r.v.c else 0
set_option maxHeartbeats 1000000 in
theorem Jb(r:AX)(c:Int)(hc:0<=c/\c<=3)(W:AD):Calls prog 142 #[.agg r.A97,I4 c] W fun e g=>e= .returned (I4 (Bl r c))/\∃(q:Nat) (o:Obj),g=grow (W.drewN q) #[o]:=by
 obtain ⟨t,k,⟨m,G,I⟩⟩:=r;rcases (by omega:c=0\/c=1\/c=2\/c=3)with rfl|rfl|rfl|rfl
 all_goals
  go_enter func142,ntmps142
  go_wp2
  go_ret
  exact ⟨rfl,0,_,by rw [alloc_eq_grow];rfl⟩
def orL(x y:Int):Int:=if x=0 then y else x
theorem si(b:Nat)(x y:Int)(W:AD)(h0:W.cell? ⟨b,0,none⟩=some (I4 x))(I:W.cell? ⟨b,1,none⟩=some (I4 y)):Calls prog 200 #[I6 b 2 2] W fun e G=>e= .returned (I4 (orL x y))/\G=W:=by
 generalize hz:orL x y=z;have g:=Lib.hid hz
 clear hz
 go_enter func200,ntmps200
 go_wp2
 go_loop [5,8] (fun _ i=>∃(j:Nat),i=I4 j/\(j=0\/(j=1/\x=0)\/(j=2/\x=0/\y=0))) (fun _ i=>2 -(intOf i).toNat)
 case atStart=>exact ⟨0,rfl,.inl rfl⟩
 case round=>
  obtain ⟨j,rfl,m⟩:=hrel;rcases m with rfl|⟨rfl,hx⟩|⟨rfl,hx,hy⟩
  · by_cases hx:x=0
    · subst hx
      go_wp2
      go_round
      case rel=>exact ⟨1,by go_num,by simp⟩
      case measure=>simp [intOf]
    · go_wp2
      go_ret
      exact ⟨by rw [<-g.out];unfold orL;rw [An hx];rfl,rfl⟩
  · subst hx
    by_cases hy:y=0
    · subst hy
      go_wp2
      go_round
      case rel=>exact ⟨2,by go_num,by simp⟩
      case measure=>simp [intOf]
    · go_wp2
      go_ret
      exact ⟨by rw [<-g.out];unfold orL;rw [Ax rfl];rfl,rfl⟩
  · subst hx hy
    go_wp2
    go_ret
    exact ⟨by rw [<-g.out];rfl,rfl⟩
theorem SY{u w:AD}{H:Hp}(h:Sat u H w)(q:Nat)(os:Array Obj):Sat u H (grow (w.drewN q) os):=by
 refine ⟨h.os,h.tape,h.output,h.nodup,fun p m=>?_⟩;have g:=h.lt m
 show(w.heap++os)[p.1]?=_;rw [fR g];exact h.get p m
theorem Li(r:AX)(c:Nat)(hc:c<=3):Bl r (c:Int)=Di r c:=by
 rcases (by omega:c=0\/c=1\/c=2\/c=3)with rfl|rfl|rfl|rfl<;>rfl
theorem Om(r:AX)(c:Nat)(hc:c<=3):BB prog 142 #[.agg r.A97,I4 (c:Int)] [] (I4 (Di r c)):=fun u R w g=>
 (Jb r (c:Int) A1 w).mono (by
   rintro e m ⟨rfl,q,o,rfl⟩;exact .inl ⟨_,[],rfl,⟨by rw [Li r c hc],rfl⟩,SY g q _⟩)
theorem rM(r:AX)(t:Int)(c:Nat)(lo hi:Int)(hc:c<=3)(g m G I:Nat):BB prog 149 #[.agg r.A97,I5 g,I5 m,I5 G,I5 I] [[(g,.cells #[I4 (c:Int)] 3 (0,0))],[(m,.cells #[I4 t] 3 (0,0))],[(G,.cells #[I4 lo] 3 (0,0))],[(I,.cells #[I4 hi] 3 (0,0))]] (.bool (inR t c lo hi r)):=by
 refine Se func149 ntmps149 [0,1,2,3,4] ?_;intro u R;refine A0<|Ze (Bx #[_,_,_,_,_])<|AG fun g=>A4 Y<|A0<|Zo Wh (Pa #[_,_,_,_,_] D0 B0 Y)<|Zl AF Y<|Xr [_,_] Y Sx Y V (Om r c hc)<|A4 Y<|A0<|Zh 0 G0 V rfl A6 Y<|Zl AF Y<|Zl AF Y<|Zv (CK Y Y)<|Zm Y<|Aj (t:=15) Y V (fun J=>?_) (fun J=>?_);·
  refine Zf Y Y<|Yl AF Y<|Yg (He Y Y)<|Zv (AV Y Y)<|Zm Y<|Aj (t:=20) Y V (fun h2=>?_) (fun h2=>?_);·
   refine Zf Y Y<|Yl AF Y<|Yg (NY Y Y)<|Zv (AV Y Y)<|AN Y<|Zn [6] ?_;refine Zx<|AJ<|AO V results149 Y (by exact ⟨by unfold inR;(simp_all;done),V⟩)
  refine A7 Y V<|A7 Y V<|A7 Y V<|Zv (AL Y Y)<|AN Y<|Zn [6] ?_;refine Zx<|AJ<|AO V results149 Y (by exact ⟨by unfold inR;(congr 1;simp;omega),V⟩)
 refine A7 Y V<|A7 Y V<|A7 Y V<|Zv (AL Y Y)<|Zm Y<|A7 Y V<|A7 Y V<|A7 Y V<|Zv (AL Y Y)<|AN Y<|Zn [6] ?_;refine Zx<|AJ<|AO V results149 Y (by exact ⟨by unfold inR;(simp_all;done),V⟩)
end Go.Proofs.YtfhjaegddfehhabGreatDoor
namespace Go.Proofs.YtfhjaegddfehhabGreatDoor
open Go.Proofs.Tryz
open Go Go.RowKit Gw
set_option maxRecDepth 100000
attribute [local irreducible] Gw.At Gw.Nx Gw.Ops
theorem F8:∀(n:Nat) (js:List Nat),js.Nodup->(∀j∈js,j<n)->js.length<=n
 |0,js,_,h=>by
  cases js with
  |nil=>simp
  |cons a l=>exact absurd (h a B4) (cX _)
 |n+1,js,hn,h=>by
  by_cases G:n∈js
  · have m:=F8 n (js.erase n) (hn.erase n) (fun j g=>by
     have h2:=(hn.mem_erase_iff).1 g;have I:=h j h2.2
     have J:=h2.1;omega)
    rw [oT G]at m;omega
  · have m:=F8 n js hn (fun j g=>by
     have I:=h j g;have J:j≠n:=fun e=>G (e▸g)
     omega)
    omega
def Jj(r:AX):(Int×Int)×A3:=((r.t,r.k),Sm r)
theorem Mr{a b:AX}(h:Jj a=Jj b):a=b:=Yu (Prod.mk.inj h).2
theorem fI{a b:List AX}(G:(a.map Jj).Nodup)(h:(a.map Jj).Perm (b.map Jj)):a.Perm b:=by
 have I:∀{l:List AX},(l.map Jj).Nodup->l.Nodup:=fun{l} hl=>by
  rw [al,V0]at hl;rw [al];exact hl.imp (fun m e=>m (by rw [e]))
 rw [S7 (I G) (I (h.nodup G))];intro x;have g:=h.mem_iff (a:=Jj x)
 rw [C3,C3]at g;constructor
 · intro hx
   obtain ⟨y,hy,e⟩:=g.1 ⟨x,hx,rfl⟩;rwa [Mr e]at hy
 · intro hx
   obtain ⟨y,hy,e⟩:=g.2 ⟨x,hx,rfl⟩;rwa [Mr e]at hy
variable{rs:List AX}
theorem HV.perm{es:Array MapEntry}{ck:Nat}{l:List ((Int×Int)×A3)}(I:Cm K2 es ck l)(h:HV l rs)(J:BQ rs):l.Perm (rs.map Jj):=by
 have G:l.Nodup:=by
  have:=I.keys;rw [al,V0]at this;rw [al];exact this.imp (fun g e=>g (by rw [e]))
 have h2:(rs.map Jj).Nodup:=by
  rw [al,V0];refine J.imp (fun{a b} hab e=>?_);have e2:=Mr e
  subst e2;unfold AX.lt2 at hab;omega
 rw [S7 G h2];intro p;rw [h.mem p,C3];constructor;· rintro ⟨r,m,rfl⟩;exact ⟨r,m,rfl⟩
 · rintro ⟨r,m,rfl⟩;exact ⟨r,m,rfl⟩
structure YH(lm:List ((Int×Int)×A3))(f:AX->Bool)(js:List Nat)(o:List AX):Prop where
 rows:∃rl:List AX,rl.map Jj=DV lm js/\o=rl.filter f
theorem qX(lm:List ((Int×Int)×A3))(f:AX->Bool):YH lm f [] []:=⟨[],rfl,rfl⟩
theorem YH.push{lm:List ((Int×Int)×A3)}{rs:List AX}{f:AX->Bool}{js:List Nat}{o:List AX}(h:YH lm f js o){j:Nat}{r:AX}(m:lm[j]?=some (Jj r)):YH lm f (js++[j]) (o++(if f r then [r]else [])):=by
 obtain ⟨rl,g,h2⟩:=h.rows;refine ⟨rl++[r],by rw [C2,g,G5 lm js m];rfl,?_⟩;rw [IH,<-h2];cases hf:f r<;>simp [hf]
theorem YH.done{es:Array MapEntry}{ck:Nat}{lm:List ((Int×Int)×A3)}(O:Cm K2 es ck lm)(J:HV lm rs)(m:BQ rs){f:AX->Bool}{js:List Nat}{o:List AX}(h:YH lm f js o)(U:(DV lm js).Perm lm):o.Perm (rs.filter f):=by
 obtain ⟨rl,G,rfl⟩:=h.rows;have h2:=J.perm O m
 have g:(rl.map Jj).Perm (rs.map Jj):=by rw [G];exact U.trans h2
 have I:(rs.map Jj).Nodup:=by
  rw [al,V0];refine m.imp (fun{a b} hab e=>?_);have e2:=Mr e
  subst e2;unfold AX.lt2 at hab;omega
 exact (fI (g.symm.nodup I) g).filter f
def leV(c:Nat)(a b:AX):Prop:=Di a c<Di b c\/Di a c=Di b c/\a.k<=b.k
def wO:Prop:=∀(cb c:Nat) (w:A3) (o:List AX) (s:List A9),c<=3->o.length<=2000->Bd 5 72 w o.length (Af o) s->
    BZ prog 198 #[w,.func (.func 199) #[] #[I5 cb]] [s,[(cb,.cells #[I4 (c:Int)] 3 (0,0))]]
     (fun r H'=>r= .tuple #[]/\∃(s':List A9) (o':List AX),o'.Perm o/\o'.Pairwise (leV c)/\Bd 5 72 w o'.length (Af o') s'/\H'=[s',[(cb,.cells #[I4 (c:Int)] 3 (0,0))]])
theorem Y4(hS:wO)(sp mb:Nat)(p:Int)(es:Array MapEntry)(ck:Nat)(lm:List ((Int×Int)×A3))(rs:List AX)(hm:Cm K2 es ck lm)(hR:HV lm rs)(hs:BQ rs)(hn:rs.length<=2000)(t:Int)(c:Nat)(lo hi:Int)(hc:c<=3)(b1 b2 b3 b4:Nat):
 BZ prog 148 #[I5 sp,I4 (c:Int),.func (.func 149) #[] #[I5 b1,I5 b2,I5 b3,I5 b4]] [[(sp,.cells #[.map (some mb),I4 p] 234 (0,0))],[(mb,.map es ck)],[(b1,.cells #[I4 (c:Int)] 3 (0,0))],[(b2,.cells #[I4 t] 3 (0,0))],[(b3,.cells #[I4 lo] 3 (0,0))],[(b4,.cells #[I4 hi] 3 (0,0))]] (fun r H'=>∃(J:List A9) (o:List AX),Bd 5 72 r o.length (Af o) J/\o.Perm (rs.filter (inR t c lo hi))/\o.Pairwise (leV c)/\H'=[J,[(sp,.cells #[.map (some mb),I4 p] 234 (0,0))],[(mb,.map es ck)],[(b1,.cells #[I4 (c:Int)] 3 (0,0))],[(b2,.cells #[I4 t] 3 (0,0))],[(b3,.cells #[I4 lo] 3 (0,0))],[(b4,.cells #[I4 hi] 3 (0,0))]]):=by
 have l8:=mL;have l5:=hR.len hm hs
 refine Se func148 ntmps148 [0,1,2] ?_;intro u R;refine A0<|Ze (Bx #[_])<|AG fun cb=>A4 Y<|Zq<|A0<|Zm Y<|Zv (Be lP Y Y)<|A5<|AU Y (fun h1=>by cases h1)<|fun h1=>AC<|Zx<|A0<|A4 Y<|Zq<|A0<|Zm Y<|Zp Y V<|Zh 0 cn V rfl dp Y<|Zv (Ar (off:=0) cY V rfl sizeOf230 Y)<|Zl isAgg230 Y<|Ze (Nj gn Y Wh)<|AG fun ib=>A5<|AQ<|BX<|Zb [7,2,4,17] ?_;refine BA (e0:=[(7,_)]) (fun m e H=>∃(js:List Nat) (seen:Array Nat) (o:List AX) (w:A3) (J:List A9),m=lm.length -js.length/\(J2 es js seen/\YH lm (inR t c lo hi) js o/\Bd 5 72 w o.length (Af o) J/\o.length<=js.length)/\e=[(7,w)]/\H=[[(ib,.mapIter (some mb) ck seen ck)],J]) (by exact ⟨[],#[],[],.slice none 0 0,[],V,⟨KV _,qX _ _,Bf 5 _,D2 _⟩,V,V⟩) Wp ?_;rintro _ _ _ ⟨js,seen,o,w,J,rfl,⟨X,cO,G,l9⟩,rfl,rfl⟩;obtain ⟨qo,ic,rfl⟩:=G.form;have d9:=F8 es.size js X.nodup X.lt
 rw [hm.size]at d9;refine A0<|Ze (Pz hm X Y Wo Wh) ?_;rintro _ _ ek;rcases ek with⟨O,rfl,rfl⟩|⟨jn,pn,seen2,hpn,hjn,hi2,rfl,rfl⟩
 ·
  refine Zd Y V<|A5<|Zq<|AU Y (fun hb=>by cases hb)<|fun hb=>Ay<|Zt<|Zt<|AR<|Zx<|A0<|Zm Y<|Zv (Bh (vs:=[]) (us:=[_]) Y Y)<|Zc [_,_] Y call198 Y V (hS cb c _ o J hc A1 G) ?_;rintro _ _ ⟨_,⟨rfl,gy,o2,gm,gq,cu,rfl⟩,rfl⟩;refine A5<|A0<|Zm Y<|A4 Y<|AJ<|AO V results148 Y (by exact ⟨gy,o2,cu,gm.trans (cO.done hm hR hs O),gq,V⟩)
 obtain ⟨r,hr,rfl⟩:=(hR.mem pn).1 (Dg hpn);refine Zd Y V<|A5<|Zq<|AU Y (fun hb=>?_) (fun hb=>?_);·
  have ax:=F8 es.size (js++[jn]) hi2.nodup hi2.lt;rw [hm.size,BW,Fl]at ax;have kv:(js++[jn]).length=js.length+1:=by rw [BW];rfl
  have g:=cO.push (r:=r) (rs:=rs) hpn;have af:(inR t c lo hi) r=true->YH lm (inR t c lo hi) (js++[jn]) (o++[r]):=fun h=>by rw [h]at g;exact g
  have Z:(inR t c lo hi) r=false->YH lm (inR t c lo hi) (js++[jn]) o:=fun h=>by rw [h]at g;simpa using g
  refine AC<|Zx<|AQ<|A0<|CG (cs:=[(ib,.mapIter (some mb) ck seen2 ck),(mb,.map es ck)]) B4 (JK hm hi2 hpn Y) V rfl<|Zd Y V<|Ze (Al F0 #[_,_,_,_,_])<|AG fun xb=>Xe (Xw B0 r.A97)<|A5<|A0<|Zm Y<|Zo Wh (Pa #[_,_,_,_,_] D0 B0 Y)<|Xr [_] Y call149 Y V (rM r t c lo hi hc b1 b2 b3 b4)<|A5<|AU Y (fun U=>?_) (fun U=>?_);·
   refine Zg<|Zm Y<|Zo Wh (Pa #[_,_,_,_,_] D0 B0 Y)<|Ze (Ai (vs:=[_]) (cs:=[_,_,_,_,_]) BE B0 F0 Y V rfl V rfl V)<|AG fun gb=>Ze (BR (by_:=40) (sz:=5) BE (V:Tryz.prog.info? 72=some Tryz.t72) V rfl V rfl Y (G) Y (DN 5 gb 1 1 72 (0,0) [I4 r.t,I4 r.k,I4 r.v.a,I4 r.v.b,I4 r.v.c] V) Wo Wo GP A1 A1) ?_;rintro _ _ ⟨o8,I,rfl⟩;have bn:=BS I (n':=(o++[r]).length) (xs':=Af (o++[r])) (by rw [BW];rfl) (by rw [Bi];rfl)
   obtain ⟨j5,j3,rfl⟩:=I.form;refine AN Y<|Zn [2,4,7,17] ?_;refine A8<|Zn [7,2,4,17] ?_;refine Ab (e':=[(7,_)]) (by exact ⟨js++[jn],seen2,o++[r],_,_,rfl,⟨hi2,af U,bn,by rw [BW,BW];simp;omega⟩,rfl,rfl⟩)
  refine AC<|A8<|Zn [7,2,4,17] ?_;refine Ab (e':=[(7,_)]) (by exact ⟨js++[jn],seen2,o,_,J,rfl,⟨hi2,Z U,G,by rw [BW];omega⟩,rfl,rfl⟩)
 cases hb
end Go.Proofs.YtfhjaegddfehhabGreatDoor
namespace Go.Proofs
open Go.Shelf
def Tryz.sortRow_ren:Go.Shelf.Ren:=⟨fun|6=>198|15=>108|14=>249|28=>173|29=>174|20=>280|21=>281|22=>282|23=>283|24=>284|25=>285|26=>286|27=>287|46=>316|47=>233|48=>234|49=>317|50=>318|57=>330|n=>n,fun|22=>52|24=>72|25=>315|3=>3|39=>205|0=>0|53=>291|55=>293|4=>4|46=>283|45=>282|50=>288|5=>5|9=>9|66=>334|70=>121|76=>374|77=>375|n=>n,fun|n=>n⟩
theorem Tryz.sortRow:Go.Proofs.SlLaysF0.n6 prog Tryz.sortRow_ren:={
 mixed:=by kernel_rfl
 f6:=⟨Tryz.f198.name,by decide,func198.trans (congrArg some AE)⟩
 f14:=⟨Tryz.f249.name,by decide,func249.trans (congrArg some AE)⟩
 f15:=func108.trans (congrArg some AE)
 f20:=⟨Tryz.f280.name,by decide,func280.trans (congrArg some AE)⟩
 f21:=⟨Tryz.f281.name,by decide,func281.trans (congrArg some AE)⟩
 f22:=⟨Tryz.f282.name,by decide,func282.trans (congrArg some AE)⟩
 f23:=⟨Tryz.f283.name,by decide,func283.trans (congrArg some AE)⟩
 f24:=⟨Tryz.f284.name,by decide,func284.trans (congrArg some AE)⟩
 f25:=⟨Tryz.f285.name,by decide,func285.trans (congrArg some AE)⟩
 f26:=⟨Tryz.f286.name,by decide,func286.trans (congrArg some AE)⟩
 f27:=⟨Tryz.f287.name,by decide,func287.trans (congrArg some AE)⟩
 f28:=func173.trans (congrArg some AE)
 f29:=func174.trans (congrArg some AE)
 f46:=⟨Tryz.f316.name,by decide,func316.trans (congrArg some AE)⟩
 f47:=func233.trans (congrArg some AE)
 f48:=func234.trans (congrArg some AE)
 f49:=⟨Tryz.f317.name,by decide,func317.trans (congrArg some AE)⟩
 f50:=⟨Tryz.f318.name,by decide,func318.trans (congrArg some AE)⟩
 f57:=⟨Tryz.f330.name,by decide,func330.trans (congrArg some AE)⟩
 t0:=ec
 a0:=isAgg0
 z0:=sizeOf0
 v0:=dc
 t3:=CM
 a3:=AF
 z3:=A6
 v3:=HG
 t4:=LS
 a4:=E6
 z4:=Cp
 v4:=W5
 t5:=N1
 a5:=UP
 z5:=K0
 v5:=Sp
 t9:=H4
 a9:=HK
 z9:=Fo
 v9:=Hs
 t22:=BE
 a22:=Fm
 z22:=CI
 v22:=zeroValue52
 t25:=underlying315
 a25:=isAgg315
 z25:=sizeOf315
 v25:=zeroValue315
 t39:=Wk
 a39:=isAgg205
 z39:=el
 v39:=gA
 t45:=kj
 a45:=isAgg282
 z45:=sizeOf282
 v45:=l4
 t46:=kk
 a46:=isAgg283
 z46:=sizeOf283
 v46:=lA
 t50:=ki
 a50:=isAgg288
 z50:=sizeOf288
 v50:=l3
 t53:=Tl
 a53:=Hv
 z53:=G1
 v53:=gC
 t55:=Wr
 a55:=Z3
 z55:=dj
 v55:=gE
 t66:=kl
 a66:=isAgg334
 z66:=sizeOf334
 v66:=lB
 t70:=kn
 a70:=isAgg121
 z70:=Tr
 v70:=Xs
 t76:=kq
 a76:=isAgg374
 z76:=sizeOf374
 v76:=lE
 t77:=kx
 a77:=isAgg375
 z77:=sizeOf375
 v77:=lO}
end Go.Proofs
namespace Go.Proofs.YtfhjaegddfehhabGreatDoor
open Go.Proofs.Tryz
open Go Go.RowKit Gw
set_option maxRecDepth 100000
attribute [local irreducible] Gw.At Gw.Nx Gw.Ops
open Go.Sort Go.Shelf
attribute [local go_sem] Gl.evalE Gl.lookE Gl.linUpon Gl.wantedE Gl.yieldE Gl.putE
def oq(c:Nat)(a b:AX):Int:=orL (Lib.compareInt (Bl a (c:Int)) (Bl b (c:Int))) (Lib.compareInt a.k b.k)
def Stg(W:AD)(n:Nat)(w:AD):Prop:=∃q os,os.size=n/\w=grow (W.drewN q) os
theorem xO(W:AD):Stg W 0 W:=⟨0,#[],rfl,by simp [World.drewN]⟩
variable{w W:AD}{n:Nat}
theorem qQ(h:Stg W n w):Stg W n w.drew:=by
 obtain ⟨q,os,rfl,rfl⟩:=h;exact ⟨q+1,os,V,V⟩
theorem Oc(h:Stg W n w)(m:Nat)(g:Array Obj):Stg W (n+g.size) (grow (w.drewN m) g):=by
 obtain ⟨q,os,rfl,rfl⟩:=h;refine ⟨q+m,os++g,by simp,?_⟩;simp [grow,World.drewN,Array.append_assoc,kO]
theorem IX{b:Nat}{o:Obj}(h:Stg W n w)(m:W.heap[b]?=some o):w.heap[b]?=some o:=by
 obtain ⟨q,os,rfl,rfl⟩:=h;have g:=(HU.1 m).1
 show(W.heap++os)[b]?=_;rw [fR g];exact m
theorem qP(h:Stg W n w):w.heap.size=W.heap.size+n:=by
 obtain ⟨q,os,rfl,rfl⟩:=h;show(W.heap++os).size=_
 simp
theorem Qm(w:AD)(o:Obj):(w.alloc o).heap[w.heap.size]?=some o:=by
 show(w.heap.push o)[w.heap.size]?=some o;exact Array.getElem?_push_size
theorem jE(w:AD)(o:Obj):(w.alloc o).heap.size=w.heap.size+1:=Array.size_push _
def yk:Nat->Nat
 |0=>0|1=>1|2=>2|3=>2|4=>2|5=>3|_=>3
def zr(W:AD)(T:Nat)(x y:Int)(k:Nat)(w:AD):Prop:=Stg W (yk k) w/\(5<=k->w.heap[W.heap.size+2]?=some (.cells #[I4 x,I4 y] T (0,0)))
set_option maxHeartbeats 2000000 in
theorem oo(a b:AX)(c:Nat)(hc:c<=3)(cb:Nat)(W:AD)(af:W.heap[cb]?=some (.cells #[I4 (c:Int)] 3 (0,0))):Calls prog 199 #[.agg a.A97,.agg b.A97,I5 cb] W fun e U=>e= .returned (I4 (oq c a b))/\∃q O,U=grow (W.drewN q) O:=by
 have bn:=(HU.1 af).1
 go_enter func199,ntmps199
 go_wp2
 generalize hW2:(W.alloc _).alloc _=W2;have Z:Stg W 2 W2:=by
  rw [<-hW2,alloc_eq_grow,alloc_eq_grow,grow_grow];exact ⟨0,_,V,V⟩
 have ax:Stg (W.alloc (.cells a.A97 72 (0,0))) 1 W2:=by
  rw [<-hW2,alloc_eq_grow _ (.cells b.A97 72 (0,0))];exact ⟨0,_,V,V⟩
 have hA:=IX ax (Qm _ _);have hB:W2.heap[W.heap.size+1]?=some (.cells b.A97 72 (0,0)):=by
  rw [<-hW2,<-jE W (.cells a.A97 72 (0,0))];exact Qm _ _
 have hC:=IX Z af;refine Gl.wp_region_lin [false,false,true,false,false,true,true,false,false,false,false,true,true,true,false] (zr W2 3 (Lib.compareInt (Bl a (c:Int)) (Bl b (c:Int))) (Lib.compareInt a.k b.k)) 20 V AE AE ⟨qQ (xO W2),fun h=>absurd h AW⟩ ?_;intro fr J;have X:=Lib.hid J
 have e2:fr.tmps.getD 2 undef=I5 cb:=by rw [J];rfl
 have e3:fr.tmps.getD 3 undef= .pointer (some ⟨W.heap.size,0,none⟩):=by rw [J];rfl
 have e4:fr.tmps.getD 4 undef= .pointer (some ⟨W.heap.size+1,0,none⟩):=by rw [J];rfl
 clear J;apply Gl.wpLin_keep
 · intro j G g K m
   have I:=IX g.1 hA;have c0:=Ck (i:=0) I rfl
   have c1:=Ck (i:=1) I rfl;have c2:=Ck (i:=2) I rfl
   have c3:=Ck (i:=3) I rfl;have c4:=Ck (i:=4) I rfl
   go_simp
   exact m _ g
 apply Gl.wpLin_keep
 · intro j G g K m
   have c0:=Ck (i:=0) (IX g.1 hC) rfl
   go_simp
   exact m _ g
 apply Gl.wpLin_move
 · intro G g K m
   go_simp
   exact (Jb a (c:Int) A1 _).mono (by
    rintro e U ⟨rfl,q,o,rfl⟩;exact ⟨_,V,m _ ⟨Oc g.1 q #[o],fun h=>absurd h AW⟩⟩)
 apply Gl.wpLin_keep
 · intro j G g K m
   have I:=IX g.1 hB;have c0:=Ck (i:=0) I rfl
   have c1:=Ck (i:=1) I rfl;have c2:=Ck (i:=2) I rfl
   have c3:=Ck (i:=3) I rfl;have c4:=Ck (i:=4) I rfl
   go_simp
   exact m _ g
 apply Gl.wpLin_keep
 · intro j G g K m
   have c0:=Ck (i:=0) (IX g.1 hC) rfl
   go_simp
   exact m _ g
 apply Gl.wpLin_move
 · intro G g K m
   go_simp
   exact (Jb b (c:Int) A1 _).mono (by
    rintro e U ⟨rfl,q,o,rfl⟩;exact ⟨_,V,m _ ⟨Oc g.1 q #[o],fun h=>absurd h AW⟩⟩)
 apply Gl.wpLin_move
 · intro G g K m
   go_simp
   exact (Tryz.cmp_Compare_int _ _ _).mono (by
    rintro e U ⟨rfl,rfl⟩;exact ⟨_,V,m _ ⟨g.1,fun h=>absurd h AW⟩⟩)
 apply Gl.wpLin_keep
 · intro j G g K m
   go_simp
   exact m _ g
 apply Gl.wpLin_keep
 · intro j G g K m
   have c1:=Ck (i:=1) (IX g.1 hA) rfl
   go_simp
   exact m _ g
 apply Gl.wpLin_keep
 · intro j G g K m
   go_simp
   exact m _ g
 apply Gl.wpLin_keep
 · intro j G g K m
   have c1:=Ck (i:=1) (IX g.1 hB) rfl
   go_simp
   exact m _ g
 apply Gl.wpLin_move
 · intro G g K m
   go_simp
   exact (Tryz.cmp_Compare_int _ _ _).mono (by
    rintro e U ⟨rfl,rfl⟩;exact ⟨_,V,m _ ⟨g.1,fun h=>absurd h AW⟩⟩)
 apply Gl.wpLin_move (v:= .slice (some ⟨W2.heap.size+2,0,none⟩) 2 2)
 · intro G g K m
   have hz:=qP g.1;change G.heap.size=W2.heap.size+2 at hz
   go_simp
   have h:=m _ ⟨Oc g.1 0 #[.cells #[I4 (Lib.compareInt (Bl a (c:Int)) (Bl b (c:Int))),I4 (Lib.compareInt a.k b.k)] 3 (0,0)],fun _=>?_⟩
   · rw [alloc_eq_grow]
     exact h
   · rw [<-hz]
     exact Qm G _
 apply Gl.wpLin_move
 · intro G g K m
   have I:=g.2 AW
   go_simp
   exact (si _ _ _ _ (Ck (i:=0) I V) (Ck (i:=1) I V)).mono (by
    rintro e U ⟨rfl,rfl⟩;exact ⟨_,V,m _ ⟨g.1,fun _=>I⟩⟩)
 apply Gl.wpLin_keep
 · intro j G g K m
   go_simp
   exact m _ g
 apply Gl.wpLin_done;intro wz hz;rw [X.out];simp only [Gl.putE,Gl.putsE,Act.put,oS,List.set_cons_zero,List.set_cons_succ];obtain ⟨⟨q,os,-,rfl⟩,-⟩:=hz;clear X
 go_wp2
 go_ret
 obtain ⟨q',O,-,h⟩:=Oc Z q os;exact ⟨V,q',O,h⟩
end Go.Proofs.YtfhjaegddfehhabGreatDoor
namespace Go.Proofs.YtfhjaegddfehhabGreatDoor
open Go.Proofs.Tryz
open Go Go.RowKit Gw
set_option maxRecDepth 100000
attribute [local irreducible] Gw.At Gw.Nx Gw.Ops
open Go.Sort Go.Shelf
instance:Inhabited AX:=⟨⟨0,0,⟨0,0,0⟩⟩⟩
def UH(r:AX):List A3:=[I4 r.t,I4 r.k,I4 r.v.a,I4 r.v.b,I4 r.v.c]
theorem ltR(c:Nat)(a b:AX):ltOf (oq c) a b=decide (Bl a (c:Int)<Bl b (c:Int)\/Bl a (c:Int)=Bl b (c:Int)/\a.k<b.k):=by
 unfold ltOf oq orL Lib.compareInt;have g:=Int.lt_trichotomy (Bl a (c:Int)) (Bl b (c:Int))
 have h2:=Int.lt_trichotomy a.k b.k;generalize Bl a (c:Int)=x at*;generalize Bl b (c:Int)=y at*;apply decide_eq_decide.2;split<;>split<;>(try split)<;>(try split)<;>omega
theorem ye(c:Nat):SWO (ltOf (oq c))where
 irrefl x:=by rw [ltR];simp
 trans x y z h1 h2:=by rw [ltR]at*;simp only [G3]at*;omega
 ntrans x y z h1 h2:=by rw [ltR]at*;simp only [N5]at*;omega
theorem xQ:wO:=by
 intro I c w o s hc hn j5;obtain ⟨l5,⟨rfl,h0,rfl⟩|⟨g,cap,cur,z,rfl,rfl,gy,ek,X,kv,cu⟩⟩:=j5
 · intro u R Z U
   have ho:o=[]:=MT h0;subst ho;have hN:=AnyF.slices_SortFunc_none Tryz.sortRow none 0 (.func (.func 199) #[] #[I5 I]) Z
   exact hN.mono (by
    rintro e w' ⟨rfl,rfl⟩;exact .inl ⟨_,_,V,⟨V,[],[],.refl _,.nil,Bf _ _,V⟩,U⟩)
 · intro u R Z U
   have hb:=U.get (g,.cells cur 72 z) B4;have d9:=U.get (I,.cells #[I4 (c:Int)] 3 (0,0)) B4
   have j3:g≠I:=by
    have:=U.nodup;simp at this;exact this.1.1
   have hH:=U3 (w:=Z) (g:=g) (cur:=cur) (e:=72) (z:=z) UH 5 (fun _=>rfl) o hb (by rw [X];omega) cu kv;have eg:∀(args:AH) (w:AD),(callFunc 199 args).run prog w= .ok (.enter 199 args) w:=enters_of func199 AE rfl
   have ax:CmpLays prog 199 #[I5 I] UH 5 (oq c) g 0 o.toArray.size Z:=by
    intro m os dk l8 x y;refine oo x y c hc I _ ?_;have ic:=U.lt (p:=(I,.cells #[I4 (c:Int)] 3 (0,0))) B4
    rw [Q7 UH 5 Z g m I dk os j3 ic];exact d9
   have bn:=AnyQ.slices_SortFunc Tryz.sortRow 5 D0 B0 UH (fun _=>rfl) (fun x v hv=>by simp [UH]at hv;rcases hv with rfl|rfl|rfl|rfl|rfl<;>rfl) (oq c) (ye c) 199 #[I5 I] g 0 cap o.toArray Z eg ax hH (U.lt (p:=(g,.cells cur 72 z)) B4) I2;refine bn.mono ?_;rintro e w' ⟨rfl,G,n,os,⟨gm,-,hpm⟩,hso,rfl⟩;have J:G.size=o.length:=by simpa using gm
   have hF:(flatK UH 5 G).toList=Af G.toList:=O8 UH 5 (fun _=>rfl) G.toList;have af:(flatK UH 5 G).size=o.length*5:=by rw [size_flatK,J]
   have O:G.toList.Perm o:=by
    have e1:G.extract 0 o.toArray.size=G:=by
     rw [show o.toArray.size=G.size by rw [J];simp];exact Array.extract_size
    rw [e1]at hpm;simpa using hpm
   have cO:G.toList.length=o.length:=O.length_eq;refine .inl ⟨_,[[(g,.cells (putCells id 0 (flatK UH 5 G) cur) 72 z)],[(I,.cells #[I4 (c:Int)] 3 (0,0))]],V,⟨V,_,G.toList,O,?_,?_,V⟩,U.sortedK UH G os⟩
   · rw [fS]
     intro i j hi hj gq;have h:=hso i j (C5 _) gq I2
     rw [ltR]at h;simp only [N5]at h;rw [getElem!_pos G i (by simpa using hi),getElem!_pos G j (by simpa using hj)]at h;rw [Li _ c hc,Li _ c hc]at h;unfold leV;simp only [Array.getElem_toList];omega
   · rw [cO]
     refine ⟨by rw [BH,cO],.inr ⟨g,cap,_,z,rfl,rfl,gy,ek,by rw [Mm];exact X,?_,by rw [Mm];exact cu⟩⟩;have h:=Vf cur (flatK UH 5 G) (by rw [af,X];omega)
     rw [af,hF]at h;exact h
end Go.Proofs.YtfhjaegddfehhabGreatDoor
namespace Go.Proofs.YtfhjaegddfehhabGreatDoor
open Go.Proofs.Tryz
open Go Go.RowKit Gw
set_option maxRecDepth 100000
attribute [local irreducible] Gw.At Gw.Nx Gw.Ops
theorem WK(c:Nat)(out:List AX)(x:AX):∃A B,out=A++B/\aV c out x=A++[x]++B/\(∀r∈B,Di x c<Di r c)/\(A=[]\/∃m r,A=m++[r]/\Di r c<=Di x c):=by
 let q:AX->Bool:=fun r=>decide (Di x c<Di r c)
 have e:out=(out.reverse.dropWhile q).reverse++(out.reverse.takeWhile q).reverse:=by
  rw [<-mS,List.takeWhile_append_dropWhile,List.reverse_reverse]
 have G:fG c out (Di x c)=(out.reverse.dropWhile q).reverse.length:=by
  rw [me];rfl
 refine ⟨(out.reverse.dropWhile q).reverse,(out.reverse.takeWhile q).reverse,e,?_,?_,?_⟩
 · unfold aV
   rw [G];generalize (out.reverse.dropWhile q).reverse=A at*;generalize (out.reverse.takeWhile q).reverse=B at*;subst e;rw [Hb,Wc];all_goals rfl
 · intro r g
   rw [cW]at g;have:=List.all_takeWhile (p:=q) (l:=out.reverse)
   rw [NO]at this;simpa [q]using this r g
 · cases h:out.reverse.dropWhile q with
   |nil=>left;rfl
   |cons r l=>
    right;refine ⟨l.reverse,r,by simp,?_⟩;have:=List.head?_dropWhile_not q out.reverse
    rw [h]at this;simpa [q]using this
theorem WJ(c:Nat)(out:List AX)(x:AX):(aV c out x).Perm (x::out):=by
 obtain ⟨A,B,e1,e2,_,_⟩:=WK c out x;rw [e2,e1,D3];exact SJ
theorem U7(c:Nat):∀(l out:List AX),(l.foldl (aV c) out).Perm (out++l)
 |[],out=>by simp
 |x::l,out=>by
  rw [V1];refine (U7 c l _).trans ?_;refine ((WJ c out x).append_right l).trans ?_;exact SJ.symm
variable{c:Nat}{x:AX}
theorem aU{out:List AX}(h:out.Pairwise (leV c))(O:∀r∈out,r.k<x.k):(aV c out x).Pairwise (leV c):=by
 obtain ⟨A,B,e1,e2,Z,X⟩:=WK c out x;rw [e2];rw [e1]at h O;rw [Pr]at h;obtain ⟨G,h2,U⟩:=h;have I:∀r∈A,Di r c<=Di x c:=by
  rcases X with rfl|⟨A',r0,rfl,h0⟩
  · intro r g;simp at g
  · intro r g
    rcases Bm.1 g with hr'|hr'
    · rw [Pr]at G
      have:=G.2.2 r hr' r0 B4;unfold leV at this;omega
    · rw [C1]at hr'
      subst hr';exact h0
 rw [D3,Pr];refine ⟨G,?_,?_⟩
 · rw [Mb,RE]
   exact ⟨fun r g=> .inl (Z r g),h2⟩
 · intro a J b m
   rw [Mb,DB]at m;rcases m with rfl|m
   · have h4:=I a J
     have h5:=O a (E7 _ J);unfold leV;omega
   · exact U a J b m
theorem PZ(c:Nat):∀(l out:List AX),out.Pairwise (leV c)->l.Pairwise (fun a b=>a.k<b.k)->(∀r∈out,∀x∈l,r.k<x.k)->(l.foldl (aV c) out).Pairwise (leV c)
 |[],out,h,_,_=>h
 |x::l,out,h,h2,h3=>by
  rw [V1];rw [RE]at h2;refine PZ c l _ (aU h fun r g=>h3 r g x B4) h2.2 ?_;intro r g y hy;have:=(WJ c out x).mem_iff.1 g
  rcases DB.1 this with rfl|hm
  · exact h2.1 y hy
  · exact h3 r hm y (by simp [hy])
variable{rs:List AX}{t:Int}{f:AX->Bool}
theorem QW(O:BQ rs)(m:∀r,f r=true->r.t=t):(rs.filter f).Pairwise (fun a b=>a.k<b.k):=by
 have G:(rs.filter f).Pairwise (fun a b=>a.lt2 b.t b.k):=O.filter f;refine G.imp_of_mem ?_;intro a b I J g;have h2:=m a (FF.1 I).2
 have U:=m b (FF.1 J).2;unfold AX.lt2 at g;omega
theorem uJ{l:List AX}(h:l.Pairwise (fun a b=>a.k<b.k)):∀a∈l,∀b∈l,a.k=b.k->a=b:=by
 induction l with
 |nil=>intro a g;simp at g
 |cons x l ih=>
  rw [RE]at h;intro a g b m e;rcases DB.1 g with ea|ha'<;>rcases DB.1 m with eb|hb'
  · rw [ea,eb]
  · have:=h.1 b hb';rw [ea]at e;omega
  · have:=h.1 a ha';rw [eb]at e;omega
  · exact ih h.2 a ha' b hb' e
variable{r:AX}
theorem kF{lo hi:Int}(h:inR t c lo hi r=true):r.t=t:=(I0 h).1
theorem ET(rs:List AX)(t:Int)(c:Nat)(lo hi:Int):(Dt rs t c lo hi).Perm (rs.filter (inR t c lo hi)):=by
 have:=U7 c (rs.filter (inR t c lo hi)) [];rw [Ln]at this;exact this
theorem Em(m:BQ rs)(t:Int)(c:Nat)(lo hi:Int):(Dt rs t c lo hi).Pairwise (leV c):=
 PZ c _ [] .nil (QW m fun r h=>kF h) (by intro r g;simp at g)
theorem SN(X:BQ rs)(O:∀r,f r=true->r.t=t){a b:List AX}(G:a.Perm (rs.filter f))(I:b.Perm (rs.filter f))(J:a.Pairwise (leV c))(h2:b.Pairwise (leV c)):a=b:=by
 have U:=QW X O;refine (G.trans I.symm).eq_of_pairwise ?_ J h2;intro x y hx hy g m;refine uJ U x (G.mem_iff.1 hx) y (I.mem_iff.1 hy) ?_;unfold leV at g m;omega
theorem Ve(g:BQ rs){lo hi:Int}{o:List AX}(m:o.Perm (rs.filter (inR t c lo hi)))(h2:o.Pairwise (leV c)):o=Dt rs t c lo hi:=
 SN g (fun r h=>kF h) m (ET rs t c lo hi) h2 (Em g t c lo hi)
def inT(t:Int)(r:AX):Bool:=decide (r.t=t)
def IW(rs:List AX)(t:Int):List AX:=rs.filter (inT t)
def Rh(v:A3)(p:Int)(rs:List AX)(s:List A9):Prop:=∃sp mb es ck lm,v=I5 sp/\Cm K2 es ck lm/\HV lm rs/\BQ rs/\rs.length<=2000/\s=[(sp,.cells #[.map (some mb),I4 p] 234 (0,0)),(mb,.map es ck)]
theorem lG(m mb:Nat)(p:Int)(es:Array MapEntry)(ck:Nat)(lm:List ((Int×Int)×A3))(rs:List AX)(hm:Cm K2 es ck lm)(hR:HV lm rs)(U:BQ rs)(hn:rs.length<=2000)(t:Int)(c:Nat)(lo hi:Int)(hc:c<=3):
 BZ prog 85 #[I5 m,I4 t,I4 (c:Int),I4 lo,I4 hi] [[(m,.cells #[.map (some mb),I4 p] 234 (0,0))],[(mb,.map es ck)]] (fun r H'=>∃g,Bd 5 72 r (Dt rs t c lo hi).length (Af (Dt rs t c lo hi)) g/\H'=[g,[(m,.cells #[.map (some mb),I4 p] 234 (0,0))],[(mb,.map es ck)]]):=by
 refine Se func85 ntmps85 [0,1,2,3,4] ?_;intro u R;refine A0<|Ze (Bx #[_])<|AG fun Z=>Ze (Bx #[_])<|AG fun X=>Ze (Bx #[_])<|AG fun b3=>Ze (Bx #[_])<|AG fun b4=>A4 Y<|Zq<|A0<|Zl AF Y ?_;refine Zv (Au (n:=0) Y Y)<|Zm Y<|Aj (t:=13) Y V (fun O=>?_) (fun O=>?_);·
  exfalso;(cases O;done)
 refine Yl AF Y ?_;refine Yg (G6 (n:=4) Y Y)<|Zv (AL Y Y)<|A5<|Aq Y (fun h2=>by omega)<|fun h2=>AC<|Zx<|A0<|Zm Y<|Zl AF Y ?_;refine Zv (Bh (vs:=[]) (us:=[_,_,_,_]) Y Y)<|Zc [_,_,_] Y call148 Y V (Y4 xQ m mb p es ck lm rs hm hR U hn t c lo hi hc X Z b3 b4) ?_;rintro _ _ ⟨_,⟨g,o,J,G,I,rfl⟩,rfl⟩;have e9:=Ve U G I
 subst e9;refine AN Y<|Zn [10] ?_;refine Zx<|AJ<|AO V results85 Y (by exact ⟨g,J,V⟩)
theorem YY(v:A3)(p:Int)(rs:List AX)(s:List A9)(hv:Rh v p rs s)(t:Int)(c:Nat)(lo hi:Int)(hc:c<=3):BZ prog 85 #[v,I4 t,I4 (c:Int),I4 lo,I4 hi] [s] (fun r H'=>∃g,Bd 5 72 r (Dt rs t c lo hi).length (Af (Dt rs t c lo hi)) g/\H'=[g,s]):=by
 obtain ⟨O,mb,es,ck,lm,rfl,I,G,J,hn,rfl⟩:=hv;refine H6 (lG O mb p es ck lm rs I G J hn t c lo hi hc) B4 ?_;rintro r H' ⟨g,m,rfl⟩;exact ⟨_,⟨g,m,V⟩,by simp⟩
def DW(M:List A9)(v:A3)(rs:List AX):Prop:=∃p cap,v= .slice p rs.length cap/\(rs.length<=maxLen/\rs.length<=cap)/\∀(i:Nat) (x:AX),rs[i]?=some x->∃g off cur T zz,p=some ⟨g,off,none⟩/\(g,Obj.cells cur T zz)∈M/\off+i*5+5<=cur.size/\cur.extract (off+i*5) (off+i*5+5)=x.A97
variable{v:A3}{s:List A9}
theorem DY{e:AK}(h:Bd 5 e v rs.length (Af rs) s)(hn:rs.length<=maxLen):DW s v rs:=by
 obtain ⟨b,cap,rfl⟩:=h.form;refine ⟨b,cap,V,⟨hn,Ew h⟩,fun i x hx=>?_⟩;obtain ⟨g,G,cur,z,hv,rfl,I,m⟩:=KH h i (C4.1 hx).1;injection hv with hv1 hv2 hv3
 refine ⟨g,0,cur,e,z,hv1,by simp,by omega,?_⟩;unfold Af at m;rw [J7 _ 5 (fun _=>rfl) rs i x hx]at m;rw [DM];exact HX.1 m
variable{M:List A9}
theorem DW.mono{m:List A9}{ls:List AX}(h:DW M v ls)(O:∀c∈M,c∈m):DW m v ls:=by
 obtain ⟨p,cap,e,J,I⟩:=h;refine ⟨p,cap,e,J,fun i s U=>?_⟩;obtain ⟨g,off,cur,T,zz,e1,G,h2⟩:=I i s U;exact ⟨g,off,cur,T,zz,e1,O _ G,h2⟩
theorem Fy(r:AX)(c:Int)(hc:0<=c/\c<=3):BB prog 142 #[.agg r.A97,I4 c] [] (I4 (Bl r c)):=fun u R w g=>
 (Jb r c hc w).mono (by
   rintro e m ⟨rfl,q,o,rfl⟩;exact .inl ⟨_,[],V,⟨V,V⟩,SY g q _⟩)
variable{n:Nat}
theorem Pd{cur xs:AH}{a:Nat}(h:cur.extract a (a+n)=xs)(m:a+n<=cur.size)(j:Nat)(g:j<n):cur[a+j]?=xs[j]?:=by
 rw [<-h,eA,Ax A1]
theorem KZ{p q:Prop} [Decidable p] [Decidable q](h:p↔q):Value.bool (decide p)=Value.bool (decide q):=by rw [decide_eq_decide.2 h]
variable{P:Program}{args:AH}
theorem RF{f:FuncId}(h:BB P f args [] v):BB P f args [M] v:=fun u R w m=>
 Calls.mono (h u ([M]++R) w m) fun e I g=>by
  rcases g with⟨G,H',rfl,⟨rfl,rfl⟩,h2⟩|⟨ch,H',rfl,h1,h2⟩
  · exact .inl ⟨_,[M],rfl,⟨rfl,rfl⟩,h2⟩
  · exact h1.elim
variable{B A:List A9}
theorem bP{f:FuncId}(h:BB P f args [B] v):BB P f args [A++B] v:=fun u R w m=>
 Calls.mono (h u ([A]++R) w (m.perm (by simp only [HC,CA,Fi,DG];rw [<-D3];exact Ly.append_right _))) fun e I g=>by
  rcases g with⟨G,H',rfl,⟨rfl,rfl⟩,h2⟩|⟨ch,H',rfl,h1,h2⟩
  · refine .inl ⟨_,[A++B],rfl,⟨rfl,rfl⟩,h2.perm ?_⟩
    simp only [HC,CA,Fi,DG];rw [<-D3];exact Ly.append_right _
  · exact h1.elim
theorem Qg{f:FuncId}(h:BB P f args [A++B] v):BB P f args [A,B] v:=by
 refine H6 h B4 ?_;rintro r H' ⟨rfl,rfl⟩;exact ⟨_,⟨V,V⟩,by simp⟩
variable{α:Type}
theorem Bn{xs:List α}{j:Nat}{x:α}(h:xs[j]?=some x):xs.take (j+1)=xs.take j++[x]:=by rw [RK,h];rfl
variable{k:Nat}
theorem lH(h:rs[k]?=some r):Af rs=Af (rs.take k)++(Af [r]++Af (rs.drop (k+1))):=by
 rw [<-Bi,<-Bi];congr 1;obtain ⟨g,rfl⟩:=C4.1 h;rw [Mb,<-S8 g,K1]
theorem Lu(h:rs[k]?=some r)(j:Nat)(g:j<5):(Af rs)[k*5+j]?=(Af [r])[j]?:=by
 have m:=(C4.1 h).1;have e:(Af (rs.take k)).length=k*5:=by rw [BH,CC];omega
 rw [lH h,T0 A1,cP (by rw [e,BH];simp;omega),e,Nat.add_sub_cancel_left]
theorem Yp{p:B6}{cap:Nat}(h:DW M (.slice p n cap) rs):FP M p (Af rs):=by
 obtain ⟨p',J,e,hl,X⟩:=h;injection e with e1 e2 e3
 subst e1;intro j u O;have G:=(C4.1 O).1
 rw [BH]at G;obtain ⟨x,hx⟩:∃x,rs[j/5]?=some x:=⟨_,B7 A1⟩;obtain ⟨g,off,cur,T,zz,rfl,Z,I,m⟩:=X (j/5) x hx;refine ⟨g,off,cur,T,zz,V,Z,?_⟩;have U:=Pd m I (j%5) A1
 have h2:=Lu hx (j%5) A1;rw [show j/5*5+j%5=j by omega,O]at h2;rw [show off+j=off+j/5*5+j%5 by omega,U,h2,<-HR];rfl
theorem Gp(hv:DW M v rs)(hb:rs.length<=1000000000000):BZ prog 99 #[v] [M] (fun r H'=>∃U,Bd 5 72 r rs.length (Af rs) U/\H'=[U,M]):=by
 have ax:=mL;obtain ⟨p,cap,rfl,⟨hl,af⟩,Z⟩:=id hv;have G:FP M p (Af rs):=Yp hv
 refine Se func99 ntmps99 [0] ?_;intro u R;refine A0<|A4 Y<|Zq<|A0<|Zm Y<|Zv (Dq BE Y Y)<|A5<|AU Y (fun O=>?_) (fun O=>?_);·
  have I:p=none:=by cases p with
   |none=>rfl
   |some x=>cases O
  have h0:rs=[]:=by
   cases rs with
   |nil=>rfl
   |cons x l=>obtain ⟨g,off,cur,T,zz,J,_⟩:=Z 0 x rfl;rw [I]at J;cases J
  refine Zq<|BX<|Zg<|A4 Y<|AJ<|Zt<|AO rfl results99 Y (by exact ⟨[],by rw [h0];exact Bf 5 _,rfl⟩)
 refine AC<|Zx<|A0<|Ze (ER BE B0)<|AG fun X=>Zm Y<|Ze (Hm (by_:=40) (sz:=5) BE (V:Tryz.prog.info? 72=some Tryz.t72) V rfl V rfl Y (IZ 5 72 X 0 [] V AW) Y (G) (by exact BH _) AW Wo Wo (by exact CU _) A1 A1) ?_;rintro _ _ ⟨bn,m,rfl⟩;replace m:=BS m (DM _) (Ln _);refine A4 Y<|AJ<|AO V results99 Y (by exact ⟨_,m,V⟩)
theorem L9{a b:List α}(g:a.length=b.length)(h:∀j,j<a.length->a[j]?=b[j]?):a=b:=by
 apply Mu;intro i;rcases E4 i a.length with h9|h9
 · exact h i h9
 · rw [MY h9,MY A1]
theorem Dz [DecidableEq α]{a b:α}(h:¬a=b):Value.bool false=Value.bool (decide (a=b)):=congrArg Value.bool (Cd h).symm
theorem JQ [DecidableEq α]{a b:α}(h:a=b):Value.bool true=Value.bool (decide (a=b)):=congrArg Value.bool (DE h).symm
theorem XJ{a b:AX}:UY a.t b.t a.k b.k a.v b.v↔a=b:=by
 obtain ⟨t,k,v⟩:=a;obtain ⟨t2,g,m⟩:=b;simp [UY]
theorem bJ{va vb:A3}{a b:List AX}(ha:DW M va a)(hb:DW M vb b):BB prog 112 #[va,vb] [M] (.bool (decide (a=b))):=by
 have l5:=mL;obtain ⟨pa,ca,rfl,j5,af⟩:=ha;obtain ⟨pb,cb,rfl,kv,ax⟩:=hb;refine Se func112 ntmps112 [0,1] ?_;intro u R;refine A0<|A4 Y<|Zq<|A0<|Zm Y<|Zv (AY BE Y)<|Zm Y<|Zv (AY BE Y)<|Zv (Dn Y Y)<|A5<|Aq Y (fun U=>?_) (fun U=>?_);·
  refine A0<|A4 Y<|AJ<|Zt<|AO rfl results112 Y (by exact ⟨Dz (fun e=>U (by rw [e])),rfl⟩)
 have bn:a.length=b.length:=by omega
 refine AC<|Zx<|Zq<|A0<|Zm Y<|Zv (AY BE Y)<|Zm Y<|A5<|AQ<|Zb [13,0,1,12] ?_;refine BA (e0:=[(13,_)]) (fun m e H=>∃(i:Nat),m=a.length -i/\(i<=a.length/\∀j,j<i->a[j]?=b[j]?)/\e=[(13,I4 (i:Int))]/\H=[]) (by exact ⟨0,V,⟨C5 _,by intro j hj;omega⟩,V,V⟩) Wp ?_;rintro _ _ _ ⟨i,rfl,⟨hi,g⟩,rfl,rfl⟩;refine A0<|Zv (Au Y Y)<|A5<|Zq<|Aq Y (fun cu=>?_) (fun cu=>?_);·
  obtain ⟨x,hx⟩:∃x,a[i]?=some x:=⟨_,B7 A1⟩;obtain ⟨y,hy⟩:∃y,b[i]?=some y:=⟨_,B7 A1⟩;obtain ⟨g1,ic,G,T1,ek,rfl,cO,gq,J⟩:=af i x hx;obtain ⟨g2,j3,I,T2,gm,rfl,d9,gy,O⟩:=ax i y hy;refine AC<|Zx<|Zq<|AQ<|A0<|Zm Y<|A4 Y<|Zq<|Az (n:=9) (0::0::3::7::0::0::48::112::255::[]) 0 AE AE V<|A2 0 V (AP Y)<|A2 1 V (AP Y)<|A2 2 V (Ad BE B0 Y Y A1)<|Ce (b:=g1) (x:= .cells G T1 ek) (D':=15) 3 V rfl V (by simp [cO]) (AA (cs:=x.A97) D0 B0 Y A1 J) ?_;refine A2 4 V (AP Y)<|A2 5 V (AP Y)<|A2 6 V (Ad BE B0 Y Y A1)<|Ce (b:=g2) (x:= .cells I T2 gm) (D':=255) 7 V rfl V (by simp [d9]) (AA (cs:=y.A97) D0 B0 Y A1 O) ?_;refine A2 8 V (Vu AE G0 AE AW AW AW CM Hh AF A6 HB DO Y Y)<|Ag<|Zx<|Aq Y (fun X=>?_) (fun X=>?_);·
   refine A0<|AN Y<|Zn [4] ?_;refine Zx<|AJ<|Ac<|Zt<|Zt<|Ac<|Zt<|AO rfl results112 Y (by exact ⟨Dz (fun e=>by rw [e,hy]at hx;injection hx with hx;exact X (XJ.2 hx.symm)),rfl⟩)
  have Z:x=y:=XJ.1 (HL.1 X);refine AC<|A8<|Zx<|Zg<|Ya (n:=1) Y Y<|Zm Y<|Z0<|Zn [13,0,1,12] ?_;refine Ab (e':=[(13,_)]) (by exact ⟨i+1,rfl,⟨by omega,fun j hj=>by rcases E4 j i with h9|h9;exact g j h9;obtain rfl:j=i:=A1;rw [hx,hy];exact congrArg some Z⟩,rfl,rfl⟩)
 refine Ay<|Zt<|Zt<|AR<|Zx<|A0<|A4 Y<|AJ<|AO V results112 Y (by exact ⟨JQ (L9 bn (fun j hj=>g j A1)),V⟩)
def Ra(pd:AX->Bool)(rows:List AX):Int:=(rows.findIdx? pd).elim (-1) fun i=>(i:Int)
variable{rows:List AX}{i:Nat}
theorem uV{g:AX->Bool}(h:∀(j:Nat) (y:AX),j<i->rows[j]?=some y->g y=false)(hx:rows[i]?=some x)(G:g x=true):Ra g rows=(i:Int):=by
 obtain ⟨hi,rfl⟩:=C4.1 hx;unfold Ra;rw [ab.2 ⟨hi,G,fun j m=>by simp [h j _ m (B7 A1)]⟩];rfl
theorem uW{m:AX->Bool}(h:∀(j:Nat) (y:AX),j<rows.length->rows[j]?=some y->m y=false):Ra m rows=-1:=by
 unfold Ra;rw [e6.2 fun y hy=>by
  obtain ⟨j,g⟩:=HE hy;exact h j y (C4.1 g).1 g]
 rfl
theorem ng(g:AX->Bool)(rows:List AX):(Ra g rows=-1/\∀y∈rows,g y=false)\/∃(i:Nat) (x:AX),Ra g rows=(i:Int)/\rows[i]?=some x/\g x=true/\∀(j:Nat) (y:AX),j<i->rows[j]?=some y->g y=false:=by
 unfold Ra;cases h:rows.findIdx? g with
 |none=>exact .inl ⟨rfl,e6.1 h⟩
 |some i=>
  obtain ⟨m,h2,G⟩:=ab.1 h;refine .inr ⟨i,_,V,B7 m,h2,fun j y I hy=>?_⟩;obtain ⟨J,rfl⟩:=C4.1 hy;simpa using G j I
theorem rX(g:k<rs.length)(x:AX):(Af rs).take (k*5)++Af [x]++(Af rs).drop (k*5+(Af [x]).length)=Af (rs.set k x):=by
 rw [show k*5+(Af [x]).length=(k+1)*5 by rw [BH];simp;omega,EG,Dj,<-Bi,<-Bi,ln,Ax g];simp
theorem bD{cur:AH}(g:C9 cur 0 (Af rs))(hx:rs[k]?=some x):k*5+5<=cur.size/\cur.extract (0+k*5) (0+k*5+5)=(Af [x]).toArray:=by
 have X:=(C4.1 hx).1;have U:k*5+5<=cur.size:=by
  have J:=Lu hx 4 AW;have O:=g.get (k*5+4) _ (J.trans As)
  have:=(HU.1 O).1;omega
 refine ⟨U,?_⟩;apply HX.1;apply Mu;intro j;rw [HR,eA];split
 · rename_i hj
   have m:j<5:=by omega
   have G:=Lu hx j m;obtain ⟨u,I⟩:∃u,(Af [x])[j]?=some u:=⟨_,B7 (by rw [BH];simpa using m)⟩;rw [I]at G;have h2:=g.get _ _ G
   rw [DM]at h2;rw [DM,h2];exact I.symm
 · rw [MY]
   show(Af [x]).length<=j;rw [BH];simp only [Fl];omega
theorem Yd{xs:List α}(hi:i<xs.length)(x:α):(xs.set i x).take (i+1)=xs.take i++[x]:=by
 rw [ln,Ax hi,List.take_append,CC,RT A1];rw [J0 (by rw [CC];omega),show i+1 -i=1 by omega];simp
theorem MX{j:Nat}(f:AX->Bool)(hx:rows[j]?=some x):(rows.take (j+1)).filter f=(rows.take j).filter f++(if f x then [x]else []):=by
 rw [Bn hx,IH];congr 1;rw [cV,nc]
theorem OA(h:∀(j:Nat) (y:AX),rows[j]?=some y->f y=true):rows.filter f=rows:=mT.2 fun y hy=>by
 obtain ⟨j,g⟩:=HE hy;exact h j y g
theorem U1(hv:DW A v rows)(G:Nat)(us:List A3)(pd:AX->Bool)(X:∀(args:AH) (w:AD),(callFunc G args).run prog w= .ok (.enter G args) w)(hf:∀x:AX,BB prog G (.agg x.A97::us).toArray [B] (.bool (pd x))):BB prog 140 #[v,.func (.func G) #[] us.toArray] [A,B] (I4 (Ra pd rows)):=by
 have bn:=mL;obtain ⟨p,cap,rfl,⟨hl,ax⟩,hg⟩:=id hv;refine Se func140 ntmps140 [0,1] ?_;intro u R;refine A0<|A4 Y<|Zq<|A0<|Zm Y<|Zv (AY BE Y)<|Zm Y<|A5<|AQ<|Zb [8,0,1,7] ?_;refine BA (e0:=[(8,_)]) (fun m e H=>∃(i:Nat),m=rows.length -i/\(i<=rows.length/\∀(j:Nat) (y:AX),j<i->rows[j]?=some y->pd y=false)/\e=[(8,I4 (i:Int))]/\H=[]) (by exact ⟨0,V,⟨C5 _,fun j y h=>by omega⟩,V,V⟩) Wp ?_;rintro _ _ _ ⟨i,rfl,⟨hi,I⟩,rfl,rfl⟩;refine A0<|Zv (Au Y Y)<|A5<|Zq<|Aq Y (fun U=>?_) (fun U=>?_);·
  obtain ⟨x,hx⟩:∃x,rows[i]?=some x:=⟨_,B7 U⟩;obtain ⟨g,off,cur,T,zz,rfl,Z,af,O⟩:=hg i x hx;refine AC<|Zx<|Zq<|AQ<|A0<|Zm Y<|A4 Y<|A0<|Zm Y<|Zm Y<|Zm Y<|BV (Ad BE B0 Y Y A1)<|CG (cs:=[(g,.cells cur T zz)]) (by simp [Z]) (AA (cs:=x.A97) D0 B0 Y A1 O) V rfl<|Xr [_] Y (X) Y V (hf x)<|A5<|AU Y (fun J=>?_) (fun J=>?_);·
   refine A0<|Zm Y<|A4 Y<|AJ<|Ac<|Zt<|Zt<|Ac<|Zt<|AO V ee Y (by exact ⟨congrArg (Value.int .i64) (uV I hx J).symm,V⟩)
  refine AC<|A8<|Zx<|Zg<|Ya (n:=1) Y Y<|Zm Y<|Z0<|Zn [8,0,1,7] ?_;refine Ab (e':=[(8,_)]) (by exact ⟨i+1,rfl,⟨by omega,fun j y h1 h2=>by rcases E4 j i with h9|h9;exact I j y h9 h2;obtain rfl:j=i:=A1;rw [hx]at h2;injection h2 with h2;subst h2;exact J⟩,rfl,rfl⟩)
 have ei:i=rows.length:=by omega
 subst ei;refine Ay<|Zt<|Zt<|AR<|Zx<|A0<|A4 Y<|AJ<|AO V ee Y (by exact ⟨congrArg (Value.int .i64) (uW I).symm,V⟩)
set_option maxHeartbeats 1000000 in
theorem bS(G:Bd 5 72 v rows.length (Af rows) s)(hn:rows.length<=1000000000)(J:Nat)(us:List A3)(X:AX->Bool)(cu:∀(args:AH) (w:AD),(callFunc J args).run prog w= .ok (.enter J args) w)(hf:∀x:AX,BB prog J (.agg x.A97::us).toArray [B] (.bool (X x))):BZ prog 290 #[v,.func (.func J) #[] us.toArray] [s,B] (fun r H'=>∃s',Bd 5 72 r (rows.filter fun x=>!X x).length (Af (rows.filter fun x=>!X x)) s'/\H'=[s',B]):=by
 have p9:=mL;obtain ⟨p,cap,rfl⟩:=G.form;have hU:=DY G A1
 refine Se func290 ntmps290 [0,1] ?_;intro u R;refine A0<|A4 Y<|A0<|Zm Y<|Zm Y<|Xr [_,_] Y call140 Y V (U1 hU J us X cu hf) ?_;rcases ng X rows with⟨e9,Z⟩|⟨k,x0,e9,hx0,hp0,hno⟩
 ·
  rw [e9];refine A4 Y<|Zq<|A0<|Zm Y<|Zv (CK Y Y)<|A5<|Aq Y (fun h1=>?_) (fun h1=>?_);·
   refine A0<|Zm Y<|A4 Y<|AJ<|Zt<|AO rfl results290 Y (by exact ⟨_,BS G (congrArg List.length (OA fun j y hy=>by rw [Z y (Dg hy)];rfl).symm) (congrArg Af (OA fun j y hy=>by rw [Z y (Dg hy)];rfl).symm),rfl⟩)
  exact absurd V h1
 rw [e9];have p8:=(C4.1 hx0).1
 obtain ⟨g,j5,cur,z,j3,rfl,l8,l5⟩:=E9 G A1;injection j3 with hv1 hv2 hv3
 subst hv1 hv3;refine A4 Y<|Zq<|A0<|Zm Y<|Zv (CK Y Y)<|A5<|Aq Y (fun h2=>by omega)<|fun h2=>AC<|Zx<|Zq<|A0<|Zm Y<|Ya (n:=1) Y Y<|A4 Y<|AQ<|Zb [5,6,0,1] ?_;refine BA (e0:=[(5,_),(6,_)]) (fun m e H=>∃(i j:Nat) (W:List AX) (cur:AH),m=rows.length -j/\((i<j/\j<=rows.length)/\W.length=rows.length/\Bd 5 72 (I6 g rows.length cap) rows.length (Af W) [(g,.cells cur 72 z)]/\W.take i=(rows.take j).filter (fun x=>!X x)/\∀t,j<=t->W[t]?=rows[t]?)/\e=[(5,I4 (i:Int)),(6,I4 (j:Int))]/\H=[[(g,.cells cur 72 z)]]) (by exact ⟨k,k+1,rows,cur,rfl,⟨⟨by omega,by omega⟩,rfl,G,by rw [MX _ hx0,hp0];simp only [SR,Mn,HO,DG];exact (OA (fun j y hy=>by rw [HJ]at hy;split at hy;rw [hno j y fN hy];rfl;cases hy)).symm,fun t _=>rfl⟩,rfl,rfl⟩) Wp ?_;rintro _ _ _ ⟨i,j,W,cur,rfl,⟨o9,bn,U,O,ax⟩,rfl,rfl⟩;obtain ⟨ek,cO,l9,kv,af⟩:=Jf U;refine Zq<|A0<|Zm Y<|Zm Y<|Zv (AY BE Y)<|Zv (Au Y Y)<|A5<|Aq Y (fun gm=>?_) (fun gm=>?_);·
  obtain ⟨x,hx⟩:∃x,rows[j]?=some x:=⟨_,B7 gm⟩;obtain ⟨o8,d9⟩:=bD ek ((ax j (D2 _)).trans hx);refine AC<|Zx<|Zq<|AQ<|A0<|Zm Y<|Zm Y<|BV (Ad BE B0 Y Y A1)<|Zo Wh (AA (cs:=x.A97) D0 B0 Y A1 d9)<|Ze (Al F0 #[_,_,_,_,_])<|AG fun bx=>Xe (Xw B0 x.A97)<|A5<|A0<|Zm Y<|Zo Wh (AA (cs:=#[_,_,_,_,_]) D0 B0 Y B1 As)<|Xr [_] Y (cu) Y V (hf x)<|Zv (Br Y)<|Z0<|Zn [0,1,5,6,7,29] ?_;refine Zx<|AU Y (fun I=>?_) (fun I=>?_);·
   have I:X x=false:=by simpa using I
   have gq:=BS (xs':=Af (W.set i x)) (EU (i:=0+i*5) (ys:=Af [x]) U (by rw [BH,BH,Fl];omega)) rfl (by rw [DM];exact rX A1 x);refine A0<|Zm Y<|Zm Y<|Zo Wh (AA (cs:=#[_,_,_,_,_]) D0 B0 Y B1 As)<|BV (Ad BE B0 Y Y A1)<|Xe (BM B0 Y Y HT Wu (by exact (rfl:_=EO cur (0+i*5) (Af [x]))) Fc A1 af)<|A5<|Zg<|Zm Y<|Ya (n:=1) Y Y<|AN Y<|A8<|Zx<|Zg<|Zm Y<|Ya (n:=1) Y Y<|AN Y<|Zn [5,6,0,1] ?_;refine Ab (e':=[(5,_),(6,_)]) (by exact ⟨i+1,j+1,W.set i x,_,rfl,⟨by omega,by rw [eI];exact bn,gq,by rw [Yd A1,O,MX _ hx];simp [I],fun t ht=>by rw [List.getElem?_set_ne A1];exact ax t A1⟩,rfl,rfl⟩)
  have I:X x=true:=by simpa using I
  refine AC<|A8<|Zx<|Zg<|Zm Y<|Ya (n:=1) Y Y<|AN Y<|Zn [5,6,0,1] ?_;refine Ab (e':=[(5,_),(6,_)]) (by exact ⟨i,j+1,W,cur,rfl,⟨by omega,bn,U,by rw [O,MX _ hx];simp [I],fun t ht=>ax t A1⟩,rfl,rfl⟩)
 have ej:j=rows.length:=by omega
 subst ej;rw [GS]at O;have ic:(rows.filter fun x=>!X x).length=i:=by rw [<-O,CC];omega
 refine Ay<|Zt<|Zt<|AR<|Zx<|A0<|Zm Y<|Zm Y<|BV (CE BE B0 Y Y A1)<|Ze (OW BE (V:Tryz.prog.info? 72=some Tryz.t72) V rfl (by simp [Value.cells,Value.oneCell']) Y A1 cO af Wo) ?_;rintro _ _ rfl;have gy:=VY (EU (i:=i*5) (ys:=(Builtin.zeroCells (Value.agg #[I4 0,I4 0,I4 0,I4 0,I4 0]).cells (rows.length -i)).toList) U (by rw [TO,size_zeroCells,BH];show i*5+(rows.length -i)*5<=_;omega)) i A1
 refine A5<|A0<|Zm Y<|Zm Y<|BV (Bu BE B0 Y Y A1)<|A4 Y<|AJ<|AO V results290 Y (by
  refine ⟨_,BS gy ic.symm ?_,V⟩;rw [D3,Hb (by rw [CC,BH];omega),EG,O])
theorem uS{A Y D:List A3}(g:A.length=(n+1)*5)(hi:i<=n)(G:Y.length=5)(m:D.length=(n -i)*5):(A.take (0+i*5)++Y++A.drop (0+i*5+Y.length)).take (0+(i+1)*5)++D++(A.take (0+i*5)++Y++A.drop (0+i*5+Y.length)).drop (0+(i+1)*5+D.length)=A.take (i*5)++Y++D:=by
 rw [DM,DM,Hb (by rw [BW,CC];omega),T6 (by simp only [BW,CC,CD];omega),DG]
theorem nU{A Y D:List A3}(g:A.length=(n+1)*5)(hi:i<=n)(G:Y.length=5)(m:D.length=(n -i)*5):(A.take (0+(i+1)*5)++D++A.drop (0+(i+1)*5+D.length)).take (0+i*5)++Y++(A.take (0+(i+1)*5)++D++A.drop (0+(i+1)*5+D.length)).drop (0+i*5+Y.length)=A.take (i*5)++Y++D:=by
 rw [DM,DM,T6 (l:=A) A1,DG,cN (by rw [CC];omega),V2,RT A1,Wc (by rw [CC];omega)]
theorem Yo(rows:List AX)(i:Nat)(y:AX):(Af rows).take (i*5)++Af [y]++Af (rows.drop i)=Af (rows.take i++[y]++rows.drop i):=by
 rw [EG,Bi,Bi]
theorem UM{c:AH}(h:C9 c 0 (Af rows))(i:Nat)(hi:i<=rows.length):C9 c (0+i*5) (Af (rows.drop i)):=by
 have g:=JA h (i*5) ((rows.length -i)*5) (by rw [BH];omega);rw [Dj,J0 (by rw [BH,CD];omega)]at g;exact g
theorem iw{c:AH}(h:C9 c 0 (Af rows))(i:Nat)(hi:i<=rows.length):C9 c 0 (Af (rows.take i)):=by
 have g:=JA h 0 (i*5) (by rw [BH];omega);rw [RW,EG]at g;exact g
theorem Xn(rows:List AX)(i:Nat)(hi:i<=rows.length)(y:AX):(rows.take i++[y]++rows.drop i).length=rows.length+1:=by
 simp only [BW,CC,CD,Fl];omega
set_option maxHeartbeats 1000000 in
theorem aS(m:Bd 5 72 v rows.length (Af rows) s)(hn:rows.length<=1000000000)(i:Nat)(hi:i<=rows.length)(y:AX)(X:Nat):BZ prog 291 #[v,I4 (i:Int),I6 X 1 1] [s,[(X,.cells y.A97 72 (0,0))]] (fun r H'=>∃s' s2,Bd 5 72 r (rows.take i++[y]++rows.drop i).length (Af (rows.take i++[y]++rows.drop i)) s'/\H'=[s',s2,[(X,.cells y.A97 72 (0,0))]]):=by
 have p8:=mL;obtain ⟨p,cap,rfl⟩:=m.form;have o9:=Ew m
 refine Se func291 ntmps291 [0,1,2] ?_;intro u R;refine A0<|A4 Y<|Zq<|BX<|Zg<|Zm Y<|Zm Y<|BV (CE BE B0 Y Y A1)<|A5<|A0<|Zm Y<|Zv (AY BE Y)<|A4 Y<|Zq<|A0<|Zm Y<|Zv (CR (n:=0) Y Y)<|A5<|Aq Y (fun h0=>by cases h0)<|fun h0=>AC<|Zx<|A0<|Zm Y<|Zv (AY BE Y)<|A4 Y<|Zq<|A0<|Zm Y<|Zm Y<|Zv (CR Y Y)<|Z0<|Zn [0,1,2,7,8,22] ?_;refine Zx<|Aq Y (fun Z=>?_) (fun Z=>?_);·
  refine A0<|Zm Y<|Zm Y<|Ze (BR (by_:=40) (sz:=5) BE (V:Tryz.prog.info? 72=some Tryz.t72) V rfl V rfl Y (m) Y (DN 5 X 1 1 72 (0,0) (Af [y]) V) Wo Wo (by exact CU _) A1 A1) ?_;rintro _ _ ⟨p9,U,rfl⟩;obtain ⟨l8,l5,rfl⟩:=U.form;refine A4 Y<|AJ<|Zt<|AO V results291 Y (by
   have Z:i=rows.length:=by omega
   subst Z;exact ⟨_,[],BS U (Xn rows _ (D2 _) y).symm (by rw [GS,k8,DG,Bi]),rfl⟩)
 obtain ⟨g,gm,cur,z,d9,rfl,kv,I⟩:=E9 m A1;injection d9 with hv1 hv2 hv3
 subst hv1 hv3;obtain ⟨_,o8,_,l9,ax⟩:=Jf m;refine AC<|Zx<|Zq<|A0<|Zm Y<|Zm Y<|Ya Y Y<|Zm Y<|Zv (R6 BE Y)<|Zv (DK Y Y)<|A5<|Aq Y (fun hg=>?_) (fun hg=>?_);·
  refine A0<|Zm Y<|Zm Y<|BV (Bu BE B0 Y Y A1)<|Zm Y<|Zm Y<|Ya Y Y<|Zm Y<|Yb Y Y ?_;refine Ze (LX (by_:=40) (sz:=5) (xs:=Af (rows.take i)) BE CM (rfl:Tryz.prog.info? 72=some Tryz.t72) rfl rfl rfl rfl Y Y Wh (iw I i hi) (by rw [BH,CC];omega) A1 AW A1 A1 A1) ?_;rintro _ _ ⟨s9,J,rfl⟩;rw [show i+(rows.length+1 -i)=rows.length+1 by omega]at J;have G:=J.1
  obtain ⟨g3,ek,gq,z3,rfl,rfl,j5,j3⟩:=E9 J A1;obtain ⟨_,ic,_,gy,O⟩:=Jf J;refine AN Y<|Zn [0,1,2,7,9] ?_;refine Zx<|A0<|Zm Y<|Zm Y ?_
  (refine BV (Bq BE B0 Y Y ?_ ?_) ?_;(focus (omega));(focus (omega)))
  refine Zm Y<|Xe (JZ (cs:=Af [y]) BE B0 Y Y Wh Wo ((rfl:C9 (y.A97:AH) 0 (Af [y]))) (by rw [BH,Fl];omega) (by rw [BH,Fl];omega) (O) (CU _)) ?_;refine A5<|Zq<|Az (n:=9) (0::0::0::6::15::0::0::96::255::[]) 256 AE AE V<|A2 0 V (AP Y)<|A2 1 V (AP Y)<|A2 2 V (AP Y)<|A2 3 V (ED Y Y A1) ?_
  (refine Dr (D':=31) 4 (Bq BE B0 Y Y ?_ ?_) ?_;(focus (omega));(focus (omega)))
  refine A2 5 V (AP Y)<|A2 6 V (AP Y) ?_
  (refine Dr (D':=255) 7 (Bq BE B0 Y Y ?_ ?_) ?_;(focus (omega));(focus (omega)))
  refine Yw 8 511 rfl (JZ (cs:=Af (rows.drop i)) BE B0 Y Y Wh Wo (UM I i hi) (by rw [BH,CD];omega) (by rw [BH,CD,GQ (by rw [BH,Fl];omega)];omega) (by rw [GQ (by rw [BH,Fl];omega)];exact O) (CU _))<|D4<|Ag<|Zn [9] ?_;refine Zx<|A0<|Zm Y<|A4 Y<|AJ<|Zt<|AO V results291 Y (by
   refine ⟨_,[(g,.cells cur 72 z)],BS (EU (i:=0+(i+1)*5) (ys:=Af (rows.drop i)) (EU (i:=0+i*5) (ys:=Af [y]) J (by rw [G,BH,Fl];omega)) ?_) (Xn rows i hi y).symm ?_,rfl⟩;· simp only [BW,CC,CD,G,BH,Fl];omega
   · rw [uS G hi (by rw [BH];rfl) (by rw [BH,CD]),Hb (by rw [BH,CC];omega),<-EG,Yo])
 refine AC<|Zx<|Zq ?_;obtain ⟨pg,cO,cu⟩:=VX m (rows.length+1) A1 A1;have G:=cu.1
 refine Zg<|Zm Y<|Zm Y<|Zm Y<|Ya Y Y ?_;refine BV (Bu BE B0 Y Y A1)<|A4 Y<|Zq<|Zq<|zo (s1:=[(X,_)]) (s2:=[(g,_)]) (a:=X) (b:=g) Wo Wo (C1.2 V) (C1.2 V) (fun bn=>?_);refine Zg<|Zm Y<|Zm Y<|Zm Y<|Zm Y<|Ya Y Y ?_
 (refine BV (Bq BE B0 Y Y ?_ ?_) ?_;(focus (omega));(focus (omega)))
 refine CG (cs:=[(X,.cells y.A97 72 (0,0)),(g,.cells cur 72 z)]) B4 (TT (tR:=4) func319 AE AE AE AE BE B0 Y bn A1) V rfl ?_;refine Zv (Br Y)<|Z0<|Zn [0,1,2,7,8,68] ?_;refine Zx<|AU Y (fun af=>?_) (fun af=>?_);·
  refine Zq<|Az (n:=9) (0::0::0::6::15::0::0::96::255::[]) 256 AE AE V<|A2 0 V (AP Y)<|A2 1 V (AP Y)<|A2 2 V (AP Y)<|A2 3 V (ED Y Y A1) ?_
  (refine Dr (D':=31) 4 (Bq BE B0 Y Y ?_ ?_) ?_;(focus (omega));(focus (omega)))
  refine A2 5 V (AP Y)<|A2 6 V (AP Y) ?_
  (refine Dr (D':=255) 7 (Bq BE B0 Y Y ?_ ?_) ?_;(focus (omega));(focus (omega)))
  refine Yw 8 511 rfl (JZ (cs:=Af (rows.drop i)) BE B0 Y Y Wh Wo (UM I i hi) (by rw [BH,CD];omega) (by rw [BH,CD];omega) (ax) (CU _))<|D4<|Ag<|Zx<|A0<|Zm Y<|Zm Y ?_
  (refine BV (Bq BE B0 Y Y ?_ ?_) ?_;(focus (omega));(focus (omega)))
  refine Zm Y<|Xe (JZ (cs:=Af [y]) BE B0 Y Y Wh Wo ((rfl:C9 (y.A97:AH) 0 (Af [y]))) (by rw [BH,Fl];omega) (by rw [BH,Fl,GQ (by rw [BH,CD];omega)];omega) (by rw [GQ (by rw [BH,CD];omega)];exact ax) (CU _)) ?_;refine Z0<|Zn [0] ?_;refine Zx<|A0<|Zm Y<|A4 Y<|AJ<|Zt<|AO V results291 Y (by
   refine ⟨_,[],BS (EU (i:=0+i*5) (ys:=Af [y]) (EU (i:=0+(i+1)*5) (ys:=Af (rows.drop i)) cu (by rw [G,BH,CD];omega)) ?_) (Xn rows i hi y).symm ?_,rfl⟩;· simp only [BW,CC,CD,BH,cO,Fl];omega
   · rw [nU G hi (by rw [BH];rfl) (by rw [BH,CD]),cN (by rw [BH];omega),Yo])
 cases af
structure QM where
 kd:Int
 tb:Int
 cl:Int
 lo:Int
 hi:Int
 bq:Int
 ot:Int
deriving DecidableEq
abbrev QM.GW(q:QM)(c:Chg)(x y:Option Go.Addr)(o n:Int):Array Go.Value:=#[I4 q.kd,I4 q.tb,I4 q.cl,I4 q.lo,I4 q.hi,I4 q.bq,I4 q.ot,I4 c.t,I4 c.k,.bool c.had,I4 c.o.a,I4 c.o.b,I4 c.o.c,.bool c.has,I4 c.n.a,I4 c.n.b,I4 c.n.c,.pointer x,.pointer y,I4 o,I4 n]
abbrev QM.A98(c:QM):Array Go.Value:=#[I4 c.kd,I4 c.tb,I4 c.cl,I4 c.lo,I4 c.hi,I4 c.bq,I4 c.ot]
structure CB where
 rows:List AX
 val:Int
 fnd:Bool
deriving DecidableEq
def inQ(q:QM)(r:AX):Bool:=decide (r.t=q.tb/\q.lo<=Bl r q.cl/\Bl r q.cl<=q.hi)
def BF(q:QM):Prop:=(0<=q.tb/\q.tb<=3)/\(0<=q.cl/\q.cl<=3)/\(-1000000000<=q.lo/\q.lo<=q.hi/\q.hi<=1000000000)/\
 ((q.kd=1/\q.cl=0/\q.lo=q.hi/\(1<=q.lo/\q.lo<=1000000)/\q.bq=0/\q.ot=0)\/((q.kd=2\/q.kd=3)/\q.bq=0/\q.ot=0)\/
  ((q.kd=4\/q.kd=5\/q.kd=6)/\(1<=q.bq/\q.bq<=3)/\q.ot=0)\/(q.kd=7/\(1<=q.bq/\q.bq<=3)/\(0<=q.ot/\q.ot<=3)))
instance(q:QM):Decidable (BF q):=by unfold BF;infer_instance
def CB.none:CB:=⟨[],0,false⟩
def Ll(ms:List Int):Int:=ms.foldl (·+·) 0
def EX(lt:Int->Int->Bool)(ms:List Int):CB:=ms.foldl (fun r n=>⟨r.rows,if !r.fnd||lt n r.val then n else r.val,true⟩) CB.none
def De(q:QM)(others:List AX)(k:Int):Option AX:=others.find? (fun x=>decide (x.t=q.ot/\x.k=k))
def Iw(q:QM)(others:List AX)(r:AX):List AX:=match De q others (Bl r q.bq)with
 |some x=>[r,x]
 |none=>[]
def Iy(q:QM)(rows others:List AX):List AX:=rows.flatMap (Iw q others)
def Cu(q:QM)(rows:List AX):List Int:=rows.map fun r=>Bl r q.bq
def FV(q:QM)(rows others:List AX):CB:=
 if q.kd=3 then⟨[],rows.length,false⟩else if q.kd=4 then⟨[],Ll (Cu q rows),false⟩
 else if q.kd=5 then EX (fun a b=>decide (a<b)) (Cu q rows)else if q.kd=6 then EX (fun a b=>decide (b<a)) (Cu q rows)
 else if q.kd=7 then⟨Iy q rows others,0,false⟩else⟨rows,0,false⟩
def CS(rs:List AX)(q:QM):List AX:=Dt rs q.tb q.cl.toNat q.lo q.hi
def Ci(rs:List AX)(q:QM):CB:=FV q (CS rs q) (IW rs q.ot)
def mX(c:Chg):List AX:=if c.had then [⟨c.t,c.k,c.o⟩]else []
def I7(q:QM)(b:Bool)(r:AX):Option AX:=if b&&inQ q r then some r else none
def bfQ(q:QM)(c:Chg):Option AX:=I7 q c.had ⟨c.t,c.k,c.o⟩
def afQ(q:QM)(c:Chg):Option AX:=I7 q c.has ⟨c.t,c.k,c.n⟩
def mQ(q:QM):Option AX->Int
 |some r=>Bl r q.bq
 |none=>0
def OJ(q:QM)(c:Chg):Bool:=(bfQ q c).isSome||(afQ q c).isSome
def Ut(q:QM)(c:Chg):Bool:=(bfQ q c).isSome !=(afQ q c).isSome
def Cq(q:QM)(c:Chg):Bool:=
 if q.kd=1\/q.kd=2 then OJ q c else if q.kd=3 then Ut q c else if q.kd=4 then decide (mQ q (bfQ q c)≠mQ q (afQ q c))
 else if q.kd=5\/q.kd=6 then Ut q c||decide (mQ q (bfQ q c)≠mQ q (afQ q c))else OJ q c||decide (c.t=q.ot)
theorem QL{c:Chg}(J:GV rs c):∃A B,rs=A++mX c++B/\EN rs c=A++Ny c++B:=by
 refine ⟨rs.take (EA rs c.t c.k),(rs.drop (EA rs c.t c.k)).drop (if c.had then 1 else 0),?_,V⟩;unfold mX;cases hh:c.had with
 |false=>simp
 |true=>
  have m:(Fs rs c.t c.k).2=true:=by rw [J.1,hh]
  obtain ⟨r,Z,hi,U,X⟩:=JP m;have hv:=J.2 m
  rw [X]at hv;have e:r=⟨c.t,c.k,c.o⟩:=by
   obtain ⟨t,k,v⟩:=r;obtain ⟨G,I⟩:=hi;simp only at G I hv;subst G I hv;rfl
  rw [e]at U;obtain ⟨O,g⟩:=C4.1 U;simp only [Hj,D3];conv=>lhs;rw [<-K1 (EA rs c.t c.k) rs,S8 O,g]
  rw [Mb,S8 O];rfl
variable{q:QM}
theorem zZ(h:BF q)(r:AX):inR q.tb q.cl.toNat q.lo q.hi r=inQ q r:=by
 have hc:=h.2.1;have:=Li r q.cl.toNat A1
 rw [show((q.cl.toNat:Nat):Int)=q.cl by omega]at this;unfold inR inQ;rw [this]
theorem Qr(h:BF q)(rs:List AX):CS rs q=(rs.filter (inQ q)).foldl (aV q.cl.toNat) []:=by
 unfold CS Dt;rw [ju fun r _=>zZ h r]
theorem Ht(h:BF q)(rs:List AX):(CS rs q).Perm (rs.filter (inQ q)):=by
 have:=ET rs q.tb q.cl.toNat q.lo q.hi;rwa [ju fun r _=>zZ h r]at this
theorem Te(q:QM)(c:Chg):(mX c).filter (inQ q)=(bfQ q c).toList:=by
 unfold mX bfQ I7;cases c.had with
 |false=>rfl
 |true=>simp only [Hj,Vc,cV,nc];split<;>rfl
theorem Tf(q:QM)(c:Chg):(Ny c).filter (inQ q)=(afQ q c).toList:=by
 unfold Ny afQ I7;cases c.has with
 |false=>rfl
 |true=>simp only [Hj,Vc,cV,nc];split<;>rfl
def Jw:List Int->Int
 |[]=>0
 |x::l=>x+Jw l
theorem NC(l:List Int):∀a,l.foldl (·+·) a=a+Jw l:=by
 induction l with
 |nil=>intro a;simp [Jw]
 |cons x l ih=>intro a;rw [V1,ih];simp only [Jw];omega
theorem YV(a b:List Int):Jw (a++b)=Jw a+Jw b:=by
 induction a with
 |nil=>simp [Jw]
 |cons x a ih=>simp only [RM,Jw,ih];omega
theorem Mh{a b:List Int}(h:a.Perm b):Jw a=Jw b:=by
 induction h with
 |nil=>rfl
 |cons x _ ih=>simp only [Jw,ih]
 |swap x y l=>simp only [Jw];omega
 |trans _ _ ih1 ih2=>exact ih1.trans ih2
theorem yj(lt:Int->Int->Bool)(I:∀a b c,lt b a=false->lt c b=false->lt c a=false)(G:∀a,lt a a=false)(g:∀a b,lt a b=true->lt b a=false)(l:List Int):∀(m:Int),∃x,(x=m\/x∈l)/\lt m x=false/\(∀y∈l,lt y x=false)/\l.foldl (fun(r:CB) n=>(⟨r.rows,if !r.fnd||lt n r.val then n else r.val,true⟩:CB)) ⟨[],m,true⟩=⟨[],x,true⟩:=by
 induction l with
 |nil=>intro m;exact ⟨m,.inl rfl,G m,by simp,rfl⟩
 |cons z l ih=>
  intro m;rw [V1];cases hz:lt z m with
  |true=>
   obtain ⟨x,J,h2,O,U⟩:=ih z;simp only [SR,nh,hz,Hj];refine ⟨x,.inr (by rcases J with h|h;rw [h];simp;exact FA _ h),I x z m h2 (g z m hz),fun y hy=>?_,U⟩;rcases DB.1 hy with rfl|hy
   · exact h2
   · exact O y hy
  |false=>
   obtain ⟨x,J,h2,O,U⟩:=ih m;simp only [SR,nh,hz,Mn,HO];refine ⟨x,by rcases J with h|h;exact .inl h;exact .inr (FA _ h),h2,fun y hy=>?_,U⟩;rcases DB.1 hy with rfl|hy
   · exact I x m y h2 hz
   · exact O y hy
theorem KY(lt:Int->Int->Bool)(G:∀a b c,lt b a=false->lt c b=false->lt c a=false)(m:∀a,lt a a=false)(g:∀a b,lt a b=true->lt b a=false)(z:Int)(l:List Int):∃x∈z::l,(∀y∈z::l,lt y x=false)/\EX lt (z::l)=⟨[],x,true⟩:=by
 obtain ⟨x,I,h2,J,O⟩:=yj lt G m g l z;refine ⟨x,by rcases I with h|h;rw [h];simp;exact FA _ h,fun y hy=>?_,?_⟩
 · rcases DB.1 hy with rfl|hy
   · exact h2
   · exact J y hy
 · unfold EX
   rw [V1];exact O
theorem Pe(lt:Int->Int->Bool)(I:∀a b c,lt b a=false->lt c b=false->lt c a=false)(m:∀a,lt a a=false)(g:∀a b,lt a b=true->lt b a=false)(J:∀a b,lt a b=false->lt b a=false->a=b){l G:List Int}(h:∀y,y∈l↔y∈G):EX lt l=EX lt G:=by
 match l,G,h with
 |[],[],_=>rfl
 |[],y::G,h=>have:=(h y).2 B4;cases this
 |y::l,[],h=>have:=(h y).1 B4;cases this
 |y::l,y'::G,h=>
  obtain ⟨x,U,X,Z⟩:=KY lt I m g y l;obtain ⟨O,b1,b2,b3⟩:=KY lt I m g y' G;rw [Z,b3,J x O (b2 x ((h x).1 U)) (X O ((h O).2 b1))]
theorem jP{c:Chg}(g:GV rs c)(h:c.t≠t):IW (EN rs c) t=IW rs t:=by
 obtain ⟨A,B,e1,e2⟩:=QL g;have z1:(mX c).filter (inT t)=[]:=by
  unfold mX;split;· simp [inT,h]
  · rfl
 have z2:(Ny c).filter (inT t)=[]:=by
  unfold Ny;split;· simp [inT,h]
  · rfl
 unfold IW;rw [e2];conv=>rhs;rw [e1]
 simp only [IH,z1,z2,DG]
theorem SB{o:Option AX}(h:o.isSome=false):o.toList=[]:=by
 cases o with
 |none=>rfl
 |some x=>cases h
theorem vG{c:Chg}(J:BF q)(hf:GV rs c)(h:Cq q c=false):Ci (EN rs c) q=Ci rs q:=by
 obtain ⟨A,B,e1,e2⟩:=QL hf;have Z:rs.filter (inQ q)=A.filter (inQ q)++(bfQ q c).toList++B.filter (inQ q):=by
  conv=>lhs;rw [e1]
  rw [IH,IH,Te]
 have f2:(EN rs c).filter (inQ q)=A.filter (inQ q)++(afQ q c).toList++B.filter (inQ q):=by
  rw [e2,IH,IH,Tf]
 have O:=Ht J rs;have U:=Ht J (EN rs c)
 rw [Z]at O;rw [f2]at U;have I:(bfQ q c).isSome=false->(afQ q c).isSome=false->CS (EN rs c) q=CS rs q:=fun h1 h2=>by
  rw [Qr J,Qr J,Z,f2,SB h1,SB h2]
 unfold Cq at h;unfold Ci FV;split at h
 · rename_i hk
   unfold OJ at h;rw [jj]at h;rw [I h.1 h.2,An A1,An A1,An A1,An A1,An A1,An A1,An A1,An A1,An A1,An A1]
 · split at h
   · rename_i hk
     rw [Ax hk,Ax hk];have hl:(CS (EN rs c) q).length=(CS rs q).length:=by
      rw [O.length_eq,U.length_eq];simp only [BW];unfold Ut at h;cases hb:bfQ q c<;>cases g:afQ q c<;>simp [hb,g]at h⊢
     rw [hl]
   · split at h
     · rename_i hk3 hk
       rw [An hk3,An hk3,Ax hk,Ax hk];have hs:Ll (Cu q (CS (EN rs c) q))=Ll (Cu q (CS rs q)):=by
        unfold Ll Cu;rw [NC,NC,Mh (O.map _),Mh (U.map _)];simp only [C2,YV];have X:=cL h
        have key:∀o:Option AX,Jw (o.toList.map fun r=>Bl r q.bq)=mQ q o:=fun o=>by
         cases o with
         |none=>rfl
         |some x=>simp [Jw,mQ]
        rw [key,key];omega
       rw [hs]
     · split at h
       · rename_i hk3 hk4 hk
         rw [jj]at h;have X:=cL h.2
         have G:=h.1;have m:∀y,y∈Cu q (CS (EN rs c) q)↔y∈Cu q (CS rs q):=fun y=>by
          unfold Cu;rw [(O.map _).mem_iff,(U.map _).mem_iff];unfold Ut at G;cases hb:bfQ q c<;>cases g:afQ q c<;>simp [hb,g]at G⊢
          simp [hb,g,mQ]at X;rw [X]
         rw [An hk3,An hk3,An hk4,An hk4];rcases hk with hk|hk
         · rw [Ax hk,Ax hk]
           exact Pe _ (by intro a b c;simp;omega) (by intro a;simp) (by intro a b;simp;omega) (by intro a b;simp;omega) m
         · rw [An (show¬q.kd=5 by omega),An (show¬q.kd=5 by omega),Ax hk,Ax hk]
           exact Pe _ (by intro a b c;simp;omega) (by intro a;simp) (by intro a b;simp;omega) (by intro a b;simp;omega) m
       · rw [jj]at h
         have g:=h.1;unfold OJ at g;rw [jj]at g;rw [I g.1 g.2,jP hf (cL h.2)]
def FE(q:QM):Prop:=(0<=q.tb/\q.tb<=3)/\(0<=q.cl/\q.cl<=3)/\(-1000000000<=q.lo/\q.lo<=q.hi/\q.hi<=1000000000)
instance(q:QM):Decidable (FE q):=by unfold FE;infer_instance
def Pw(q:QM):Prop:=1<=q.bq/\q.bq<=3
instance(q:QM):Decidable (Pw q):=by unfold Pw;infer_instance
theorem vn(h:q.kd=1):BF q↔FE q/\q.cl=0/\q.lo=q.hi/\(1<=q.lo/\q.lo<=1000000)/\q.bq=0/\q.ot=0:=by unfold BF FE;omega
theorem vm(h:q.kd=2\/q.kd=3):BF q↔FE q/\q.bq=0/\q.ot=0:=by unfold BF FE;omega
theorem vl(h:q.kd=4\/q.kd=5\/q.kd=6):BF q↔FE q/\Pw q/\q.ot=0:=by unfold BF FE Pw;omega
theorem vj(h:q.kd=7):BF q↔FE q/\(0<=q.ot/\q.ot<=3)/\Pw q:=by unfold BF FE Pw;omega
theorem WW(h:q.kd=1):decide (BF q)=decide (FE q/\q.cl=0/\q.lo=q.hi/\(1<=q.lo/\q.lo<=1000000)/\q.bq=0/\q.ot=0):=decide_eq_decide.2 (vn h)
theorem xf(h:q.kd=2\/q.kd=3):decide (BF q)=decide (FE q/\q.bq=0/\q.ot=0):=decide_eq_decide.2 (vm h)
theorem xd(h:q.kd=4\/q.kd=5\/q.kd=6):decide (BF q)=decide (FE q/\Pw q/\q.ot=0):=decide_eq_decide.2 (vl h)
theorem zh(h:q.kd=7):decide (BF q)=decide (FE q/\(0<=q.ot/\q.ot<=3)/\Pw q):=decide_eq_decide.2 (vj h)
theorem VH(h:¬q.kd=1)(J:¬q.kd=7)(m:¬q.kd=4)(G:¬q.kd=5)(I:¬q.kd=6)(h2:¬q.kd=2)(g:¬q.kd=3):¬BF q:=by unfold BF;omega
variable{b0:Bool}
theorem oB(h:q.kd=4\/q.kd=5\/q.kd=6)(g:b0=decide (FE q)):((b0&&decide (Pw q))&&decide (q.ot=0))=decide (BF q):=by
 rw [xd h,g];simp [Bool.and_assoc]
theorem nX(h:q.kd=2\/q.kd=3)(g:b0=decide (FE q)):((b0&&decide (q.bq=0))&&decide (q.ot=0))=decide (BF q):=by
 rw [xf h,g];simp [Bool.and_assoc]
theorem xF(h:q.kd=7)(g:b0=decide (FE q))(e0:b0=true):((decide (0<=q.ot/\q.ot<=3)&&decide (Pw q))&&decide ((0:Int)=0))=decide (BF q):=by
 have m:FE q:=I0 (g.symm.trans e0);rw [zh h];simp [m]
theorem xT{x y:Bool}(h:q.kd=7)(g:b0=decide (FE q))(e0:b0=false):((false&&x)&&y)=decide (BF q):=by
 have m:¬FE q:=cL (g.symm.trans e0);rw [zh h];simp [m]
variable{b:Bool}
theorem zD{z:Int}(g:((b&&decide (Pw q))&&decide (z=0))=decide (BF q))(e:b=true):((decide (1<=q.bq/\q.bq<=3)&&decide ((0:Int)=0))&&decide (z=0))=decide (BF q):=by
 rw [<-g,e,show decide (Pw q)=decide (1<=q.bq/\q.bq<=3) from decide_eq_decide.2 Iff.rfl];simp only [Vc,decide_true,ke]
theorem zE{x y:Bool}{z:Int}(g:((b&&decide (Pw q))&&decide (z=0))=decide (BF q))(e:b=false):((false&&x)&&y)=decide (BF q):=by
 rw [<-g,e];simp
theorem KL(n lo hi:Int):BB prog 87 #[I4 n,I4 lo,I4 hi] [] (.bool (decide (lo<=n/\n<=hi))):=by
 refine Se func87 ntmps87 [0,1,2] ?_;intro u R;refine A0<|A4 Y<|A0<|Zm Y<|Zm Y<|Zv (He Y Y)<|Zm Y<|Aj (t:=10) Y V (fun g=>?_) (fun g=>?_);·
  refine Zf Y Y<|Zf Y Y<|Yg (NY Y Y)<|Zv (AV Y Y)<|A4 Y<|AJ<|AO V results87 Y (by exact ⟨by simp [g],V⟩)
 refine A7 Y V<|A7 Y V<|A7 Y V<|Zv (AL Y Y)<|A4 Y<|AJ<|AO V results87 Y (by exact ⟨by simp [g],V⟩)
theorem Jg(q:QM):BB prog 35 #[.agg q.A98] [] (.bool (decide (BF q))):=by
 refine Se func35 ntmps35 [0] ?_;intro u R;refine A0<|Ze (Bx #[_,_,_,_,_,_,_])<|AG fun X=>A4 Y<|Zb [1] ?_;refine DL (e0:=[]) (H0:=[]) (fun e H=>∃(b0:Bool),(b0=decide (FE q))/\e=[(3,.bool b0)]/\H=[]) Wp ?hx_1 ?hy_1
 case hx_1=>
  refine Zg<|Zh 1 CT V rfl A6 Y<|Zl AF Y ?_;refine Xr [_,_,_] Y call87 Y V (KL _ _ _) ?_;refine Zm Y<|Aj (t:=7) Y V (fun a1=>?_) (fun a1=>?_);·
   refine Yf 2 CT V rfl A6 Y<|Yl AF Y ?_;refine Xr [_,_,_] Y call87 Y V (KL _ _ _) ?_;refine Zv (AV Y Y)<|Zm Y<|Aj (t:=12) Y V (fun a2=>?_) (fun a2=>?_);·
    refine Yf 3 CT V rfl A6 Y<|Yl AF Y ?_;refine Yf 4 CT V rfl A6 Y<|Yl AF Y ?_;refine Xr [_,_,_] Y call87 Y V (KL _ _ _) ?_;refine Zv (AV Y Y)<|Zm Y<|Aj (t:=19) Y V (fun a3=>?_) (fun a3=>?_);·
     refine Yf 4 CT V rfl A6 Y<|Yl AF Y ?_;refine Yg (NY Y Y)<|Zv (AV Y Y)<|AN Y<|Zn [3,1] ?_;refine BN (e':=[(3,_)]) (by exact ⟨_,by unfold FE;exact decide_eq_decide.2 A1,V,V⟩)
    refine A7 Y V<|A7 Y V<|A7 Y V<|Zv (AL Y Y)<|AN Y<|Zn [3,1] ?_;refine BN (e':=[(3,_)]) (by exact ⟨_,by unfold FE;exact (Cd A1).symm,V,V⟩)
   refine A7 Y V<|A7 Y V<|A7 Y V<|A7 Y V<|A7 Y V<|Zv (AL Y Y)<|Zm Y<|A7 Y V<|A7 Y V<|A7 Y V<|Zv (AL Y Y)<|AN Y<|Zn [3,1] ?_;refine BN (e':=[(3,_)]) (by exact ⟨_,by unfold FE;exact (Cd A1).symm,V,V⟩)
  refine A7 Y V<|A7 Y V<|A7 Y V<|Zv (AL Y Y)<|Zm Y<|A7 Y V<|A7 Y V<|A7 Y V<|A7 Y V<|A7 Y V<|Zv (AL Y Y)<|Zm Y<|A7 Y V<|A7 Y V<|A7 Y V<|Zv (AL Y Y)<|AN Y<|Zn [3,1] ?_;refine BN (e':=[(3,_)]) (by exact ⟨_,by unfold FE;exact (Cd A1).symm,V,V⟩)
 rintro _ _ ⟨b0,g,rfl,rfl⟩;refine Zq<|A0<|Zh 0 CT V rfl A6 Y<|Zl AF Y ?_;refine A5<|AQ<|Zb [3,25,1] ?_;refine DL (e0:=[(3,_),(25,_)]) (H0:=[[(X,_)]]) (fun e H=>∃(b:Bool) (y z:Int),(((b&&decide (y=0))&&decide (z=0))=decide (BF q))/\e=[(3,.bool b)]/\H=[[(X,.cells #[I4 q.kd,I4 q.tb,I4 q.cl,I4 q.lo,I4 q.hi,I4 y,I4 z] 34 (0,0))]]) Wp ?hx_6 ?hy_6
 case hx_6=>
  refine AQ<|Zb [3,25,1] ?_;refine DL (e0:=[(3,_),(25,_)]) (H0:=[[(X,_)]]) (fun e H=>∃(b:Bool) (z:Int),(((b&&decide (Pw q))&&decide (z=0))=decide (BF q))/\e=[(3,.bool b)]/\H=[[(X,.cells #[I4 q.kd,I4 q.tb,I4 q.cl,I4 q.lo,I4 q.hi,I4 q.bq,I4 z] 34 (0,0))]]) Wp ?hx_7 ?hy_7
  case hx_7=>
   refine AQ<|Zq<|AQ<|Zq<|AQ<|Zq<|Zq<|A0<|Zv (CK Y Y)<|A4 Y<|Aq Y (fun G=>?_) (fun G=>?_);·
    refine Ay<|Zt<|Zt<|AR<|Zx<|Zq<|A0<|Zm Y<|Zm Y<|Ae (t:=38) Y V (fun Z=>?_) (fun Z=>?_);·
     have O:FE q:=I0 (g.symm.trans Z);refine Yf 2 CT V rfl A6 Y<|Yl AF Y ?_;refine Yg (CK Y Y)<|Zv (AV Y Y)<|Zm Y<|Aj (t:=43) Y V (fun c1=>?_) (fun c1=>?_);·
      refine Yf 3 CT V rfl A6 Y<|Yl AF Y ?_;refine Yf 4 CT V rfl A6 Y<|Yl AF Y ?_;refine Yg (CK Y Y)<|Zv (AV Y Y)<|Zm Y<|Aj (t:=50) Y V (fun c2=>?_) (fun c2=>?_);·
       refine Yf 3 CT V rfl A6 Y<|Yl AF Y ?_;refine Xr [_,_,_] Y call87 Y V (KL _ _ _) ?_;refine Zv (AV Y Y)<|Zm Y<|Aj (t:=55) Y V (fun c3=>?_) (fun c3=>?_);·
        refine Yf 5 CT V rfl A6 Y<|Yl AF Y ?_;refine Yg (CK Y Y)<|Zv (AV Y Y)<|Zm Y<|Aj (t:=60) Y V (fun c4=>?_) (fun c4=>?_);·
         refine Yf 6 CT V rfl A6 Y<|Yl AF Y ?_;refine Yg (CK Y Y)<|Zv (AV Y Y)<|AN Y<|Zn [2] ?_;refine Zx<|AJ<|Zt<|Ac<|Zt<|Ac<|Zt<|Ac<|Zt<|Ac<|Zt<|AO rfl On Y (by exact ⟨by rw [WW G];exact congrArg Value.bool (decide_eq_decide.2 ⟨fun h=>⟨O,by omega⟩,fun h=>by omega⟩),rfl⟩)
        refine A7 Y V<|A7 Y V<|A7 Y V<|Zv (AL Y Y)<|AN Y<|Zn [2] ?_;refine Zx<|AJ<|Zt<|Ac<|Zt<|Ac<|Zt<|Ac<|Zt<|Ac<|Zt<|AO rfl On Y (by exact ⟨by rw [WW G];exact congrArg Value.bool (Cd (fun h=>by first|exact O h.1|omega)).symm,rfl⟩)
       refine A7 Y V<|A7 Y V<|A7 Y V<|Zv (AL Y Y)<|Zm Y<|A7 Y V<|A7 Y V<|A7 Y V<|Zv (AL Y Y)<|AN Y<|Zn [2] ?_;refine Zx<|AJ<|Zt<|Ac<|Zt<|Ac<|Zt<|Ac<|Zt<|Ac<|Zt<|AO rfl On Y (by exact ⟨by rw [WW G];exact congrArg Value.bool (Cd (fun h=>by first|exact O h.1|omega)).symm,rfl⟩)
      refine A7 Y V<|A7 Y V<|A7 Y V<|Zv (AL Y Y)<|Zm Y<|A7 Y V<|A7 Y V<|A7 Y V<|Zv (AL Y Y)<|Zm Y<|A7 Y V<|A7 Y V<|A7 Y V<|Zv (AL Y Y)<|AN Y<|Zn [2] ?_;refine Zx<|AJ<|Zt<|Ac<|Zt<|Ac<|Zt<|Ac<|Zt<|Ac<|Zt<|AO rfl On Y (by exact ⟨by rw [WW G];exact congrArg Value.bool (Cd (fun h=>by first|exact O h.1|omega)).symm,rfl⟩)
     refine A7 Y V<|A7 Y V<|A7 Y V<|A7 Y V<|A7 Y V<|Zv (AL Y Y)<|Zm Y<|A7 Y V<|A7 Y V<|A7 Y V<|Zv (AL Y Y)<|Zm Y<|A7 Y V<|A7 Y V<|A7 Y V<|Zv (AL Y Y)<|Zm Y<|A7 Y V<|A7 Y V<|A7 Y V<|Zv (AL Y Y)<|AN Y<|Zn [2] ?_;refine Zx<|AJ<|Zt<|Ac<|Zt<|Ac<|Zt<|Ac<|Zt<|Ac<|Zt<|AO rfl On Y (by exact ⟨by rw [WW G];exact congrArg Value.bool (Cd (fun h=>by first|exact O h.1|omega)).symm,rfl⟩)
    have O:¬FE q:=cL (g.symm.trans Z);refine A7 Y V<|A7 Y V<|A7 Y V<|Zv (AL Y Y)<|Zm Y<|A7 Y V<|A7 Y V<|A7 Y V<|A7 Y V<|A7 Y V<|Zv (AL Y Y)<|Zm Y<|A7 Y V<|A7 Y V<|A7 Y V<|Zv (AL Y Y)<|Zm Y<|A7 Y V<|A7 Y V<|A7 Y V<|Zv (AL Y Y)<|Zm Y<|A7 Y V<|A7 Y V<|A7 Y V<|Zv (AL Y Y)<|AN Y<|Zn [2] ?_;refine Zx<|AJ<|Zt<|Ac<|Zt<|Ac<|Zt<|Ac<|Zt<|Ac<|Zt<|AO rfl On Y (by exact ⟨by rw [WW G];exact congrArg Value.bool (Cd (fun h=>by first|exact O h.1|omega)).symm,rfl⟩)
   refine AC<|Zx<|Zq<|A0<|Zv (CK Y Y)<|A4 Y<|Aq Y (fun J=>?_) (fun J=>?_);·
    refine Ay<|Zt<|Zt<|Av V<|Zt<|AR<|Zx<|A0<|Zm Y<|Zm Y<|Ae (t:=66) Y V (fun e0=>?_) (fun e0=>?_);·
     refine Yf 6 CT V rfl A6 Y<|Yl AF Y ?_;refine Xr [_,_,_] Y call87 Y V (KL _ _ _) ?_;refine Zv (AV Y Y)<|A4 Y<|Zg<|Zh 6 CT V rfl A6 Y<|Xe (Zs A6 Y Y V) ?_;refine Z0<|Zn [1,3] ?_;refine A8<|Zn [3,1] ?_;refine BN (e':=[(3,_)]) (by exact ⟨_,_,xF J g e0,V,V⟩)
    refine A7 Y V<|A7 Y V<|A7 Y V<|Zv (AL Y Y)<|A4 Y<|Zg<|Zh 6 CT V rfl A6 Y<|Xe (Zs A6 Y Y V) ?_;refine Z0<|Zn [1,3] ?_;refine A8<|Zn [3,1] ?_;refine BN (e':=[(3,_)]) (by exact ⟨_,0,xT J g e0,V,V⟩)
   refine AC<|Zx<|Zq<|Zq<|A0<|Zv (CK Y Y)<|A4 Y<|Aq Y (fun I=>?_) (fun I=>?_);·
    refine AC<|Zx<|Aq Y (fun I=>?_) (fun I=>?_);·
     refine Ay<|Zt<|Zt<|Av V<|Zt<|Av V<|Zt<|AR<|Zn [3,1] ?_;refine BN (e':=[(3,_)]) (by exact ⟨_,_,oB A1 g,V,V⟩)
    refine AC<|Zx<|Zq<|A0<|Zv (CK Y Y)<|A4 Y<|Aq Y (fun m=>?_) (fun m=>?_);·
     refine AC<|Zx<|Aq Y (fun m=>?_) (fun m=>?_);·
      refine Ay<|Zt<|Av V<|Zt<|Av V<|Zt<|Av V<|Zt<|AR<|Zn [3,1] ?_;refine BN (e':=[(3,_)]) (by exact ⟨_,_,_,nX A1 g,V,V⟩)
     refine AC<|Zx<|Ay<|Av V<|Zt<|Av V<|Zt<|Av V<|Zt<|Av V<|Zt<|AR<|Zx<|A0<|A4 Y<|AJ<|AO V On Y (by exact ⟨congrArg Value.bool (Cd (VH G J A1 A1 A1 A1 A1)).symm,V⟩)
    refine Zg<|Zv (CK Y Y)<|A4 Y<|Aq Y (fun m=>?_) (fun m=>?_);·
     refine Ay<|Zt<|Av V<|Zt<|Av V<|Zt<|Av V<|Zt<|AR<|Zn [3,1] ?_;refine BN (e':=[(3,_)]) (by exact ⟨_,_,_,nX A1 g,V,V⟩)
    refine AC<|Zx<|Ay<|Av V<|Zt<|Av V<|Zt<|Av V<|Zt<|Av V<|Zt<|AR<|Zx<|A0<|A4 Y<|AJ<|AO V On Y (by exact ⟨congrArg Value.bool (Cd (VH G J A1 A1 A1 A1 A1)).symm,V⟩)
   refine A0<|Zv (CK Y Y)<|A4 Y<|Aq Y (fun I=>?_) (fun I=>?_);·
    refine AC<|Zx<|Aq Y (fun I=>?_) (fun I=>?_);·
     refine Ay<|Zt<|Zt<|Av V<|Zt<|Av V<|Zt<|AR<|Zn [3,1] ?_;refine BN (e':=[(3,_)]) (by exact ⟨_,_,oB A1 g,V,V⟩)
    refine AC<|Zx<|Zq<|A0<|Zv (CK Y Y)<|A4 Y<|Aq Y (fun m=>?_) (fun m=>?_);·
     refine AC<|Zx<|Aq Y (fun m=>?_) (fun m=>?_);·
      refine Ay<|Zt<|Av V<|Zt<|Av V<|Zt<|Av V<|Zt<|AR<|Zn [3,1] ?_;refine BN (e':=[(3,_)]) (by exact ⟨_,_,_,nX A1 g,V,V⟩)
     refine AC<|Zx<|Ay<|Av V<|Zt<|Av V<|Zt<|Av V<|Zt<|Av V<|Zt<|AR<|Zx<|A0<|A4 Y<|AJ<|AO V On Y (by exact ⟨congrArg Value.bool (Cd (VH G J A1 A1 A1 A1 A1)).symm,V⟩)
    refine Zg<|Zv (CK Y Y)<|A4 Y<|Aq Y (fun m=>?_) (fun m=>?_);·
     refine Ay<|Zt<|Av V<|Zt<|Av V<|Zt<|Av V<|Zt<|AR<|Zn [3,1] ?_;refine BN (e':=[(3,_)]) (by exact ⟨_,_,_,nX A1 g,V,V⟩)
    refine AC<|Zx<|Ay<|Av V<|Zt<|Av V<|Zt<|Av V<|Zt<|Av V<|Zt<|AR<|Zx<|A0<|AN Y<|Zn [2] ?_;refine Zx<|AJ<|AO V On Y (by exact ⟨congrArg Value.bool (Cd (VH G J A1 A1 A1 A1 A1)).symm,V⟩)
   refine Zg<|Zv (CK Y Y)<|A4 Y<|Aq Y (fun I=>?_) (fun I=>?_);·
    refine Ay<|Zt<|Zt<|Av V<|Zt<|Av V<|Zt<|AR<|Zn [3,1] ?_;refine BN (e':=[(3,_)]) (by exact ⟨_,_,oB A1 g,V,V⟩)
   refine AC<|Zx<|Zq<|A0<|Zv (CK Y Y)<|A4 Y<|Aq Y (fun m=>?_) (fun m=>?_);·
    refine AC<|Zx<|Aq Y (fun m=>?_) (fun m=>?_);·
     refine Ay<|Zt<|Av V<|Zt<|Av V<|Zt<|Av V<|Zt<|AR<|Zn [3,1] ?_;refine BN (e':=[(3,_)]) (by exact ⟨_,_,_,nX A1 g,V,V⟩)
    refine AC<|Zx<|Ay<|Av V<|Zt<|Av V<|Zt<|Av V<|Zt<|Av V<|Zt<|AR<|Zx<|A0<|AN Y<|Zn [2] ?_;refine Zx<|AJ<|AO V On Y (by exact ⟨congrArg Value.bool (Cd (VH G J A1 A1 A1 A1 A1)).symm,V⟩)
   refine Zg<|Zv (CK Y Y)<|AN Y<|Zn [1,3,34] ?_;refine Zx<|Aq Y (fun m=>?_) (fun m=>?_);·
    refine Ay<|Zt<|Av V<|Zt<|Av V<|Zt<|Av V<|Zt<|AR<|Zn [3,1] ?_;refine BN (e':=[(3,_)]) (by exact ⟨_,_,_,nX A1 g,V,V⟩)
   refine AC<|Zx<|Ay<|Av V<|Zt<|Av V<|Zt<|Av V<|Zt<|Av V<|Zt<|AR<|Zx<|A0<|A4 Y<|AJ<|AO V On Y (by exact ⟨congrArg Value.bool (Cd (VH G J A1 A1 A1 A1 A1)).symm,V⟩)
  rintro _ _ ⟨b,z,U,rfl,rfl⟩;refine A0<|Zm Y<|Zm Y<|Ae (t:=73) Y V (fun f0=>?_) (fun f0=>?_);·
   refine Yf 5 CT V rfl A6 Y<|Yl AF Y ?_;refine Xr [_,_,_] Y call87 Y V (KL _ _ _) ?_;refine Zv (AV Y Y)<|A4 Y<|Zg<|Zh 5 CT V rfl A6 Y<|Xe (Zs A6 Y Y V) ?_;refine Z0<|A8<|Zn [3,1] ?_;refine BN (e':=[(3,_)]) (by exact ⟨_,_,_,zD U f0,V,V⟩)
  refine A7 Y V<|A7 Y V<|A7 Y V<|Zv (AL Y Y)<|A4 Y<|Zg<|Zh 5 CT V rfl A6 Y<|Xe (Zs A6 Y Y V) ?_;refine Z0<|A8<|Zn [3,1] ?_;refine BN (e':=[(3,_)]) (by exact ⟨_,0,z,zE U f0,V,V⟩)
 rintro _ _ ⟨b,y,z,U,rfl,rfl⟩;refine Zq<|A0<|Zm Y<|Zm Y<|Ae (t:=80) Y V (fun g0=>?_) (fun g0=>?_);·
  refine Yf 5 CT V rfl A6 Y<|Yl AF Y ?_;refine Yg (CK Y Y)<|Zv (AV Y Y)<|Zm Y<|Aj (t:=85) Y V (fun g1=>?_) (fun g1=>?_);·
   refine Yf 6 CT V rfl A6 Y<|Yl AF Y ?_;refine Yg (CK Y Y)<|Zv (AV Y Y)<|A4 Y<|AJ<|Zt<|Ac<|Zt<|AO rfl On Y (by exact ⟨by rw [<-U];simp [*],rfl⟩)
  refine A7 Y rfl<|A7 Y rfl<|A7 Y rfl<|Zv (AL Y Y)<|A4 Y<|AJ<|Zt<|Ac<|Zt<|AO rfl On Y (by exact ⟨by rw [<-U];simp [*],rfl⟩)
 refine A7 Y rfl<|A7 Y rfl<|A7 Y rfl<|Zv (AL Y Y)<|Zm Y<|A7 Y rfl<|A7 Y rfl<|A7 Y rfl<|Zv (AL Y Y)<|A4 Y<|AJ<|Zt<|Ac<|Zt<|AO rfl On Y (by exact ⟨by rw [<-U];simp [*],rfl⟩)
def Iq(p:B6)(o:Option AX)(s:List A9):Prop:=match o with
 |none=>p=none/\s=[]
 |some r=>∃b,p=some ⟨b,0,none⟩/\s=[(b,.cells r.A97 72 (0,0))]
theorem Iq.some_{p:B6}{o:Option AX}(h:Iq p o s):p.isSome=o.isSome:=by
 cases o with
 |none=>rw [h.1];rfl
 |some r=>obtain ⟨b,rfl,_⟩:=h;rfl
theorem aZ(q:QM)(c:Chg)(g:Bool)(v:V3):I7 q g (EP c g v)=I7 q g ⟨c.t,c.k,v⟩:=by
 cases g with
 |false=>rfl
 |true=>rfl
theorem XX(h:b=false\/¬(r.t=q.tb/\q.lo<=Bl r q.cl/\Bl r q.cl<=q.hi)):I7 q b r=none:=by
 unfold I7 inQ;rcases h with h|h
 · rw [h];rfl
 · rw [Cd h,Bool.and_false];rfl
theorem xn(h:b=true)(h2:r.t=q.tb/\q.lo<=Bl r q.cl/\Bl r q.cl<=q.hi):I7 q b r=some r:=by
 unfold I7 inQ;rw [h,DE h2];rfl
theorem I9:Fv prog 3 (fun k:Int=>I4 k) (fun _=>True):=CY CM
theorem Oj(q:QM)(I:0<=q.cl/\q.cl<=3)(G:0<=q.bq/\q.bq<=3)(bq:Nat)(r:AX)(b:Bool):BZ prog 221 #[.agg r.A97,.bool b,I5 bq] [[(bq,.cells q.A98 34 (0,0))]] (fun v H'=>∃p s,v= .tuple #[.pointer p,I4 (mQ q (I7 q b r))]/\Iq p (I7 q b r) s/\H'=[s,[(bq,.cells q.A98 34 (0,0))]]):=by
 refine Se func221 ntmps221 [0,1,2] ?_;intro u R;refine A0<|Ze (Bx #[_,_,_,_,_])<|AG fun J=>Za Y<|A4 Y<|A0<|Zo Wh (AA (cs:=#[_,_,_,_,_]) D0 B0 Y B1 As)<|Zh 2 CT V rfl A6 Y<|Zl AF Y<|Xr [_,_] Y Sx Y V (Fy r q.cl I)<|A4 Y<|Zq<|A0<|Zm Y<|Zv (Br Y)<|Zm Y<|Ae (t:=14) Y V (fun m=>?_) (fun m=>?_);·
  refine A7 Y V<|A7 Y V<|A7 Y V<|A7 Y V<|A7 Y V<|Zv (AV Y Y)<|Zm Y<|A7 Y V<|A7 Y V<|A7 Y V<|A7 Y V<|Zv (AV Y Y)<|Zm Y<|A7 Y V<|A7 Y V<|A7 Y V<|A7 Y V<|Zv (AV Y Y)<|Z0<|Zn [2,3,32] ?_;refine Zx<|Co Y<|Zq<|BX<|Zg<|Za Y<|A4 Y<|AJ<|Zt<|Cv V ia Y Y (by
   have g:I7 q b r=none:=XX (by exact .inl (by simpa using m));exact ⟨none,[],by rw [g];rfl,by rw [g];exact ⟨rfl,rfl⟩,rfl⟩)
 refine Yf 0 G0 V rfl A6 Y<|Yl AF Y<|Yf 1 CT V rfl A6 Y<|Yl AF Y<|Yg (LZ Y Y)<|Zv (AL Y Y)<|Zm Y<|Aj (t:=21) Y V (fun h2=>?_) (fun h2=>?_);·
  refine A7 Y V<|A7 Y V<|A7 Y V<|A7 Y V<|Zv (AV Y Y)<|Zm Y<|A7 Y V<|A7 Y V<|A7 Y V<|A7 Y V<|Zv (AV Y Y)<|Z0<|Zn [2,3,32] ?_;refine Zx<|Co Y<|Zq<|BX<|Zg<|Za Y<|A4 Y<|AJ<|Zt<|Cv V ia Y Y (by
   have g:I7 q b r=none:=XX (by exact .inr A1);exact ⟨none,[],by rw [g];rfl,by rw [g];exact ⟨rfl,rfl⟩,rfl⟩)
 refine Zf Y Y<|Yf 3 CT V rfl A6 Y<|Yl AF Y<|Yg (Dw Y Y)<|Zv (AL Y Y)<|Zm Y<|Aj (t:=27) Y V (fun O=>?_) (fun O=>?_);·
  refine A7 Y V<|A7 Y V<|A7 Y V<|A7 Y V<|Zv (AV Y Y)<|Z0<|Zn [2,3,32] ?_;refine Zx<|Co Y<|Zq<|BX<|Zg<|Za Y<|A4 Y<|AJ<|Zt<|Cv V ia Y Y (by
   have g:I7 q b r=none:=XX (by exact .inr A1);exact ⟨none,[],by rw [g];rfl,by rw [g];exact ⟨rfl,rfl⟩,rfl⟩)
 refine Zf Y Y<|Yf 4 CT V rfl A6 Y<|Yl AF Y<|Yg (Et Y Y)<|Zv (AL Y Y)<|Z0<|Zn [2,3,32] ?_;refine Zx<|Aq Y (fun U=>?_) (fun U=>?_);·
  refine Zq<|BX<|Zg<|Za Y<|A4 Y<|AJ<|Zt<|Cv V ia Y Y (by
   have g:I7 q b r=none:=XX (by exact .inr A1);exact ⟨none,[],by rw [g];rfl,by rw [g];exact ⟨rfl,rfl⟩,rfl⟩)
 refine AC<|Zx<|A0<|Zo Wh (AA (cs:=#[_,_,_,_,_]) D0 B0 Y B1 As)<|Zh 5 CT V rfl A6 Y<|Zl AF Y<|Xr [_,_] Y Sx Y V (Fy r q.bq G)<|Za Y<|A4 Y<|AJ<|Cv V ia Y Y (by
  have g:I7 q b r=some r:=xn (by simpa using m) A1;exact ⟨_,_,by rw [g];rfl,by rw [g];exact ⟨J,rfl,rfl⟩,rfl⟩)
theorem VS(c:Chg):BB prog 222 #[.agg c.A96] [] (.tuple #[.agg #[I4 (EP c c.had c.o).t,I4 (EP c c.had c.o).k,I4 (EP c c.had c.o).v.a,I4 (EP c c.had c.o).v.b,I4 (EP c c.had c.o).v.c],.bool c.had]):=by
 refine Se func222 ntmps222 [0] ?_;intro u R;refine A0<|Ze (Bx #[_,_,_,_,_,_,_,_,_,_])<|AG fun g=>Ze (Al F0 #[_,_,_,_,_])<|AG fun m=>A4 Y<|A0<|Zo Wh (AA (cs:=#[_,_,_,_,_,_,_,_,_,_]) G2 C7 Y B1 As)<|Zh 2 C0 V rfl Cp Y<|Zl E6 Y<|Zh 3 C0 V rfl DO Y<|Zo Wh (AA (cs:=#[_,_,_]) HB DO Y B1 As)<|Xr [_,_,_] Y call191 Y V (XE c c.had c.o)<|Zd Y V<|Zd Y V<|Xe (Xw B0 _)<|AN Y<|Zn [2,3] ?_;refine Zx<|AJ<|Bj V results222 Y Wh (Am D0 B0 Wn (V)) Y (by exact ⟨V,V⟩)
set_option maxHeartbeats 1000000 in
theorem Jo(q:QM)(I:0<=q.cl/\q.cl<=3)(G:0<=q.bq/\q.bq<=3)(c:Chg):BZ prog 156 #[.agg q.A98,.agg c.A96] [] (fun v H'=>∃J O s1 s2,v= .agg (q.GW c J O (mQ q (bfQ q c)) (mQ q (afQ q c)))/\Iq J (bfQ q c) s1/\Iq O (afQ q c) s2/\H'=[s1,s2]):=by
 refine Se func156 ntmps156 [0,1] ?_;intro u R;refine A0<|Ze (Bx #[_,_,_,_,_,_,_])<|AG fun bq=>Ze (Bx #[_,_,_,_,_,_,_,_,_,_])<|AG fun Z=>Ze (EZ zeroValue262 (cs:=#[I4 0,I4 0,I4 0,I4 0,I4 0,I4 0,I4 0,I4 0,I4 0,.bool false,I4 0,I4 0,I4 0,.bool false,I4 0,I4 0,I4 0,.pointer none,.pointer none,I4 0,I4 0]) AE)<|AG fun rb=>A5<|A0<|Zo Wh (AA (cs:=#[_,_,_,_,_,_,_]) F2 CN Y B1 As) ?_;refine Zo Wh (AA (cs:=#[_,_,_,_,_,_,_,_,_,_]) G2 C7 Y B1 As) ?_;refine Zv (BL (vs:=[(0,.agg q.A98),(1,.agg c.A96)]) (cs:=(q.GW c none none 0 0)) Y (AZ (pl:=#[(0,7),(7,10),(17,1),(18,1),(19,1),(20,1)]) zeroValue262 DP (fun _=>by kernel_rfl) AE))<|Ze (EZ zeroValue262 (cs:=#[I4 0,I4 0,I4 0,I4 0,I4 0,I4 0,I4 0,I4 0,I4 0,.bool false,I4 0,I4 0,I4 0,.bool false,I4 0,I4 0,I4 0,.pointer none,.pointer none,I4 0,I4 0]) AE)<|AG fun be=>Xe (BM Z2 Y Y cM Wu (by exact Dx rfl) Fc AW (by exact BC _)) ?_;refine A5<|A0<|Zv (Bh (vs:=[]) (us:=[_]) Y Y)<|A4 Y<|A0<|Zm Y<|Zo Wh (AA (cs:=#[_,_,_,_,_,_,_,_,_,_]) G2 C7 Y B1 As) ?_;refine Xr [_] Y call222 Y V (VS c) ?_;refine Zd Y V<|Zd Y V<|Zc [_,_] Y call221 Y V (Oj q I G bq (EP c c.had c.o) c.had) ?_;rintro _ _ ⟨_,⟨J,s1,rfl,g,rfl⟩,rfl⟩;have U:I7 q c.had (EP c c.had c.o)=bfQ q c:=aZ q c c.had c.o
 rw [U]at g⊢;refine Zm Y<|Zd Y V<|Zd Y V<|Zh 17 DP V rfl Kx Y<|Xe (Zs Kx Y Y V (hi:=by(simp;done))) ?_;refine Zh 19 DP V rfl A6 Y<|Xe (Zs A6 Y Y V (hi:=by(simp;done))) ?_;refine Z0<|Zn [3,4,5,6] ?_;refine Zx<|A0<|Zm Y<|Zo Wh (AA (cs:=#[_,_,_,_,_,_,_,_,_,_]) G2 C7 Y B1 As) ?_;refine Xr [_] Y call136 Y V (Oo c) ?_;refine Zd Y V<|Zd Y V<|Zc [_,_] Y call221 Y V (Oj q I G bq (EP c c.has c.n) c.has) ?_;rintro _ _ ⟨_,⟨O,s2,rfl,m,rfl⟩,rfl⟩;have X:I7 q c.has (EP c c.has c.n)=afQ q c:=aZ q c c.has c.n
 rw [X]at m⊢;refine Zm Y<|Zd Y V<|Zd Y V<|Zh 18 DP V rfl Kx Y<|Xe (Zs Kx Y Y V (hi:=by(simp;done))) ?_;refine Zh 20 DP V rfl A6 Y<|Xe (Zs A6 Y Y V (hi:=by(simp;done))) ?_;refine Z0<|Zn [4,5] ?_;refine Zx<|A0<|Zo Wh (AA cG Z2 Y B1 (by exact BK V)) ?_;refine Xe (BM Z2 Y Y cM Wu (by exact Dx rfl) Fc AW (by exact BC _)) ?_;refine A5<|AJ<|Cs V results156 Y Wh (Am cG Z2 Wn (BK V)) (by exact ⟨J,O,s1,s2,V,g,m,V⟩)
theorem GA(q:QM)(c:Chg)(g m:B6)(o n:Int):(Value.agg (q.GW c g m o n)).cells=(q.GW c g m o n):=by simp [Value.cells]
theorem dC(q:QM)(c:Chg)(g m:B6)(o n:Int):BB prog 208 #[.agg (q.GW c g m o n)] [] (.bool (g.isSome||m.isSome)):=by
 refine Se func208 ntmps208 [0] ?_;intro u R;refine A0<|Ze (Es Y (cs:=(q.GW c g m o n)) (GA q c g m o n))<|AG fun I=>A4 Y<|A0<|Zh 17 DP V rfl Kx Y<|Zl N3 Y ?_;refine Zv (Eo Sf Y Y)<|Zm Y<|Ae (t:=6) Y V (fun G=>?_) (fun G=>?_);·
  refine A7 Y rfl<|A7 Y rfl<|A7 Y rfl<|Zv (AV Y Y)<|A4 Y<|AJ<|AO rfl results208 Y (by exact ⟨by first|rfl|simp [G],rfl⟩)
 refine Yf 18 DP V rfl Kx Y<|Yl N3 Y ?_;refine Yg (Eo Sf Y Y)<|Zv (AL Y Y)<|A4 Y<|AJ<|AO rfl results208 Y (by exact ⟨by first|rfl|simp [G],rfl⟩)
theorem Td(q:QM)(c:Chg)(g m:B6)(o n:Int):BB prog 210 #[.agg (q.GW c g m o n)] [] (.bool (g.isSome !=m.isSome)):=by
 refine Se func210 ntmps210 [0] ?_;intro u R;refine A0<|Ze (Es Y (cs:=(q.GW c g m o n)) (GA q c g m o n))<|AG fun G=>A4 Y<|A0<|Zh 17 DP V rfl Kx Y<|Zl N3 Y ?_;refine Zv (Nw Sf Y Y)<|Zh 18 DP V rfl Kx Y<|Zl N3 Y ?_;refine Zv (Nw Sf Y Y)<|Zv (Kv LS Y Y)<|A4 Y<|AJ<|AO V results210 Y (by exact ⟨by cases g<;>cases m<;>rfl,V⟩)
theorem yL(q:QM)(c:Chg)(g m:B6)(o n:Int):BB prog 212 #[.agg (q.GW c g m o n)] [] (.bool (decide (o≠n))):=by
 refine Se func212 ntmps212 [0] ?_;intro u R;refine A0<|Ze (Es Y (cs:=(q.GW c g m o n)) (GA q c g m o n))<|AG fun G=>A4 Y<|A0<|Zh 19 DP rfl rfl A6 Y<|Zl AF Y<|Zh 20 DP rfl rfl A6 Y<|Zl AF Y<|Zv (LZ Y Y)<|A4 Y<|AJ<|AO rfl results212 Y (by exact ⟨by first|rfl|simp,rfl⟩)
theorem yK(q:QM)(c:Chg)(g m:B6)(o n:Int):BB prog 214 #[.agg (q.GW c g m o n)] [] (.bool ((g.isSome !=m.isSome)||decide (o≠n))):=by
 refine Se func214 ntmps214 [0] ?_;intro u R;refine A0<|Ze (Es Y (cs:=(q.GW c g m o n)) (GA q c g m o n))<|AG fun I=>A4 Y<|A0<|Zo Wh (AA cG Z2 Y B1 (BK V)) ?_;refine Xr [_] Y call210 Y V (Td q c g m o n) ?_;refine Zm Y<|Ae (t:=5) Y V (fun G=>?_) (fun G=>?_);·
  refine A7 Y V<|A7 Y V<|A7 Y V<|A7 Y V<|A7 Y V<|Zv (AV Y Y)<|A4 Y<|AJ<|AO V results214 Y (by exact ⟨by simp [G],V⟩)
 refine Yf 19 DP V rfl A6 Y<|Yl AF Y ?_;refine Yf 20 DP V rfl A6 Y<|Yl AF Y ?_;refine Yg (LZ Y Y)<|Zv (AL Y Y)<|A4 Y<|AJ<|AO V results214 Y (by exact ⟨by simp [G],V⟩)
theorem yJ(q:QM)(c:Chg)(g m:B6)(o n:Int):BB prog 217 #[.agg (q.GW c g m o n)] [] (.bool ((g.isSome !=m.isSome)||decide (o≠n))):=by
 refine Se func217 ntmps217 [0] ?_;intro u R;refine A0<|Ze (Es Y (cs:=(q.GW c g m o n)) (GA q c g m o n))<|AG fun I=>A4 Y<|A0<|Zo Wh (AA cG Z2 Y B1 (BK V)) ?_;refine Xr [_] Y call210 Y V (Td q c g m o n) ?_;refine Zm Y<|Ae (t:=5) Y V (fun G=>?_) (fun G=>?_);·
  refine A7 Y V<|A7 Y V<|A7 Y V<|A7 Y V<|A7 Y V<|Zv (AV Y Y)<|A4 Y<|AJ<|AO V results217 Y (by exact ⟨by simp [G],V⟩)
 refine Yf 19 DP V rfl A6 Y<|Yl AF Y ?_;refine Yf 20 DP V rfl A6 Y<|Yl AF Y ?_;refine Yg (LZ Y Y)<|Zv (AL Y Y)<|A4 Y<|AJ<|AO V results217 Y (by exact ⟨by simp [G],V⟩)
theorem yI(q:QM)(c:Chg)(g m:B6)(o n:Int):BB prog 219 #[.agg (q.GW c g m o n)] [] (.bool ((g.isSome||m.isSome)||decide (c.t=q.ot))):=by
 refine Se func219 ntmps219 [0] ?_;intro u R;refine A0<|Ze (Es Y (cs:=(q.GW c g m o n)) (GA q c g m o n))<|AG fun I=>A4 Y<|A0<|Zo Wh (AA cG Z2 Y B1 (BK V))<|Xr [_] Y call208 Y V (dC q c g m o n)<|Zm Y<|Ae (t:=5) Y V (fun G=>?_) (fun G=>?_);·
  refine A7 Y V<|A7 Y V<|A7 Y V<|A7 Y V<|A7 Y V<|A7 Y V<|A7 Y V<|Zv (AV Y Y)<|AN Y<|Zn [2] ?_;refine Zx<|AJ<|AO V results219 Y (by exact ⟨by simp [G],V⟩)
 refine Yf 7 DP V rfl C7 Y<|Yg (Ar (off:=0) C0 V rfl A6 Y)<|Yl AF Y<|Yf 0 DP V rfl CN Y<|Yg (Ar (off:=6) CT V rfl A6 Y)<|Yl AF Y<|Yg (CK Y Y)<|Zv (AL Y Y)<|AN Y<|Zn [2] ?_;refine Zx<|AJ<|AO V results219 Y (by exact ⟨by simp [G],V⟩)
end Go.Proofs.YtfhjaegddfehhabGreatDoor
