/- The pool made; Put where there is room. -/
import Derived.Test.YtlkdhannldcfbabGreatDoorMm2
set_option linter.unusedVariables false
set_option linter.unusedSimpArgs false
namespace Go.Proofs.YtlkdhannldcfbabGreatDoor
open Go.Proofs.Tryz
open Go Go.RowKit Gw
set_option maxRecDepth 100000
attribute [local irreducible] Gw.At Gw.Nx Gw.Ops
variable{r:Nat}
theorem gV{nx bf nx' bf':Nat->A2}{l:List Nat}(h:Jg nx bf r l)(B:∀a∈r::l,nx' a=nx a)(h2:∀a∈r::l,bf' a=bf a):Jg nx' bf' r l:=fun q m=>by
 have e1:q.1∈r::l:=by rw [<-JN r l r];exact Fk m
 have e2:q.2∈r::l:=by
  have g:q.2∈l++[r]:=by rw [<-KY r l r];exact Fk m
  rcases CD.1 g with g|g
  · exact GB _ g
  · rw [CH.1 g];exact Fo ..
 rw [B _ e1,h2 _ e2];exact h q m
def Bi.more(z:Bi)(e:Br):Bi:={z with E:=z.E++[e],nx:=DZ z.nx e.b (.pointer none),bf:=DZ z.bf e.b (.pointer none)}
theorem Bi.more_S(z:Bi)(e:Br)(g:e.b∉z.S.map (·.1)):z.S++[(e.b,.cells #[.string e.key,I4 e.te,I4 e.sz,.pointer none,.pointer none] 192 (0,0))]=(z.more e).S:=by
 rw [z.keys]at g;have B:z.r≠e.b:=fun h=>g (h▸Fo ..)
 unfold Bi.more Bi.S;simp only [En _ _ B,CN,Fc,Lk,SO];congr 2
 · refine cD fun x hx=>?_
   have m:x.b≠e.b:=fun h=>g (h▸GB _ (Fk hx));unfold Br.ch;simp only [En _ _ m]
 · unfold Br.ch
   simp only [IR]
variable{z:Bi}{ns mb ck:Nat}{es:Array MapEntry}{lm:List (CA×A2)}{su:List A8}
theorem aV{L:List Br}(h:Dk z ns L mb es ck lm su)(O:z.bl.Nodup)(e:Br)(G:e.b∉z.S.map (·.1)):∃p,p∈(z.more e).bl/\(z.more e).bf z.r=pV p/\e∈(z.more e).E/\
 Jg (DZ (DZ (z.more e).nx e.b (pV z.r)) p (pV e.b)) (DZ (DZ (z.more e).bf e.b (pV p)) z.r (pV e.b)) z.r ((L++[e]).map (·.b)):=by
 rw [z.keys]at G;have m:∀a∈z.r::L.map (·.b),a∈z.bl:=fun a g=>by
  rcases DS.1 g with rfl|g
  · exact Fo ..
  · obtain ⟨x,hx,rfl⟩:=CI.1 g
    exact GB _ (Fk (h.sub x hx))
 have B:∀a∈z.r::L.map (·.b),a≠e.b:=fun a g U=>G (U▸m a g);obtain ⟨p,I,h2,J⟩:=A30 (x:=e.b) (h.nodup O) (fun hx=>G (m _ hx)) (gV (nx':=(z.more e).nx) (bf':=(z.more e).bf) h.ring (fun a g=>En _ _ (B a g)) (fun a g=>En _ _ (B a g)));refine ⟨p,?_,h2,HK _ (CH.2 rfl),by rw [CN];exact J⟩;have K:=m p I
 unfold Bi.bl Bi.more at*;rcases DS.1 K with h5|h5
 · rw [h5];exact Fo ..
 · refine GB _ ?_
   show p∈(z.E++[e]).map (·.b);rw [CN];exact G1 _ h5
theorem ZO{l:List Int}{i:Nat}{x:Int}(h:l[i]?=some x):(l.take (i+1)).sum=(l.take i).sum+x:=by
 obtain ⟨hi,rfl⟩:=C7.1 h;rw [S1,BT hi,tP];simp
theorem PO:∀{l:List Int},(∀x∈l,0<=x)->∀i,0<=(l.take i).sum/\(l.take i).sum<=l.sum
 |[],_,i=>by simp
 |x::l,h,0=>by
  have:=PO (fun y hy=>h y (GB _ hy)) l.length;rw [HE]at this;have hx:=h x (Fo ..)
  simp only [JT,List.sum_nil,ln];omega
 |x::l,h,i+1=>by
  have:=PO (fun y hy=>h y (GB _ hy)) i;have hx:=h x (Fo ..)
  simp only [nc,ln];omega
theorem iF(r:Nat)(cap:Int)(hc:1<=cap/\cap<=1000000)(a:BE)(ns c mb g:Nat)(hn:ns<=maxLen):Dk ⟨r,[],fun _=>pV r,fun _=>pV r,cap,.slice a ns c,I6 g ns ns,.map (some mb),cap⟩ ns [] mb #[] 0 [] [(g,.cells (List.replicate ns (Value.int .i64 0)).toArray 3 (0,0))]:=by
 refine ⟨fun e h=>by simp at h,A28 V rfl,V,EU _,fun p=>by simp,oE,?_,fun e h=>by simp at h,fun e h=>by simp at h,?_,?_,⟨a,c,V⟩,hc⟩
 · rw [show(List.range ns).map (fun k:Nat=>Value.int .i64 (Fg [] (k:Int)))=List.replicate ns (Value.int .i64 0) from by
    rw [List.eq_replicate_iff];refine ⟨by simp,fun b m=>?_⟩;obtain ⟨k,_,rfl⟩:=CI.1 m;rfl]
   exact NI _ g _ ns B7 hn
 · show cap=cap -Lu []
   unfold Lu;simp
 · show 0<=cap
   omega
theorem Gc{v:A2}{xs:List Int}{s:List A8}(J:Row 3 v (xs.map (Value.int .i64)) s)(hn:xs.length<=1000000):BS prog 84 #[v] [s] (fun r H'=>∃g c s2,r= .slice g xs.length c/\Row 3 r (xs.map (Value.int .i64)) s2/\H'=[s2,s]):=by
 have Z:=mL;obtain ⟨W,cv,hv⟩:=J.form;rw [Bk]at hv;subst hv;refine Se func84 ntmps84 [0] ?_;intro u R;refine A3<|AH Y<|B8 Y<|Zv (De DP Y Y)<|A4<|AY Y (fun U=>?_) (fun U=>?_);·
  have K:W=none:=by cases W with
   |none=>rfl
   |some x=>cases U
  subst K;have h0:xs=[]:=by
   rcases J with⟨_,h,_⟩|⟨g,cap,cur,z,h,_⟩
   · simpa using h
   · cases h
  subst h0;refine Zq<|Bc<|Zg<|An Y<|Zt<|AO V results84 Y (by exact ⟨none,0,[],V,Gg _,V⟩)
 refine AC<|C6<|Ze (EE DP A6)<|AF fun X=>Zm Y<|Ze (L8 (by_:=8) DP (rfl:Tryz.prog.info? 3=some Tryz.t3) rfl rfl rfl rfl Y ((NI 3 X [] 0 rfl B0)) Y (J) Wo Wo (by exact fun u hu=>by obtain ⟨x,_,rfl⟩:=CI.1 hu;rfl) Kd Kd) ?_;rintro _ _ ⟨O,m,rfl⟩;rw [N4]at m;have B:=m
 obtain ⟨I,G,rfl⟩:=m.form;refine An Y<|AO V results84 Y (by exact ⟨I,G,O,by simp,B,V⟩)
theorem pF{v:A2}{sh:List Int}{U:List A8}(G:Row 3 v (sh.map (Value.int .i64)) U)(cap:Int)(hc:1<=cap/\cap<=1000000)(hl:1<=sh.length/\sh.length<=8)(h0:∀x∈sh,0<=x)(W:sh.sum<=cap):BS prog 33 #[I4 cap,v] [U] (fun r H'=>∃z mb su sc,r= .tuple #[.pointer (some ⟨z.r,0,none⟩),I4 0]/\(z.cap=cap/\VB sc z.sh sh)/\Dk z sh.length [] mb #[] 0 [] su/\H'=[z.S,[(mb,.map #[] 0)],su,sc,U]):=by
 have bn:=mL;obtain ⟨pv,cv,hv⟩:=G.form;rw [Bk]at hv;subst hv;refine Se func33 ntmps33 [0,1] ?_;intro u R;refine A3<|Za Y<|AH Y<|B8 Y<|Zv (Dy Y Y)<|Zm Y<|Af (t:=12) Y V (fun X=>by omega)<|fun X=>Zf Y Y<|Yg (F4 Y Y)<|B9 Y Y<|Zm Y<|Af (t:=16) Y V (fun Z=>by omega)<|fun Z=>Zf Y Y<|Yg (AR DP Y)<|Yg (Ap (n:=1) Y Y)<|B9 Y Y<|Zm Y<|Af (t:=21) Y V (fun g3=>by omega)<|fun g3=>Zf Y Y<|Yg (AR DP Y)<|Yg (DX (n:=8) Y Y)<|B9 Y Y<|Z0<|Zn [0,1,25] ?_;refine Zx<|Ak Y (fun g4=>by omega)<|fun g4=>B3<|AK Y<|AH Y<|B8 Y<|Zv (AR DP Y)<|Zm Y<|A4<|AQ<|Zb [6,29,0,1,27,28] ?_;refine Aw (e0:=[(6,_),(29,_)]) (fun m e H=>∃(i:Nat),m=sh.length -i/\(i<=sh.length)/\e=[(6,I4 (cap -(sh.take i).sum)),(29,I4 (i:Int))]/\H=[]) (by exact ⟨0,V,CM _,by simp,V⟩) Wp ?_;rintro _ _ _ ⟨i,rfl,hi,rfl,rfl⟩;refine A3<|Zv (Ap Y Y)<|A4<|Zq<|Ak Y (fun J=>?_) (fun J=>?_);·
  obtain ⟨n,hn⟩:∃n,sh[i]?=some n:=⟨_,BT J⟩;obtain ⟨bs,cs,cur,zs,O,rfl,ax,af,I,_⟩:=Y4 G (k:=i) (y0:=I4 n) (by rw [E6,hn];rfl);injection O with e1 e2 e3
  subst e1 e3;have cu:=h0 n (Ek hn)
  have cO:=PO h0 i;have K:=PO h0 (i+1)
  rw [ZO hn]at K;refine B3<|Zq<|AQ<|A3<|BX (Bd DP A6 Y Y A0)<|Zl AE Y (hv:=by exact I) ?_;refine AH Y<|B8 Y<|Zv (Dy Y Y)<|Zm Y<|Af (t:=35) Y V (fun g5=>by omega)<|fun g5=>Zf Y Y<|Zf Y Y<|Yg (F4 Y Y)<|B9 Y Y<|A4<|Ak Y (fun g6=>by omega)<|fun g6=>B3<|Zg<|Zm Y<|Zm Y ?_
  (refine BX (GZ Y Y (IntWalk.i64_in _ ?_)) ?_;(focus (omega)))
  refine B2 Y<|Zn [0,1,6,27,28,29] ?_;refine AA<|Zx<|Dg Y Y Y<|DG (e:=[(6,_),(29,_)]) (h:=by exact ⟨i+1,rfl,by omega,by rw [ZO hn,Int.sub_sub],rfl⟩)
 refine BA<|Zt<|Zt<|AX<|Zx<|Zb [0,1] ?_;refine CP (e0:=[(0,_),(1,_)]) (H0:=[]) (fun e H=>∃(r mb B:Nat) (gc:BE) (cc:Nat) (sc:List A8),(Row 3 (.slice gc sh.length cc) (sh.map (Value.int .i64)) sc)/\e=[(9,I5 r)]/\H=[[(r,.cells #[.string ⟨#[]⟩,I4 0,I4 0,.pointer none,.pointer none,I4 cap,.slice gc sh.length cc,I6 B sh.length sh.length,.map (some mb),I4 cap] 196 (0,0))],[(mb,.map #[] 0)],[(B,.cells (List.replicate sh.length (Value.int .i64 0)).toArray 3 (0,0))],sc]) Wp ?hx_3 ?hy_3
 case hx_3=>
  refine Ay (n:=11) (0::0::2::0::8::24::0::0::255::511::1023::[]) 612 AD AD V<|A1 0 V (AP Y)<|A1 1 V (AP Y)<|A1 3 V (AP Y)<|A1 4 V (AR DP Y)<|A1 7 V (AP Y)<|Zz (l:=[2,5,6])<|BW [] [] V rfl (Zw [_] Y call84 Y V (Gc G A0)) ?hk_4 Bv ?hl_4
  case' hk_4=>
   rintro _ _ ⟨_,⟨gc,cc,sc,rfl,g,rfl⟩,rfl⟩;refine C3<|Zz (l:=[5,6])<|BW [] [] V rfl (Gq (by_:=8) DP (V:Tryz.prog.info? 3=some Tryz.t3) V rfl V rfl Y Y ?_ ?_ ?_) ?hk_5 (fun _ _ h=>h.elim) ?hl_5
   (focus (omega))
   (focus (omega))
   (focus (omega))
   case' hk_5=>
    rintro _ _ ⟨B,rfl,rfl⟩;refine C3<|Yz 6 0 255 [] [] [] V Y V rfl V rfl (DV) ?_;rintro _ _ ⟨mb,rfl,rfl⟩
   case' hl_5=>
    refine BW [] [] V rfl (DV) ?hk_9 (fun _ _ h=>h.elim) ?hl_9
    case' hk_9=>
     rintro _ _ ⟨mb,rfl,rfl⟩;refine C3<|Yz 5 24 255 [] [] [] V Y V rfl V rfl (Gq (by_:=8) DP (V:Tryz.prog.info? 3=some Tryz.t3) V rfl V rfl Y Y ?_ ?_ ?_) ?_
     (focus (omega))
     (focus (omega))
     (focus (omega))
     rintro _ _ ⟨B,rfl,rfl⟩
    case' hl_9=>
     exact Aj
  case' hl_4=>
   refine BW [] [] V rfl (Gq (by_:=8) DP (V:Tryz.prog.info? 3=some Tryz.t3) V rfl V rfl Y Y ?_ ?_ ?_) ?hk_13 (fun _ _ h=>h.elim) ?hl_13
   (focus (omega))
   (focus (omega))
   (focus (omega))
   case' hk_13=>
    rintro _ _ ⟨B,rfl,rfl⟩;refine C3<|Zz (l:=[2,6])<|BW [] [] V rfl (Zw [_] Y call84 Y V (Gc G A0)) ?hk_14 Bv ?hl_14
    case' hk_14=>
     rintro _ _ ⟨_,⟨gc,cc,sc,rfl,g,rfl⟩,rfl⟩;refine C3<|Yz 6 0 255 [] [] [] V Y V rfl V rfl (DV) ?_;rintro _ _ ⟨mb,rfl,rfl⟩
    case' hl_14=>
     refine BW [] [] V rfl (DV) ?hk_18 (fun _ _ h=>h.elim) ?hl_18
     case' hk_18=>
      rintro _ _ ⟨mb,rfl,rfl⟩;refine C3<|Zz (l:=[2])<|BW [] [] V rfl (Zw [_] Y call84 Y V (Gc G A0)) ?hk_19 Bv ?hl_19
      case' hk_19=>
       rintro _ _ ⟨_,⟨gc,cc,sc,rfl,g,rfl⟩,rfl⟩
      case' hl_19=>
       exact Aj
     case' hl_18=>
      exact Aj
   case' hl_13=>
    refine BW [] [] V rfl (DV) ?hk_22 (fun _ _ h=>h.elim) ?hl_22
    case' hk_22=>
     rintro _ _ ⟨mb,rfl,rfl⟩;refine C3<|Zz (l:=[2,5])<|BW [] [] V rfl (Zw [_] Y call84 Y V (Gc G A0)) ?hk_23 Bv ?hl_23
     case' hk_23=>
      rintro _ _ ⟨_,⟨gc,cc,sc,rfl,g,rfl⟩,rfl⟩;refine C3<|Yz 5 24 255 [] [] [] V Y V rfl V rfl (Gq (by_:=8) DP (V:Tryz.prog.info? 3=some Tryz.t3) V rfl V rfl Y Y ?_ ?_ ?_) ?_
      (focus (omega))
      (focus (omega))
      (focus (omega))
      rintro _ _ ⟨B,rfl,rfl⟩
     case' hl_23=>
      refine BW [] [] V rfl (Gq (by_:=8) DP (V:Tryz.prog.info? 3=some Tryz.t3) V rfl V rfl Y Y ?_ ?_ ?_) ?hk_27 (fun _ _ h=>h.elim) ?hl_27
      (focus (omega))
      (focus (omega))
      (focus (omega))
      case' hk_27=>
       rintro _ _ ⟨B,rfl,rfl⟩;refine C3<|Zz (l:=[2])<|BW [] [] V rfl (Zw [_] Y call84 Y V (Gc G A0)) ?hk_28 Bv ?hl_28
       case' hk_28=>
        rintro _ _ ⟨_,⟨gc,cc,sc,rfl,g,rfl⟩,rfl⟩
       case' hl_28=>
        exact Aj
      case' hl_27=>
       exact Aj
    case' hl_22=>
     exact Aj
  all_goals
   refine C3<|A1 8 V (BN (vs:=[(1,I4 cap),(2,.slice gc sh.length cc),(3,I6 B sh.length sh.length),(4,.map (some mb)),(5,I4 cap)]) (cs:=#[.string ⟨#[]⟩,I4 0,I4 0,.pointer none,.pointer none,I4 cap,.slice gc sh.length cc,I6 B sh.length sh.length,.map (some mb),I4 cap]) Y (Aa (pl:=#[(0,5),(5,1),(6,1),(7,1),(8,1),(9,1)]) zeroValue196 Ln (fun _=>by kernel_rfl) AD))<|Yw 9 1023 V (Fu Y (cs:=#[.string ⟨#[]⟩,I4 0,I4 0,.pointer none,.pointer none,I4 cap,.slice gc sh.length cc,I6 B sh.length sh.length,.map (some mb),I4 cap]) AD)<|AF fun r=>A1 10 V (BC Y)<|Aq<|Hh (by exact ⟨r,mb,B,gc,cc,sc,g,V,V⟩)
 rintro _ _ ⟨r,mb,B,gc,cc,sc,g,rfl,rfl⟩;refine AK Y<|Zp Y V<|Zh 0 Ln V rfl sizeOf194 Y<|Zc [_] Y call85 Y V (kP r 196 (0,0) _ _ _ _ _ _ _ _ _ _) ?_;rintro _ _ ⟨_,⟨rfl,rfl⟩,rfl⟩;refine A4<|AK Y<|Za Y<|An Y<|DR V results33 Y Y (by exact ⟨⟨r,[],fun _=>pV r,fun _=>pV r,cap,.slice gc sh.length cc,I6 B sh.length sh.length,.map (some mb),cap⟩,mb,_,sc,V,⟨V,ou g⟩,iF r cap hc gc sh.length cc mb B A0,V⟩)
theorem vE{L:List Br}(B:Dk z ns L mb es ck lm su)(hd:z.bl.Nodup){k:Nat}(hk:k<ns){sz:Int}(l5:1<=sz)(l8:sz<=z.fr){K:CA}(hK:∀e∈L,e.key≠K):BS prog 36 #[.pointer (some ⟨z.r,0,none⟩),I4 (k:Int),.string K,I4 sz] [z.S,[(mb,.map es ck)],su] (fun v H'=>v= .tuple #[.slice none 0 0,.bool true]/\∃z' Z X o9 gq b,z'.r=z.r/\z'.cs=z.cs/\Dk z' ns (L++[⟨b,K,(k:Int),sz⟩]) mb Z X o9 gq/\H'=[z'.S,[(mb,.map Z X)],gq]):=by
 obtain ⟨sha,pz,l9⟩:=B.sh;have hg:=B.none hK
 refine DF func36 V ntmps36 V ?_;intro u R;refine Zb [0,1,2,3] ?_;refine A3<|Ze (Bx #[_])<|AF fun bp=>Za Y<|AH Y<|QB ?_;refine Zq<|A3<|Zl Ly Y<|Zv (Bb pD Y Y)<|Zm Y<|Ad (t:=20) Y V (fun gd=>by cases gd)<|fun gd=>Zf Y Y<|Yg (Ap (n:=0) Y Y)<|B9 Y Y<|Zm Y<|Af (t:=24) Y V (fun g2=>by omega)<|fun g2=>Zf Y Y<|Yl Ly Y<|Yg (Ao Y V)<|Yf 6 Ln V rfl fg Y<|Mf Y (HY Wo (z.root)) (BK eK Y (congrArg some l9)) V rfl ?_;refine Yg (AR DP Y)<|Yg (Ef Y Y)<|B9 Y Y<|Zm Y<|Af (t:=33) Y V (fun g3=>by omega)<|fun g3=>Zf Y Y<|Yg (Dy Y Y)<|B9 Y Y<|Z0<|Zn [1,2,3,4,36] ?_;refine Zx<|Ak Y (fun g4=>by omega)<|fun g4=>AC<|C6<|AH Y<|Zb [10,1,2,3,4] ?_;refine CP (e0:=[(10,_)]) (H0:=[z.S,[(mb,.map es ck)],su]) (fun e H=>∃(z1:Bi) (J:Array MapEntry) (I:Nat) (gm:List (CA×A2)) (W:List A8) (tv:A2),(((z1.r=z.r/\z1.cs=z.cs)/\sz<=z1.fr/\∀x∈L,x.key≠K)/\Dk z1 ns (L) mb J I gm W)/\e=[(10,tv)]/\H=[z1.S,[(mb,.map J I)],W]) Wp ?hx_1 ?hy_1
 case hx_1=>
  refine A3<|Zl Ly Y<|Zp Y rfl<|Zh 8 Ln rfl rfl kB Y<|Bu (HY Wo (z.root)) (BK isAgg189 Y (congrArg some B.mv)) rfl rfl<|Zm Y<|Zo Wh (EO (EI GW (D:=fun _=>True)) j1 pt B.map (fun _ _=>trivial) (trivial) (⟨by rw [hg];first|done|rfl,by rw [hg];first|done|rfl⟩) Y Y)<|Zm Y<|Zd Y rfl<|Zd Y rfl<|Za Y<|AH Y<|AK Y<|A4<|AY Y (fun g7=>by cases g7)<|fun g7=>AC<|HB (e:=[(10,_)]) (h:=by exact ⟨z,es,ck,lm,su,_,⟨⟨⟨V,V⟩,l8,hK⟩,B⟩,V,V⟩)
 rintro _ _ ⟨z1,J,I,gm,W,tv,⟨⟨⟨kv,cu⟩,ek,U⟩,g⟩,rfl,rfl⟩;rw [<-kv,<-cu];have pq:=g.use (k:Int)
 have pg:z1.fr<=1000000:=by have h1:=g.free;have h2:=g.cap;have h3:=OE g.sz 0;omega
 refine Ht (s:=z1.S) Wo (fun cO=>?_);rw [Bi.keys]at cO;refine A3<|CT Y<|QF<|Zx<|Zq<|AQ<|Zb [10,13,1,2,3,4] ?_;refine Aw (e0:=[(10,_),(13,_)]) (fun m e H=>m=0/\(True)/\e=[(10,tv),(13,.slice none 0 0)]/\H=[]) (by exact ⟨V,trivial,V,V⟩) Wp ?_;rintro _ _ _ ⟨rfl,_,rfl,rfl⟩;refine Zq<|A3<|Zl Ly Y<|Zp Y V<|Zh 9 Ln V rfl A6 Y<|Bu (HY Wo (z1.root)) (BK AE Y B1) V rfl<|Zm Y<|Zv (Dy Y Y)<|A4<|Ak Y (fun g5=>by omega)<|fun g5=>BA<|Zt<|Zt<|AX<|Zx<|Zq<|A3<|Zl Ly Y<|Zp Y V<|Zh 9 Ln V rfl A6 Y<|Bu (HY Wo (z1.root)) (BK AE Y B1) V rfl<|Zm Y<|Zv (Dy Y Y)<|A4<|Ak Y (fun g6=>by omega)<|fun g6=>B3<|AK Y<|Zm Y<|Zm Y<|Zv (BN (vs:=[(0,_),(1,_),(2,_)]) (cs:=#[_,_,_,_,_]) Y (Aa (pl:=#[(0,1),(1,1),(2,1),(3,1),(4,1)]) zeroValue192 Lq (fun _=>by kernel_rfl) V))<|Ze (Fu Y (cs:=#[.string K,I4 (k:Int),I4 sz,.pointer none,.pointer none]) AD)<|AF fun bn=>B2 Y<|Zn [2,4,13,17] ?_;refine Zx<|Zq<|yf (b:=bn) (s:=z1.S) Wo Wo (fun ax=>?_);refine Cc (s1:=z1.S) (s2:=[(bn,_)]) Wo Wo ?_;rw [show z1.S++[(bn,Obj.cells #[.string K,I4 (k:Int),I4 sz,.pointer none,.pointer none] 192 (0,0))]=(z1.more (⟨bn,K,(k:Int),sz⟩:Br)).S from Bi.more_S z1 (⟨bn,K,(k:Int),sz⟩:Br) ax];refine Ht (s:=(z1.more (⟨bn,K,(k:Int),sz⟩:Br)).S) Wo (fun O=>?_);rw [Bi.keys]at O;obtain ⟨p2,j3,af,d9,G⟩:=aV g cO (⟨bn,K,(k:Int),sz⟩:Br) ax;refine Zg<|Zm Y<|Zl Ly Y<|Zp Y V<|Zh 0 Ln V rfl sizeOf194 Y<|Zh 0 j0 V rfl kA Y<|Zc [_,_] Y call93 Y V (Rh (z1.more (⟨bn,K,(k:Int),sz⟩:Br)) O d9 j3 af) ?_;rintro _ _ ⟨_,⟨rfl,rfl⟩,rfl⟩
 refine A4<|A3<|Zl Ly Y<|Zp Y V<|Zh 8 Ln V rfl kB Y<|Bu (HY Wo ((Bi.root ({(z1.more (⟨bn,K,(k:Int),sz⟩:Br))with nx:=DZ (DZ (z1.more (⟨bn,K,(k:Int),sz⟩:Br)).nx (⟨bn,K,(k:Int),sz⟩:Br).b (pV (z1.more (⟨bn,K,(k:Int),sz⟩:Br)).r)) p2 (pV (⟨bn,K,(k:Int),sz⟩:Br).b),bf:=DZ (DZ (z1.more (⟨bn,K,(k:Int),sz⟩:Br)).bf (⟨bn,K,(k:Int),sz⟩:Br).b (pV p2)) (z1.more (⟨bn,K,(k:Int),sz⟩:Br)).r (pV (⟨bn,K,(k:Int),sz⟩:Br).b)}:Bi)))) (BK isAgg189 Y (congrArg some g.mv)) V rfl<|Zm Y<|Zm Y<|Ze (FK (EI GW (D:=fun _=>True)) j1 g.map (fun _ _=>trivial) (trivial) Y Y Y Wo) ?_;rintro _ _ ⟨rfl,gQ,gy,p8,ic,j5,rfl⟩;refine Z0<|Zn [4,13,17] ?_;refine C6<|Zl Ly Y<|Zm Y<|Zc [_,_,_] Y call94 Y rfl (Ol ({(z1.more (⟨bn,K,(k:Int),sz⟩:Br))with nx:=DZ (DZ (z1.more (⟨bn,K,(k:Int),sz⟩:Br)).nx (⟨bn,K,(k:Int),sz⟩:Br).b (pV (z1.more (⟨bn,K,(k:Int),sz⟩:Br)).r)) p2 (pV (⟨bn,K,(k:Int),sz⟩:Br).b),bf:=DZ (DZ (z1.more (⟨bn,K,(k:Int),sz⟩:Br)).bf (⟨bn,K,(k:Int),sz⟩:Br).b (pV p2)) (z1.more (⟨bn,K,(k:Int),sz⟩:Br)).r (pV (⟨bn,K,(k:Int),sz⟩:Br).b)}:Bi) O (e:=(⟨bn,K,(k:Int),sz⟩:Br)) d9 (.inl rfl) g.used (k:=k) rfl (x:=Fg (L) (k:Int)) (by rw [E6,Wr hk];rfl) A0 (by show 0<=sz/\sz<=_;omega) (by show _<=z1.fr/\z1.fr<=_;omega)) ?_;rintro _ _ ⟨_,⟨rfl,p9,o8,rfl⟩,rfl⟩;refine A4<|AK Y<|Za Y<|An Y<|H9 ?_;refine Ke V (ul results36 Y Y) (by exact ⟨V,({({(z1.more (⟨bn,K,(k:Int),sz⟩:Br))with nx:=DZ (DZ (z1.more (⟨bn,K,(k:Int),sz⟩:Br)).nx (⟨bn,K,(k:Int),sz⟩:Br).b (pV (z1.more (⟨bn,K,(k:Int),sz⟩:Br)).r)) p2 (pV (⟨bn,K,(k:Int),sz⟩:Br).b),bf:=DZ (DZ (z1.more (⟨bn,K,(k:Int),sz⟩:Br)).bf (⟨bn,K,(k:Int),sz⟩:Br).b (pV p2)) (z1.more (⟨bn,K,(k:Int),sz⟩:Br)).r (pV (⟨bn,K,(k:Int),sz⟩:Br).b)}:Bi)with fr:=z1.fr -1*sz}:Bi),gQ,gy,p8,p9,bn,V,V,Tw g G U ic j5 V hk ⟨l5,ek⟩ o8,V⟩)
theorem vD{L1 L2:List Br}{y:Br}(B:Dk z ns (L1++y::L2) mb es ck lm su)(hd:z.bl.Nodup){k:Nat}(hk:k<ns){sz:Int}(p8:1<=sz)(ql:sz<=z.fr+y.sz):BS prog 36 #[.pointer (some ⟨z.r,0,none⟩),I4 (k:Int),.string y.key,I4 sz] [z.S,[(mb,.map es ck)],su] (fun v H'=>v= .tuple #[.slice none 0 0,.bool true]/\∃z' ax af pq ic b,z'.r=z.r/\z'.cs=z.cs/\Dk z' ns (L1++L2++[⟨b,y.key,(k:Int),sz⟩]) mb ax af pq ic/\H'=[z'.S,[(mb,.map ax af)],ic]):=by
 obtain ⟨sha,qw,p9⟩:=B.sh;have hg:=B.get (e:=y) B7
 have l5:∀x∈L1++L2,x.key≠y.key:=fun x hx=>by
  have Z:=B.keys;rw [CN,Fc,HX,LI]at Z;rcases CD.1 hx with hx|hx
  · exact Z.2.2 _ (Fk hx) _ (Fo ..)
  · exact fun hh=>Z.2.1.1 (hh▸Fk hx)
 refine DF func36 V ntmps36 V ?_;intro u R;refine Zb [0,1,2,3] ?_;refine A3<|Ze (Bx #[_])<|AF fun bp=>Za Y<|AH Y<|QB ?_;refine Zq<|A3<|Zl Ly Y<|Zv (Bb pD Y Y)<|Zm Y<|Ad (t:=20) Y V (fun gd=>by cases gd)<|fun gd=>Zf Y Y<|Yg (Ap (n:=0) Y Y)<|B9 Y Y<|Zm Y<|Af (t:=24) Y V (fun g2=>by omega)<|fun g2=>Zf Y Y<|Yl Ly Y<|Yg (Ao Y V)<|Yf 6 Ln V rfl fg Y<|Mf Y (HY Wo (z.root)) (BK eK Y (congrArg some p9)) V rfl ?_;refine Yg (AR DP Y)<|Yg (Ef Y Y)<|B9 Y Y<|Zm Y<|Af (t:=33) Y V (fun g3=>by omega)<|fun g3=>Zf Y Y<|Yg (Dy Y Y)<|B9 Y Y<|Z0<|Zn [1,2,3,4,36] ?_;refine Zx<|Ak Y (fun g4=>by omega)<|fun g4=>AC<|C6<|AH Y<|Zb [10,1,2,3,4] ?_;refine CP (e0:=[(10,_)]) (H0:=[z.S,[(mb,.map es ck)],su]) (fun e H=>∃(z1:Bi) (I:Array MapEntry) (G:Nat) (O:List (CA×A2)) (J:List A8) (tv:A2),(((z1.r=z.r/\z1.cs=z.cs)/\sz<=z1.fr/\∀x∈L1++L2,x.key≠y.key)/\Dk z1 ns (L1++L2) mb I G O J)/\e=[(10,tv)]/\H=[z1.S,[(mb,.map I G)],J]) Wp ?hx_1 ?hy_1
 case hx_1=>
  refine A3<|Zl Ly Y<|Zp Y rfl<|Zh 8 Ln rfl rfl kB Y<|Bu (HY Wo (z.root)) (BK isAgg189 Y (congrArg some B.mv)) rfl rfl<|Zm Y<|Zo Wh (EO (EI GW (D:=fun _=>True)) j1 pt B.map (fun _ _=>trivial) (trivial) (⟨by rw [hg];first|done|rfl,by rw [hg];first|done|rfl⟩) Y Y)<|Zm Y<|Zd Y rfl<|Zd Y rfl<|Za Y<|AH Y<|AK Y<|A4<|AY Y (fun g7=>?_) (fun g7=>?_);·
   refine A3<|Zl Ly Y<|Zm Y<|Zc [_,_] Y call89 Y V (Vy B hd) ?_;rintro _ _ ⟨_,⟨rfl,z9,I,G,O,J,o9,d9,qj,U,rfl⟩,rfl⟩;refine Z0<|Zn [1,2,3,4,10,11] ?_;refine Zx<|Bc<|Zg<|Zm Y<|Zm Y<|Ze (Ah (vs:=[_]) (cs:=[_]) underlying206 LL pt Y V rfl V rfl V)<|AF fun b2=>Ze (F8 (by_:=8) (news:=[_]) underlying206 (V:Tryz.prog.info? 190=some Tryz.t190) V rfl V rfl Y (Gg 190) Y Wo Wh B1 V HO B0 B0 B0) ?_;rintro _ _ ⟨qx,gQ,rfl⟩;obtain ⟨qh,qb,rfl⟩:=gQ.form;refine B2 Y<|HB (e:=[(10,_)]) (h:=by exact ⟨z9,I,G,O,J,_,⟨⟨⟨o9,d9⟩,by have h1:=B.free;have h2:=U.free;have h3:z9.cap=z.cap:=congrArg Prod.fst d9;rw [M6]at h1 h2;rw [KO]at h1;omega,fun x hx=>l5 x hx⟩,U⟩,rfl,rfl⟩)
  cases g7
 rintro _ _ ⟨z1,I,G,O,J,tv,⟨⟨⟨o8,ek⟩,gy,X⟩,g⟩,rfl,rfl⟩;rw [<-o8,<-ek];have qo:=g.use (k:Int)
 have qa:z1.fr<=1000000:=by have h1:=g.free;have h2:=g.cap;have h3:=OE g.sz 0;omega
 refine Ht (s:=z1.S) Wo (fun gm=>?_);rw [Bi.keys]at gm;refine A3<|CT Y<|QF<|Zx<|Zq<|AQ<|Zb [10,13,1,2,3,4] ?_;refine Aw (e0:=[(10,_),(13,_)]) (fun m e H=>m=0/\(True)/\e=[(10,tv),(13,.slice none 0 0)]/\H=[]) (by exact ⟨V,trivial,V,V⟩) Wp ?_;rintro _ _ _ ⟨rfl,_,rfl,rfl⟩;refine Zq<|A3<|Zl Ly Y<|Zp Y V<|Zh 9 Ln V rfl A6 Y<|Bu (HY Wo (z1.root)) (BK AE Y B1) V rfl<|Zm Y<|Zv (Dy Y Y)<|A4<|Ak Y (fun g5=>by omega)<|fun g5=>BA<|Zt<|Zt<|AX<|Zx<|Zq<|A3<|Zl Ly Y<|Zp Y V<|Zh 9 Ln V rfl A6 Y<|Bu (HY Wo (z1.root)) (BK AE Y B1) V rfl<|Zm Y<|Zv (Dy Y Y)<|A4<|Ak Y (fun g6=>by omega)<|fun g6=>B3<|AK Y<|Zm Y<|Zm Y<|Zv (BN (vs:=[(0,_),(1,_),(2,_)]) (cs:=#[_,_,_,_,_]) Y (Aa (pl:=#[(0,1),(1,1),(2,1),(3,1),(4,1)]) zeroValue192 Lq (fun _=>by kernel_rfl) V))<|Ze (Fu Y (cs:=#[.string y.key,I4 (k:Int),I4 sz,.pointer none,.pointer none]) AD)<|AF fun bn=>B2 Y<|Zn [2,4,13,17] ?_;refine Zx<|Zq<|yf (b:=bn) (s:=z1.S) Wo Wo (fun cO=>?_);refine Cc (s1:=z1.S) (s2:=[(bn,_)]) Wo Wo ?_;rw [show z1.S++[(bn,Obj.cells #[.string y.key,I4 (k:Int),I4 sz,.pointer none,.pointer none] 192 (0,0))]=(z1.more (⟨bn,y.key,(k:Int),sz⟩:Br)).S from Bi.more_S z1 (⟨bn,y.key,(k:Int),sz⟩:Br) cO];refine Ht (s:=(z1.more (⟨bn,y.key,(k:Int),sz⟩:Br)).S) Wo (fun W=>?_);rw [Bi.keys]at W;obtain ⟨p2,l8,cu,gq,K⟩:=aV g gm (⟨bn,y.key,(k:Int),sz⟩:Br) cO;refine Zg<|Zm Y<|Zl Ly Y<|Zp Y V<|Zh 0 Ln V rfl sizeOf194 Y<|Zh 0 j0 V rfl kA Y<|Zc [_,_] Y call93 Y V (Rh (z1.more (⟨bn,y.key,(k:Int),sz⟩:Br)) W gq l8 cu) ?_;rintro _ _ ⟨_,⟨rfl,rfl⟩,rfl⟩
 refine A4<|A3<|Zl Ly Y<|Zp Y V<|Zh 8 Ln V rfl kB Y<|Bu (HY Wo ((Bi.root ({(z1.more (⟨bn,y.key,(k:Int),sz⟩:Br))with nx:=DZ (DZ (z1.more (⟨bn,y.key,(k:Int),sz⟩:Br)).nx (⟨bn,y.key,(k:Int),sz⟩:Br).b (pV (z1.more (⟨bn,y.key,(k:Int),sz⟩:Br)).r)) p2 (pV (⟨bn,y.key,(k:Int),sz⟩:Br).b),bf:=DZ (DZ (z1.more (⟨bn,y.key,(k:Int),sz⟩:Br)).bf (⟨bn,y.key,(k:Int),sz⟩:Br).b (pV p2)) (z1.more (⟨bn,y.key,(k:Int),sz⟩:Br)).r (pV (⟨bn,y.key,(k:Int),sz⟩:Br).b)}:Bi)))) (BK isAgg189 Y (congrArg some g.mv)) V rfl<|Zm Y<|Zm Y<|Ze (FK (EI GW (D:=fun _=>True)) j1 g.map (fun _ _=>trivial) (trivial) Y Y Y Wo) ?_;rintro _ _ ⟨rfl,j5,j3,pz,kv,l9,rfl⟩;refine Z0<|Zn [4,13,17] ?_;refine C6<|Zl Ly Y<|Zm Y<|Zc [_,_,_] Y call94 Y rfl (Ol ({(z1.more (⟨bn,y.key,(k:Int),sz⟩:Br))with nx:=DZ (DZ (z1.more (⟨bn,y.key,(k:Int),sz⟩:Br)).nx (⟨bn,y.key,(k:Int),sz⟩:Br).b (pV (z1.more (⟨bn,y.key,(k:Int),sz⟩:Br)).r)) p2 (pV (⟨bn,y.key,(k:Int),sz⟩:Br).b),bf:=DZ (DZ (z1.more (⟨bn,y.key,(k:Int),sz⟩:Br)).bf (⟨bn,y.key,(k:Int),sz⟩:Br).b (pV p2)) (z1.more (⟨bn,y.key,(k:Int),sz⟩:Br)).r (pV (⟨bn,y.key,(k:Int),sz⟩:Br).b)}:Bi) W (e:=(⟨bn,y.key,(k:Int),sz⟩:Br)) gq (.inl rfl) g.used (k:=k) rfl (x:=Fg (L1++L2) (k:Int)) (by rw [E6,Wr hk];rfl) A0 (by show 0<=sz/\sz<=_;omega) (by show _<=z1.fr/\z1.fr<=_;omega)) ?_;rintro _ _ ⟨_,⟨rfl,q9,pg,rfl⟩,rfl⟩;refine A4<|AK Y<|Za Y<|An Y<|H9 ?_;refine Ke V (ul results36 Y Y) (by exact ⟨V,({({(z1.more (⟨bn,y.key,(k:Int),sz⟩:Br))with nx:=DZ (DZ (z1.more (⟨bn,y.key,(k:Int),sz⟩:Br)).nx (⟨bn,y.key,(k:Int),sz⟩:Br).b (pV (z1.more (⟨bn,y.key,(k:Int),sz⟩:Br)).r)) p2 (pV (⟨bn,y.key,(k:Int),sz⟩:Br).b),bf:=DZ (DZ (z1.more (⟨bn,y.key,(k:Int),sz⟩:Br)).bf (⟨bn,y.key,(k:Int),sz⟩:Br).b (pV p2)) (z1.more (⟨bn,y.key,(k:Int),sz⟩:Br)).r (pV (⟨bn,y.key,(k:Int),sz⟩:Br).b)}:Bi)with fr:=z1.fr -1*sz}:Bi),j5,j3,pz,q9,bn,V,V,Tw g K X kv l9 V hk ⟨p8,gy⟩ pg,V⟩)
structure ItM where
 b:Nat
 id:Int
 q:QM
 tn:Int
 base:Int
 rq:BE
 rc:Nat
 L:List RP
 res:C8
 wq:BE
 wc:Nat
 since:Int
abbrev ItM.BM7(c:ItM):Array Go.Value:=#[I4 c.q.kd,I4 c.q.tb,I4 c.q.cl,I4 c.q.lo,I4 c.q.hi,I4 c.q.bq,I4 c.q.ot,I4 c.tn,I4 c.base,.slice c.rq c.L.length c.rc,I4 c.id,.slice c.wq c.res.rows.length c.wc,I4 c.res.val,.bool c.res.fnd,I4 c.since]
def ItM.key(x:ItM):CA:=str (DI x.q)
def ItM.iq(x:ItM):Int×QM:=(x.id,x.q)
def ItM.obj(x:ItM):Obj:= .cells x.BM7 116 (0,0)
def ItM.ch(x:ItM):A8:=(x.b,x.obj)
def Dj(pos base:Int)(win:List BF):List BF:=win.drop (win.length -(pos -base).toNat)
structure ItM.ok(M MR:List A8)(pos:Int)(win:List BF)(x:ItM):Prop where
 q:BH x.q
 base:0<=x.base/\x.base<=10000
 tn:0<=x.tn/\x.tn<=1000000
 rp:FV M (.slice x.rq x.L.length x.rc) x.L
 rl:x.L.length<=1000000
 fit:∀y∈x.L,y.fits
 rw:Dp MR (.slice x.wq x.res.rows.length x.wc) x.res.rows
 reach:(pos -x.base).toNat<=win.length
 run:∃r0,EJ x.q x.L=some r0/\Fs x.q x.base 0 (r0,x.base) (Dj pos x.base win)=some (x.res,x.since)
variable{pos:Int}{x:ItM}
theorem ItM.ok.mono{M m MR g:List A8}{win:List BF}(h:x.ok M MR pos win)(B:∀c∈M,c∈m)(G:∀c∈MR,c∈g):x.ok m g pos win:=⟨h.q,h.base,h.tn,h.rp.mono B,h.rl,h.fit,h.rw.mono G,h.reach,h.run⟩
structure GV(its:List ItM)(next:Int)(esQ:Array MapEntry)(ckQ:Nat)(lmQ:List (Int×A2))(lv:A2)(ML:List A8)(esI:Array MapEntry)(ckI:Nat)(lmI:List (CA×A2))(esK:Array MapEntry)(ckK:Nat)(lmK:List (Int×A2))(SI:List A8):Prop where
 idx:Et (its.map ItM.iq) esQ ckQ lmQ
 ist:Xa (its.map ItM.iq) lv ML
 im:Co (fun k:CA=>Value.string k) esI ckI lmI
 imem:∀p,p∈lmI↔∃x∈its,p=(x.key,pV x.b)
 km:Co (fun n:Int=>Value.int .i64 n) esK ckK lmK
 kmem:∀p,p∈lmK↔∃x∈its,p=(x.id,.string x.key)
 keys:(its.map ItM.key).Nodup
 ids:∀x∈its,1<=x.id/\x.id<=next
 nx:0<=next/\next<=1000000000
 len:its.length<=500
 q:∀x∈its,BH x.q
 sub:∀x∈its,x.ch∈SI
variable{its:List ItM}{next:Int}{esQ esI esK:Array MapEntry}{ckQ ckI ckK:Nat}{lmQ lmK:List (Int×A2)}{lv:A2}{ML SI:List A8}{lmI:List (CA×A2)}
theorem GV.get(h:GV its next esQ ckQ lmQ lv ML esI ckI lmI esK ckK lmK SI)(hx:x∈its):EM x.key lmI=some (pV x.b):=D8 h.im.keys ((h.imem _).2 ⟨x,hx,rfl⟩)
theorem GV.none{its:List ItM}{next:Int}{esQ:Array MapEntry}{ckQ:Nat}{lmQ:List (Int×A2)}{lv:A2}{ML:List A8}{esI:Array MapEntry}{ckI:Nat}{lmI:List (CA×A2)}{esK:Array MapEntry}{ckK:Nat}{lmK:List (Int×A2)}{SI:List A8}(h:GV its next esQ ckQ lmQ lv ML esI ckI lmI esK ckK lmK SI){K:CA}(g:∀x∈its,x.key≠K):EM K lmI=none:=DY fun p m=>by
 obtain ⟨x,hx,rfl⟩:=(h.imem p).1 m;exact g x hx
theorem GV.len_eq(h:GV its next esQ ckQ lmQ lv ML esI ckI lmI esK ckK lmK SI):(lmI.map (·.1)).Perm (its.map ItM.key):=by
 refine (T7 h.im.keys h.keys).2 fun a=>?_;constructor
 · intro g
   obtain ⟨p,m,rfl⟩:=CI.1 g;obtain ⟨x,hx,rfl⟩:=(h.imem p).1 m;exact Fk hx
 · intro g
   obtain ⟨x,hx,rfl⟩:=CI.1 g;exact CI.2 ⟨_,(h.imem _).2 ⟨x,hx,V⟩,V⟩
theorem YO(g:(its.map ItM.key).Nodup)(hi:((its.map ItM.iq).map (·.1)).Nodup){y:ItM}(hx:x∈its)(hy:y∈its):y.key≠x.key↔y.id≠x.id:=by
 rw [Mn]at hi;constructor;· intro h e;exact h (by rw [Ha hi hx hy e.symm])
 · intro h e;exact h (by rw [Ha g hx hy e.symm])
theorem wF(h:GV its next esQ ckQ lmQ lv ML esI ckI lmI esK ckK lmK SI)(hx:x∈its)
 {W:Array MapEntry}{K:Nat}{X:List (Int×A2)}(hq:Et ((its.map ItM.iq).filter fun y=>y.1≠x.id) W K X){O:Array MapEntry}{I:Nat}{m:List (CA×A2)}(hm:Co (fun k:CA=>Value.string k) O I m)(hp:∀p,p∈m↔p∈lmI/\p.1≠x.key)
 {U:Array MapEntry}{J:Nat}{B:List (Int×A2)}(hk:Co (fun n:Int=>Value.int .i64 n) U J B)(Z:∀p,p∈B↔p∈lmK/\p.1≠x.id):GV (its.filter fun y=>y.key≠x.key) next W K X (.pointer none) [] O I m U J B SI:=by
 have g:=h.idx.ids;have e1:(its.filter fun y=>y.key≠x.key).map ItM.iq=(its.map ItM.iq).filter fun y=>y.1≠x.id:=by
  rw [List.filter_map];congr 1;refine l3 fun y hy=>?_;exact decide_eq_decide.2 (YO h.keys g hx hy)
 have G:∀y,y∈(its.filter fun y=>y.key≠x.key)↔y∈its/\y.key≠x.key:=fun y=>by rw [GF];simp
 refine ⟨by rw [e1];exact hq,.inl ⟨rfl,rfl⟩,hm,fun p=>?_,hk,fun p=>?_,h.keys.sublist (cC.map _),fun y hy=>h.ids y ((G y).1 hy).1,h.nx,SZ (Tl _ _) h.len,fun y hy=>h.q y ((G y).1 hy).1,fun y hy=>h.sub y ((G y).1 hy).1⟩
 · rw [hp,h.imem]
   constructor;· rintro ⟨⟨y,hy,rfl⟩,hn⟩;exact ⟨y,(G y).2 ⟨hy,hn⟩,rfl⟩
   · rintro ⟨y,hy,rfl⟩;exact ⟨⟨y,((G y).1 hy).1,rfl⟩,((G y).1 hy).2⟩
 · rw [Z,h.kmem]
   constructor;· rintro ⟨⟨y,hy,rfl⟩,hn⟩;exact ⟨y,(G y).2 ⟨hy,(YO h.keys g hx hy).2 hn⟩,rfl⟩
   · rintro ⟨y,hy,rfl⟩;exact ⟨⟨y,((G y).1 hy).1,rfl⟩,(YO h.keys g hx ((G y).1 hy).1).1 ((G y).1 hy).2⟩
theorem wG(h:GV its next esQ ckQ lmQ lv ML esI ckI lmI esK ckK lmK SI)(hx:∀y∈its,y.key≠x.key)(af:x.id=next+1)(hn:next<1000000000)(hl:its.length<500)(hv:BH x.q)
 {O:Array MapEntry}{I:Nat}{U:List (Int×A2)}(hq:Et (its.map ItM.iq++[(x.id,x.q)]) O I U){J:Array MapEntry}{B:Nat}{g:List (CA×A2)}(hm:Co (fun k:CA=>Value.string k) J B g)(hp:∀p,p∈g↔p=(x.key,pV x.b)\/(p∈lmI/\p.1≠x.key))
 {K:Array MapEntry}{G:Nat}{m:List (Int×A2)}(hk:Co (fun n:Int=>Value.int .i64 n) K G m)(W:∀p,p∈m↔p=(x.id,.string x.key)\/(p∈lmK/\p.1≠x.id)):GV (its++[x]) (next+1) O I U (.pointer none) [] J B g K G m (SI++[x.ch]):=by
 have ax:=h.nx;refine ⟨by rw [CN];exact hq,.inl ⟨rfl,rfl⟩,hm,fun p=>?_,hk,fun p=>?_,?_,fun y hy=>?_,by omega,by rw [C0];simp;omega,fun y hy=>?_,fun y hy=>?_⟩
 · rw [hp,h.imem]
   constructor
   · rintro (rfl|⟨⟨y,hy,rfl⟩,_⟩)
     · exact ⟨x,by simp,rfl⟩
     · exact ⟨y,G1 _ hy,rfl⟩
   · rintro ⟨y,hy,rfl⟩
     rcases CD.1 hy with hy|hy
     · exact .inr ⟨⟨y,hy,rfl⟩,hx y hy⟩
     · rw [CH.1 hy];exact .inl rfl
 · rw [W,h.kmem]
   constructor
   · rintro (rfl|⟨⟨y,hy,rfl⟩,_⟩)
     · exact ⟨x,by simp,rfl⟩
     · exact ⟨y,G1 _ hy,rfl⟩
   · rintro ⟨y,hy,rfl⟩
     rcases CD.1 hy with hy|hy
     · have:=h.ids y hy
       exact .inr ⟨⟨y,hy,V⟩,by show y.id≠x.id;omega⟩
     · rw [CH.1 hy];exact .inl rfl
 · rw [CN,HX]
   refine ⟨h.keys,by simp,fun a X b Z=>?_⟩;obtain ⟨y,hy,rfl⟩:=CI.1 X;obtain rfl:=CH.1 Z;exact hx y hy
 · rcases CD.1 hy with hy|hy
   · have:=h.ids y hy;omega
   · rw [CH.1 hy];omega
 · rcases CD.1 hy with hy|hy
   · exact h.q y hy
   · rw [CH.1 hy];exact hv
 · rcases CD.1 hy with hy|hy
   · exact G1 _ (h.sub y hy)
   · rw [CH.1 hy];simp
variable{mq:Nat}
theorem YS{B:Nat}{lm:List (Int×A2)}(G:Et (its.map ItM.iq) es ck lm)(hx:x∈its):BS prog 95 #[I5 B,I4 x.id] [[(B,.cells #[.map (some mq),lv] 200 (0,0))],[(mq,.map es ck)]]
 (fun r H'=>∃m g I,r= .bool true/\Et ((its.map ItM.iq).filter fun y=>y.1≠x.id) m g I/\H'=[[(B,.cells #[.map (some mq),.pointer none] 200 (0,0))],[(mq,.map m g)]]):=Xg G (x:=x.iq) (Fk hx)
theorem OJ{M:List A8}{p:BE}{cap a:Nat}{l:List BF}(h:Dx M (.slice p l.length cap) l)(U:a<=l.length):Dx M (.slice (Ej p a cap 2) (l.length -a) (cap -a)) (l.drop a):=by
 obtain ⟨X,B,e,⟨W,J⟩,I⟩:=h;injection e with e1 e2 e3
 subst e1 e3;refine ⟨_,_,by rw [Cp],⟨by rw [Cp];omega,by rw [Cp];omega⟩,fun i x hx=>?_⟩;rw [Pc]at hx;have hi:=(C7.1 hx).1
 obtain ⟨G,g,off,cur,T,zz,rfl,K,O,m⟩:=I (a+i) x hx;have hc:Ej (some ⟨g,off,none⟩) a cap 2=some ⟨g,off+a*2,none⟩:=by
  unfold Ej;rw [As A0,PB,Cb]
 rw [hc];exact ⟨G,g,_,cur,T,zz,rfl,K,by omega,by rw [show off+a*2+i*2=off+(a+i)*2 by omega];exact m⟩
theorem JZ(n:Int):Au prog 32 #[I4 n] [] (.bool (decide (0<=n/\n<=10000))):=by
 refine Se func32 ntmps32 [0] ?_;intro u R;refine A3<|AH Y<|AK Y<|Zv (Ga Y Y)<|Zm Y<|Af (t:=5) Y V (fun g=>?_) (fun g=>?_);focus
  refine Zf Y Y<|Yg (Md Y Y)<|Zv (AU Y Y) ?_
 rotate_left
 focus
  refine AG<|Zv (AJ Y Y) ?_
 all_goals
  refine An Y<|AO V results32 Y (by exact ⟨congrArg Value.bool (by simp [g]),V⟩)
variable{mk mi ip cp:Nat}
theorem Ov{wq:BE}{wn wc:Nat}(I:0<=pos/\pos<=10000)(base:Int)(G:0<=base/\base<=10000)(J:wn<=wc/\wn<=1000000):Au prog 56 #[I5 cp,I4 base] [[(cp,.cells #[I4 pos,.slice wq wn wc,I5 r,I5 ip,.map (some mi),.map (some mk),I4 next] 110 (0,0))]] (if(pos -base).toNat<=wn then .tuple #[.slice (Ej wq (wn -(pos -base).toNat) wc 2) (pos -base).toNat (wc -(wn -(pos -base).toNat)),.bool true]else .tuple #[.slice none 0 0,.bool false]):=by
 have B:=mL;obtain ⟨n,hn⟩:∃n:Nat,n=(pos -base).toNat:=⟨_,rfl⟩;have g:max (pos -base) 0=(n:Int):=by omega
 rw [<-hn];refine Se func56 ntmps56 [0,1] ?_;intro u R;refine A3<|Za Y<|AH Y<|AK Y<|Zp Y V<|Zh 0 Gk V rfl A6 Y<|Zl AE Y ?_;refine Zm Y ?_
 (refine BX (GZ Y Y (IntWalk.i64_in _ ?_)) ?_;(focus (omega)))
 refine Zv (Qs Y Y)<|CT Y<|Zq ?_;rw [g];refine Zg<|Zm Y<|Zm Y<|Zp Y V<|Zh 1 Gk V rfl Lz Y<|Zl W6 Y ?_;refine Zv (AR G2 Y)<|Zv (DX Y Y)<|Z0<|Zn [0,6,20] ?_;refine Zx<|Ak Y (fun m=>?_) (fun m=>?_);·
  refine A3<|Za Y<|An Y<|Zt<|DR rfl results56 Y Y (by exact ⟨by rw [As A0],rfl⟩)
 refine B3<|Zq<|Ay (n:=14) (0::1::3::7::0::16::48::112::240::0::1008::2047::4095::8191::[]) 0 AD AD V<|A1 0 V (AP Y)<|A1 1 V (Ao Y V)<|A1 2 V (AB (off:=1) Gk V rfl Lz Y)<|Bm 3 V W6 Y ?_;refine A1 4 V (AP Y)<|A1 5 V (Ao Y V)<|A1 6 V (AB (off:=1) Gk V rfl Lz Y)<|Bm 7 V W6 Y ?_;refine A1 8 V (AR G2 Y)<|A1 9 V (AP Y) ?_
 (refine F5 (D':=2047) 10 (CQ Y Y ?_ ?_) ?_;(focus (omega));(focus (omega)))
 refine A1 11 V (Bz G2 E0 Y Y A0)<|A1 12 V (BC Y)<|A1 13 V (BC Y)<|Aq<|Zn [4,5] ?_;refine Zx<|AL<|DR rfl results56 Y Y (by exact ⟨by rw [Ax A0,show wn -(wn -n)=n by omega],rfl⟩)
variable{wv:A2}
theorem XI(h:GV its next esQ ckQ lmQ lv ML esI ckI lmI esK ckK lmK SI)(hx:x∈its):BS prog 38 #[I5 cp,.string x.key] [[(cp,.cells #[I4 pos,wv,I5 r,I5 ip,.map (some mi),.map (some mk),I4 next] 110 (0,0))],[(ip,.cells #[.map (some mq),lv] 200 (0,0))],[(mq,.map esQ ckQ)],[(mi,.map esI ckI)],[(mk,.map esK ckK)],SI] (fun v H'=>v= .bool true/\∃J B ax G g Z I m af,GV (its.filter fun y=>y.key≠x.key) next J B ax (.pointer none) [] G g Z I m af SI/\H'=[[(cp,.cells #[I4 pos,wv,I5 r,I5 ip,.map (some mi),.map (some mk),I4 next] 110 (0,0))],[(ip,.cells #[.map (some mq),.pointer none] 200 (0,0))],[(mq,.map J B)],[(mi,.map G g)],[(mk,.map I m)],SI]):=by
 have hg:=h.get hx;have W:(x.b,Obj.cells x.BM7 116 (0,0))∈SI:=h.sub x hx
 have j5:x.iq∈its.map ItM.iq:=Fk hx;refine Se func38 ntmps38 [0,1] ?_;intro u R;refine A3<|AH Y<|AK Y<|Zp Y rfl<|Zh 4 Gk rfl rfl T5 Y<|Zl Sh Y<|Zm Y<|Zo Wh (EO (EI GW (D:=fun _=>True)) Ss cA h.im (fun _ _=>trivial) (trivial) (⟨by rw [hg];first|done|rfl,by rw [hg];first|done|rfl⟩) Y Y)<|Zm Y<|Zd Y rfl<|Zd Y rfl<|Za Y<|AH Y<|B8 Y<|Zv (Bo Y)<|Z0<|Zn [0,1,5,17] ?_;refine Zx<|AY Y (fun U=>by cases U)<|fun U=>B3<|Zq<|Ay (n:=9) (0::1::3::7::0::16::48::112::255::[]) 256 AD AD V<|A1 0 V (AP Y)<|A1 1 V (Ao Y V)<|A1 2 V (AB (off:=3) Gk V rfl sizeOf105 Y)<|Bm 3 V isAgg105 Y<|A1 4 V (AP Y)<|A1 5 V (Ao Y V)<|A1 6 V (AB (off:=10) LS V rfl A6 Y)<|Cn (D':=255) 7 V rfl V (FN Wo (W)) (BK AE Y B1) ?_;refine Zz (l:=[8])<|BW [false,false] [] V rfl (Zw [_,_] Y call95 Y V (YS h.idx hx)) ?_ Bv Aj;rintro _ _ ⟨_,⟨O,K,bn,rfl,X,rfl⟩,rfl⟩;refine C3<|Aq<|Zx<|Zq<|Ay (n:=9) (0::1::3::7::0::16::48::112::255::[]) 256 AD AD V<|A1 0 V (AP Y)<|A1 1 V (Ao Y V)<|A1 2 V (AB (off:=5) Gk V rfl sizeOf108 Y)<|Bm 3 V isAgg108 Y<|A1 4 V (AP Y)<|A1 5 V (Ao Y V)<|A1 6 V (AB (off:=10) LS V rfl A6 Y)<|Cn (D':=255) 7 V rfl V (FN Wo (W)) (BK AE Y B1) ?_;refine Yw 8 511 V (M4 (Cf D3 (D:=fun _=>True)) eo h.km (fun _ _=>trivial) (trivial) Y Y Wo) ?_;rintro _ _ ⟨rfl,d9,cu,ic,gm,gy,rfl⟩;refine Aq<|Zn [0,1] ?_;refine Zx<|AK Y<|Zp Y V<|Zh 4 Gk V rfl T5 Y<|Zl Sh Y<|Zm Y<|Ze (M4 (EI GW (D:=fun _=>True)) Ss h.im (fun _ _=>trivial) (trivial) Y Y Wo) ?_;rintro _ _ ⟨rfl,ek,cO,j3,gq,gQ,rfl⟩;refine A4<|A3<|An Y<|AO V results38 Y (by exact ⟨V,O,K,bn,ek,cO,j3,d9,cu,ic,wF h hx X gq gQ gm gy,V⟩)
theorem qZ(h:GV its next esQ ckQ lmQ lv ML esI ckI lmI esK ckK lmK SI){K:CA}(B:∀y∈its,y.key≠K):Au prog 38 #[I5 cp,.string K] [[(cp,.cells #[I4 pos,wv,I5 r,I5 ip,.map (some mi),.map (some mk),I4 next] 110 (0,0))],[(mi,.map esI ckI)]] (.bool false):=by
 have m:=h.none B;refine Se func38 ntmps38 [0,1] ?_;intro u R;refine A3<|AH Y<|AK Y<|Zp Y rfl<|Zh 4 Gk rfl rfl T5 Y<|Zl Sh Y<|Zm Y<|Zo Wh (EO (EI GW (D:=fun _=>True)) Ss cA h.im (fun _ _=>trivial) (trivial) (⟨by rw [m];first|done|rfl,by rw [m];first|done|rfl⟩) Y Y)<|Zm Y<|Zd Y rfl<|Zd Y rfl<|Za Y<|AH Y<|B8 Y<|Zv (Bo Y)<|Z0<|Zn [0,1,5,17] ?_;refine Zx<|AY Y (fun g=>?_) (fun g=>?_);·
  refine A3<|An Y<|Zt<|AO V results38 Y (by exact ⟨V,V⟩)
 cases g
theorem VK(h:GV its next esQ ckQ lmQ lv ML esI ckI lmI esK ckK lmK SI)(hx:∀y∈its,y.key≠x.key)(g:x.id=next+1)(hn:next<1000000000)(hl:its.length<500)(hv:BH x.q):BS prog 39 #[I5 cp,.string x.key,.pointer (some ⟨x.b,0,none⟩)] [[(cp,.cells #[I4 pos,wv,I5 r,I5 ip,.map (some mi),.map (some mk),I4 next] 110 (0,0))],[(ip,.cells #[.map (some mq),lv] 200 (0,0))],[(mq,.map esQ ckQ)],[(mi,.map esI ckI)],[(mk,.map esK ckK)],[(x.b,.cells #[I4 x.q.kd,I4 x.q.tb,I4 x.q.cl,I4 x.q.lo,I4 x.q.hi,I4 x.q.bq,I4 x.q.ot,I4 x.tn,I4 x.base,.slice x.rq x.L.length x.rc,I4 0,.slice x.wq x.res.rows.length x.wc,I4 x.res.val,.bool x.res.fnd,I4 x.since] 116 (0,0))],SI] (fun v H'=>v=undef/\∃K G ax I m Z J B af,GV (its++[x]) (next+1) K G ax (.pointer none) [] I m Z J B af (SI++[x.ch])/\H'=[[(cp,.cells #[I4 pos,wv,I5 r,I5 ip,.map (some mi),.map (some mk),I4 (next+1)] 110 (0,0))],[(ip,.cells #[.map (some mq),.pointer none] 200 (0,0))],[(mq,.map K G)],[(mi,.map I m)],[(mk,.map J B)],(SI++[x.ch])]):=by
 rw [<-g];have hg:=h.none hx
 have qj:=h.nx;have gQ:EM x.id lmK=none:=DY fun p hp=>by
  obtain ⟨y,hy,rfl⟩:=(h.kmem p).1 hp;have:=h.ids y hy
  show y.id≠x.id;omega
 have gy:∀y∈its.map ItM.iq,y.1≠x.id:=fun y hy=>by
  obtain ⟨z,hz,rfl⟩:=CI.1 hy;have:=h.ids z hz
  show z.id≠x.id;omega
 refine Se func39 ntmps39 [0,1,2] ?_;intro u R;refine AK Y<|Zp Y V<|Zh 6 Gk V rfl A6 Y<|Zl AE Y ?_;refine Yi Y Y<|Zp Y V<|Zh 6 Gk V rfl A6 Y<|Xe (Zs A6 Y Y V) ?_;refine A4<|Zq ?_;rw [<-g];refine Zg<|Zm Y<|Zm Y<|Zp Y V<|Zh 6 Gk V rfl A6 Y<|Zl AE Y ?_;refine Zp Y V<|Zh 10 LS V rfl A6 Y<|Xe (Zs A6 Y Y V) ?_;refine Z0<|Zn [0,1,2] ?_;refine Zx<|Zq<|Ay (n:=21) (0::1::3::7::0::0::32::96::224::0::512::1536::3584::0::0::8191::40959::114687::245759::507903::1048575::[]) 1474560 AD AD V<|A1 0 V (AP Y)<|A1 1 V (Ao Y V)<|A1 2 V (AB (off:=4) Gk V rfl T5 Y)<|Bm 3 V Sh Y ?_;refine A1 4 V (AP Y)<|A1 5 V (AP Y)<|A1 6 V (Ao Y V)<|A1 7 V (AB (off:=5) Gk V rfl sizeOf108 Y)<|Bm 8 V isAgg108 Y ?_;refine A1 9 V (AP Y)<|A1 10 V (Ao Y V)<|A1 11 V (AB (off:=10) LS V rfl A6 Y)<|Bm 12 V AE Y ?_;refine A1 13 rfl (AP Y)<|A1 14 rfl (AP Y)<|Zz (l:=[15])<|BW [false,false,false] [] rfl rfl (L6 (EI GW (D:=fun _=>True)) Ss cA h.im (fun _ _=>trivial) (trivial) (by rw [hg];first|done|rfl) Y Y Wo) ?_ (fun _ _ h=>h.elim) Aj;rintro _ _ ⟨qb,q9,ql,j3,qw,rfl,l5,ic,gm,o9,rfl⟩;refine C3<|A1 16 V (C9 Y V)<|Zz (l:=[17])<|BW [] [] V rfl (JB l5 ic gm Y Y Y Wo) ?_ (fun _ _ h=>h.elim) Aj;rintro _ _ ⟨rfl,d9,cu,pq,l8,p8,rfl⟩;refine C3<|Yw 18 524287 rfl (L6 (Cf D3 (D:=fun _=>True)) eo I2 h.km (fun _ _=>trivial) (trivial) (by rw [gQ];first|done|rfl) Y Y Wo) ?_;rintro _ _ ⟨qh,qa,qo,j5,qx,rfl,l9,kv,gq,p9,rfl⟩;refine A1 19 V (C9 Y V)<|Zz (l:=[20])<|BW [] [] V rfl (JB l9 kv gq Y Y Y Wo) ?_ (fun _ _ h=>h.elim) Aj;rintro _ _ ⟨rfl,ek,cO,pz,o8,pg,rfl⟩;refine C3<|Aq<|Zn [0,2] ?_;refine Zx<|Cc (s1:=SI) (s2:=[x.ch]) Wo Wo ?_;have W:(x.b,Obj.cells x.BM7 116 (0,0))∈SI++[x.ch]:=HK _ (CH.2 rfl)
 refine Ay (n:=14) (0::1::3::7::0::16::48::112::0::256::768::1792::3840::8191::[]) 8192 AD AD V<|A1 0 V (AP Y)<|A1 1 V (Ao Y V)<|A1 2 V (AB (off:=3) Gk V rfl sizeOf105 Y)<|Bm 3 V isAgg105 Y ?_;refine A1 4 V (AP Y)<|A1 5 V (Ao Y V)<|A1 6 V (AB (off:=10) LS V rfl A6 Y)<|Cn (D':=255) 7 V rfl V (FN Wo (W)) (BK AE Y B1) ?_;refine A1 8 V (AP Y)<|A1 9 V (Ao Y V)<|A1 10 V (AB (off:=0) LS V rfl I3 Y)<|A1 11 V (Ar (off:=0) HF V rfl D4 Y)<|Cn (D':=8191) 12 V rfl V (FN Wo (W)) (A9 (cs:=x.q.BM5) Fm D4 Y Wn (by exact (by apply J0.1;rfl))) ?_;refine Zz (l:=[13])<|BW [false,false,false] [] rfl rfl (Zw [_,_,_] Y call96 Y rfl (nD h.idx gy hv (by rw [Bk];exact hl))) ?_ Bv Aj;rintro _ _ ⟨_,⟨U,O,bn,rfl,X,rfl⟩,rfl⟩;refine C3<|Aq<|DC rfl results39 (by exact ⟨rfl,U,O,bn,d9,cu,pq,ek,cO,pz,by rw [g];exact wG h hx g hn hl hv X l8 (fun p=>by rw [p8,o9];exact PK _ _ _ _) o8 (fun p=>by rw [pg,p9];exact PK _ _ _ _),rfl⟩)
end Go.Proofs.YtlkdhannldcfbabGreatDoor
