/- A cache as one piece of memory. -/
/- Heads, changes, records, proofs compared. -/
/- logtree.Next, Follows. -/
/- proof.Same, Check. -/
/- The reference of layer 1: PutInt, Int, String. -/
/- The plain helpers of the laws of chapter 11. -/
/- The helpers of the laws of chapter 18. -/
/- What is built on a log, in plain words; the example of chapter 11. -/
/- A cache and a log, in plain words. -/
/- The example of chapter 18. -/
/- Sane. -/
/- The records that integers determine, as a function. -/
/- What the rows list and what the arguments read as, in chunks. -/
/- The law of the window, in plain words. -/
/- The law of the window. -/
/- CacheWindow as its card wants it. -/
/- The facts that a card wants, one by one. -/
import Derived.Test.YteaiajghbkenoaaGreatDoorEz
import Derived.Test.YteaiajghbkenoaaGreatDoorCa13
import Derived.Test.YteaiajghbkenoaaGreatDoorCo1
import Derived.Test.YteaiajghbkenoaaGreatDoorPy5
import Derived.Test.YteaiajghbkenoaaGreatDoorTr6
import Derived.Test.YteaiajghbkenoaaGreatDoorEx36
import Derived.Test.YteaiajghbkenoaaGreatDoorLg5
import Derived.Test.YteaiajghbkenoaaGreatDoorEx5
import Derived.Test.YteaiajghbkenoaaGreatDoorTr8
import Derived.Test.YteaiajghbkenoaaGreatDoorQe1
import Derived.ProofKit
import Derived.OpenShut
import Derived.ChangeOld
import Derived.Deep.Slices
import Derived.SliceStrings
import Derived.Lib.LaidTab
import Derived.Stop.LaidErr
import Derived.Test.YteaiajghbkenoaaGreatDoorRows
import Derived.JoinedOf
set_option linter.unusedVariables false
set_option linter.unusedSimpArgs false
namespace Go.Proofs.YteaiajghbkenoaaGreatDoor
open Go.Proofs.Tryz
open Go Go.RowKit Gw
set_option maxRecDepth 100000
attribute [local irreducible] Gw.At Gw.Nx Gw.Ops
theorem Dz{P:Program}{f:FuncId}{args:Array Value}{H H1:Hp}{Q Q1:Value->Hp->Prop}(h:BR P f args H Q)(R:List A8)(hf:H1.flatten.Perm (H.flatten++R))(hq:∀v H',Q v H'->∃H2,Q1 v H2/\H2.flatten.Perm (H'.flatten++R)):BR P f args H1 Q1:=fun u R1 w hs=>by
 have h1:Sat u (H++([R]++R1)) w:=hs.perm (by
  simp only [AA0,zL,zl,zV];rw [<-zM];exact hf.append_right _)
 refine (h u ([R]++R1) w h1).mono ?_;rintro e w' (⟨v,H',rfl,h2,h3⟩|⟨_,_,_,h,_⟩)
 · obtain ⟨H2,h4,h5⟩:=hq v H' h2
   refine .inl ⟨v,H2,V,h4,h3.perm ?_⟩;simp only [AA0,zL,zl,zV];rw [<-zM];exact h5.symm.append_right _
 · exact h.elim
theorem H9{P:Program}{f:FuncId}{args:Array Value}{H H1:Hp}{r:Value}(h:BJ P f args H r)(R:List A8)(hf:H1.flatten.Perm (H.flatten++R)):BJ P f args H1 r:=Dz h R hf (by
 rintro v H' ⟨rfl,rfl⟩;exact ⟨_,⟨V,V⟩,hf⟩)
def CZ.mem(c:CZ):List A8:=([(c.cp,.cells #[I4 c.pos,.slice c.wq c.win.length c.wc,.pointer (some ⟨c.z.r,0,none⟩),.pointer (some ⟨c.ip,0,none⟩),.map (some c.mi),.map (some c.mkb),I4 c.next] 120 (0,0))]:List A8)++((c.sW:List A8)++((c.z.S:List A8)++(([(c.mb,.map c.esP c.ckP)]:List A8)++((c.su:List A8)++(([(c.ip,.cells #[.map (some c.mq),c.lv] 186 (0,0))]:List A8)++(([(c.mq,.map c.esQ c.ckQ)]:List A8)++((c.ML:List A8)++(([(c.mi,.map c.esI c.ckI)]:List A8)++(([(c.mkb,.map c.esK c.ckK)]:List A8)++((c.SI:List A8)++((c.M:List A8)++((c.MR:List A8)))))))))))))
theorem Qg{c:CZ}(h:c.okb){B:Int}(hB:∀e∈c.PL,e.sz<=B):c.z.cap -(c.its.length:Int)*B<=c.z.fr:=by
 have h1:∀L:List Bn,(∀e∈L,e.sz<=B)->Kk L<=(L.length:Int)*B:=fun L=>by
  induction L with
  |nil=>intro _;simp [Kk]
  |cons e l ih=>
   intro hl;have h2:=ih fun x hx=>hl x (zW _ hx)
   have h3:=hl e (zX ..);have h4:Kk (e::l)=e.sz+Kk l:=by unfold Kk;rw [zx,AQ2]
   rw [h4,ze];push_cast;rw [Int.add_mul];omega
 have h2:(c.PL.map (·.key)).Perm (c.its.map ItM.key):=(AC0 h.pool.keys h.its.keys).2 h.pk;have h3:=h2.length_eq
 rw [zH,zH]at h3;have h4:=h1 c.PL hB
 rw [h3]at h4;have h5:=h.pool.free
 omega
def yP(c d:CZ)(q:QM)(tn base:Int)(L:List RP)(R:Bw×Int×Bool)(b:Bool):Prop:=
 (b=false/\d=c/\¬((c.pos -base).toNat<=c.win.length/\R.2.2=true))\/
 (b=true/\((c.pos -base).toNat<=c.win.length/\R.2.2=true)/\(∀e∈d.PL,e∈c.PL\/e.sz=1+(R.1.rows.length:Int))/\
   ((d=c/\∃x∈c.its,x.key=str (CV q)/\base<=x.base)\/
    ((∀x∈c.its,x.key=str (CV q)->x.base<base)/\∃y:ItM,d.its=(c.its.filter fun x=>x.key≠str (CV q))++[y]/\y.q=q/\y.base=base/\y.L=L/\y.res=R.1/\y.since=R.2.1/\((y.tn=tn/\∀x∈c.its,x.key≠str (CV q))\/∃x∈c.its,x.key=str (CV q)/\y.tn=x.tn))))
theorem yh(c:CZ):BJ Tryz.prog 29 #[.pointer (some ⟨c.cp,0,none⟩)] [c.mem] (I4 c.pos):=H9 (kC c) ((c.sW:List A8)++(c.z.S:List A8)++([(c.mb,.map c.esP c.ckP)]:List A8)++(c.su:List A8)++([(c.ip,.cells #[.map (some c.mq),c.lv] 186 (0,0))]:List A8)++([(c.mq,.map c.esQ c.ckQ)]:List A8)++(c.ML:List A8)++([(c.mi,.map c.esI c.ckI)]:List A8)++([(c.mkb,.map c.esK c.ckK)]:List A8)++(c.SI:List A8)++(c.M:List A8)++(c.MR:List A8)++[]) (Bv fun f hf=>by simp only [zL,zl,zV,CZ.mem,hf]<;>omega)
theorem xe{c:CZ}(h:c.okb){k:Nat}(hk:k<c.ns):BJ Tryz.prog 30 #[.pointer (some ⟨c.cp,0,none⟩),I4 (k:Int)] [c.mem] (I4 (FC c.PL (k:Int))):=H9 (dG h hk) ((c.sW:List A8)++([(c.ip,.cells #[.map (some c.mq),c.lv] 186 (0,0))]:List A8)++([(c.mq,.map c.esQ c.ckQ)]:List A8)++(c.ML:List A8)++([(c.mi,.map c.esI c.ckI)]:List A8)++([(c.mkb,.map c.esK c.ckK)]:List A8)++(c.SI:List A8)++(c.M:List A8)++(c.MR:List A8)++[]) (Bv fun f hf=>by simp only [zL,zl,zV,CZ.mem,hf]<;>omega)
theorem tY{c:CZ}(h:c.ok){K:ByteArray}(hK:∀y∈c.its,y.key≠K):BJ Tryz.prog 17 #[.pointer (some ⟨c.cp,0,none⟩),.string K] [c.mem] (.tuple #[.agg #[I4 0,I4 0,I4 0,I4 0,I4 0,I4 0,I4 0,.slice none 0 0,I4 0,.bool false,I4 0,I4 0,I4 0,.slice none 0 0,.slice none 0 0],.bool false]):=H9 (wU h hK) ((c.sW:List A8)++(c.z.S:List A8)++([(c.mb,.map c.esP c.ckP)]:List A8)++(c.su:List A8)++([(c.ip,.cells #[.map (some c.mq),c.lv] 186 (0,0))]:List A8)++([(c.mq,.map c.esQ c.ckQ)]:List A8)++(c.ML:List A8)++([(c.mkb,.map c.esK c.ckK)]:List A8)++(c.SI:List A8)++(c.M:List A8)++(c.MR:List A8)++[]) (Bv fun f hf=>by simp only [zL,zl,zV,CZ.mem,hf]<;>omega)
theorem jK{c:CZ}(h:c.ok){x:ItM}(hx:x∈c.its)(hb:c.pos<x.base):BJ Tryz.prog 17 #[.pointer (some ⟨c.cp,0,none⟩),.string x.key] [c.mem] (.tuple #[.agg #[I4 0,I4 0,I4 0,I4 0,I4 0,I4 0,I4 0,.slice none 0 0,I4 0,.bool false,I4 0,I4 0,I4 0,.slice none 0 0,.slice none 0 0],.bool false]):=H9 (om h hx hb) ((c.sW:List A8)++(c.z.S:List A8)++([(c.mb,.map c.esP c.ckP)]:List A8)++(c.su:List A8)++([(c.ip,.cells #[.map (some c.mq),c.lv] 186 (0,0))]:List A8)++([(c.mq,.map c.esQ c.ckQ)]:List A8)++(c.ML:List A8)++([(c.mkb,.map c.esK c.ckK)]:List A8)++(c.MR:List A8)++[]) (Bv fun f hf=>by simp only [zL,zl,zV,CZ.mem,hf]<;>omega)
theorem Qj{c:CZ}(h:c.ok){x:ItM}(hx:x∈c.its)(hb:x.base<=c.pos):BR Tryz.prog 17 #[.pointer (some ⟨c.cp,0,none⟩),.string x.key] [c.mem] (fun r H'=>∃(z:U1) (l:List BN) (s:List A8),z.a=⟨x.q,x.res,x.since,c.pos,x.base,x.L,l⟩/\l.map BN.pc=(Cv c.pos x.base c.win).map BN.pc/\z.ok s/\r= .tuple #[.agg #[I4 z.a.q.kd,I4 z.a.q.tb,I4 z.a.q.cl,I4 z.a.q.lo,I4 z.a.q.hi,I4 z.a.q.bq,I4 z.a.q.ot,.slice z.rp z.a.res.rows.length z.rc,I4 z.a.res.val,.bool z.a.res.fnd,I4 z.a.since,I4 z.a.until_,I4 z.a.base,.slice z.gp z.a.ranges.length z.gc,.slice z.cp z.a.recs.length z.cc],.bool true]/\H'=[c.mem,s]):=Dz (wV h hx hb) ((c.z.S:List A8)++([(c.mb,.map c.esP c.ckP)]:List A8)++(c.su:List A8)++([(c.ip,.cells #[.map (some c.mq),c.lv] 186 (0,0))]:List A8)++([(c.mq,.map c.esQ c.ckQ)]:List A8)++(c.ML:List A8)++([(c.mkb,.map c.esK c.ckK)]:List A8)++(c.MR:List A8)++[]) (Bv fun f hf=>by simp only [zL,zl,zV,CZ.mem,hf]<;>omega) (by
 rintro r H' ⟨z,l,s,h1,h2,h3,h4,rfl⟩;exact ⟨_,⟨z,l,s,h1,h2,h3,h4,V⟩,Bv fun f hf=>by simp only [zL,zl,zV,CZ.mem,hf]<;>omega⟩)
theorem xh{c:CZ}(h:c.okb):BR Tryz.prog 19 #[.pointer (some ⟨c.cp,0,none⟩)] [c.mem] (fun r H'=>∃(zs:List ByteArray) (s:List A8),zs.Perm (c.its.map ItM.key)/\(zs.Pairwise fun x y=>x.data.toList<=y.data.toList)/\Row 9 r (zs.map Value.string) s/\H'=[c.mem,s]):=Dz (NW h) ((c.sW:List A8)++(c.z.S:List A8)++([(c.mb,.map c.esP c.ckP)]:List A8)++(c.su:List A8)++([(c.ip,.cells #[.map (some c.mq),c.lv] 186 (0,0))]:List A8)++([(c.mq,.map c.esQ c.ckQ)]:List A8)++(c.ML:List A8)++([(c.mkb,.map c.esK c.ckK)]:List A8)++(c.SI:List A8)++(c.M:List A8)++(c.MR:List A8)++[]) (Bv fun f hf=>by simp only [zL,zl,zV,CZ.mem,hf]<;>omega) (by
 rintro r H' ⟨zs,s,h1,h2,h3,rfl⟩;exact ⟨_,⟨zs,s,h1,h2,h3,V⟩,Bv fun f hf=>by simp only [zL,zl,zV,CZ.mem,hf]<;>omega⟩)
theorem tX{c:CZ}(h:c.okb):BR Tryz.prog 24 #[.pointer (some ⟨c.cp,0,none⟩)] [c.mem] (fun r H'=>∃p cap s,r= .slice p c.win.length cap/\H'=[c.mem,s]):=Dz (Wj h) ((c.z.S:List A8)++([(c.mb,.map c.esP c.ckP)]:List A8)++(c.su:List A8)++([(c.ip,.cells #[.map (some c.mq),c.lv] 186 (0,0))]:List A8)++([(c.mq,.map c.esQ c.ckQ)]:List A8)++(c.ML:List A8)++([(c.mi,.map c.esI c.ckI)]:List A8)++([(c.mkb,.map c.esK c.ckK)]:List A8)++(c.SI:List A8)++(c.MR:List A8)++[]) (Bv fun f hf=>by simp only [zL,zl,zV,CZ.mem,hf]<;>omega) (by
 rintro r H' ⟨p,cap,s,h1,rfl⟩;exact ⟨_,⟨p,cap,s,h1,V⟩,Bv fun f hf=>by simp only [zL,zl,zV,CZ.mem,hf]<;>omega⟩)
theorem wM{c:CZ}(h:c.ok)(pos:Int)(hp:0<=pos/\pos<=10000):BR Tryz.prog 28 #[.pointer (some ⟨c.cp,0,none⟩),I4 pos] [c.mem] (fun r H'=>r=undef/\∃d:CZ,d.ok/\d.cp=c.cp/\(d.its=[]/\d.PL=[]/\d.win=[])/\d.pos=pos/\d.next=c.next/\d.ns=c.ns/\d.z.cap=c.z.cap/\H'=[d.mem]):=Dz (aM h pos hp) [] (Bv fun f hf=>by simp only [zL,zl,zV,CZ.mem,hf]<;>omega) (by
 rintro r H' ⟨h1,d,h2,h3,h4,h5,h6,h7,h8,rfl⟩;exact ⟨_,⟨h1,d,h2,h3,h4,h5,h6,h7,h8,V⟩,Bv fun f hf=>by simp only [zL,zl,zV,CZ.mem,hf]<;>omega⟩)
theorem xg{v:Value}{sh:List Int}{ss:List A8}(hS:Row 3 v (sh.map (Value.int .i64)) ss)(pos cap:Int)(hp:0<=pos/\pos<=10000)(hc:1<=cap/\cap<=1000000)(hl:1<=sh.length/\sh.length<=8)(h0:∀x∈sh,0<=x)(hsum:sh.sum<=cap):BR Tryz.prog 13 #[I4 pos,I4 cap,v] [ss] (fun r H'=>∃c:CZ,r= .tuple #[.pointer (some ⟨c.cp,0,none⟩),I4 0]/\c.ok/\(c.its=[]/\c.PL=[]/\c.win=[])/\c.pos=pos/\c.next=0/\c.ns=sh.length/\c.z.cap=cap/\H'=[c.mem,ss]):=Dz (kF hS pos cap hp hc hl h0 hsum) [] (Ap0) (by
 rintro r H' ⟨c,h1,h2,h3,h4,h5,h6,h7,rfl⟩;exact ⟨_,⟨c,h1,h2,h3,h4,h5,h6,h7,V⟩,Bv fun f hf=>by simp only [zL,zl,zV,CZ.mem,hf]<;>omega⟩)
theorem wO{c:CZ}(h:c.ok){p:Int}{qa:Option Addr}{cap:Nat}{cs:List Chg}{ME:List A8}(hC:Ct ME (.slice qa cs.length cap) cs)(hR:Eo p cs)(hp:p=c.pos+1):BR Tryz.prog 16 #[.pointer (some ⟨c.cp,0,none⟩),.agg #[I4 p,.slice qa cs.length cap]] [c.mem,ME] (fun r H'=>∃(d:CZ) (q2:Option Addr) (cap2:Nat) (zs:List ByteArray) (tv:Value) (s:List A8),r= .tuple #[tv,I4 0]/\Ho c d p cs q2 cap2 zs/\Row 9 tv (zs.map Value.string) s/\H'=[d.mem,ME,s]):=Dz (Yq h hC hR hp) [] (Bv fun f hf=>by simp only [zL,zl,zV,CZ.mem,hf]<;>omega) (by
 rintro r H' ⟨d,q2,cap2,zs,tv,s,sM,h1,h2,_,h3,rfl⟩;exact ⟨_,⟨d,q2,cap2,zs,tv,s,h1,h2,h3,V⟩,Bv fun f hf=>by simp only [zL,zl,zV,CZ.mem,hf]<;>omega⟩)
theorem Xy{c:CZ}(h:c.okb){p:Int}{qa:Option Addr}{cap:Nat}{cs:List Chg}{ME:List A8}(hC:Ct ME (.slice qa cs.length cap) cs)(hR:Eo p cs)(hp:p≠c.pos+1):BJ Tryz.prog 16 #[.pointer (some ⟨c.cp,0,none⟩),.agg #[I4 p,.slice qa cs.length cap]] [c.mem,ME] (.tuple #[.slice none 0 0,I4 180]):=H9 (Yr h hC hR hp) ((c.sW:List A8)++(c.z.S:List A8)++([(c.mb,.map c.esP c.ckP)]:List A8)++(c.su:List A8)++([(c.ip,.cells #[.map (some c.mq),c.lv] 186 (0,0))]:List A8)++([(c.mq,.map c.esQ c.ckQ)]:List A8)++(c.ML:List A8)++([(c.mi,.map c.esI c.ckI)]:List A8)++([(c.mkb,.map c.esK c.ckK)]:List A8)++(c.SI:List A8)++(c.M:List A8)++(c.MR:List A8)++[]) (Bv fun f hf=>by simp only [zL,zl,zV,CZ.mem,hf]<;>omega)
theorem yg{c:CZ}(h:c.ok){q:QM}(hq:BH q){k:Nat}(hk:k<c.ns)(hk6:k<=1000000)(base:Int)(hb:0<=base/\base<=10000){pg:Option Addr}{cg:Nat}{L:List RP}{ME:List A8}(hL:Fg ME (.slice pg L.length cg) L)(hLl:L.length<=1000000)(hfit:∀x∈L,x.fits){r0:Bw}(hr0:ED q L=some r0)(hnx:c.next<1000000000)(hlen:c.its.length<500)(hroom:(c.pos -base).toNat<=c.win.length->1+((Av q r0 base (Cv c.pos base c.win)).1.rows.length:Int)<=c.z.fr)(Tp:TypeId)(zp:Nat×Nat):BR Tryz.prog 14 #[.pointer (some ⟨c.cp,0,none⟩),.agg #[I4 q.kd,I4 q.tb,I4 q.cl,I4 q.lo,I4 q.hi,I4 q.bq,I4 q.ot,I4 (k:Int),I4 base,.slice pg L.length cg]] [c.mem,ME,[(1,.cells (Lib.pow10Tab.map fun z=>Value.int .u64 z).toArray Tp zp)]] (fun w H'=>∃(b:Bool) (d:CZ),w= .bool b/\d.ok/\c.like d/\(c.next<=d.next/\d.next<=c.next+1)/\yP c d q (k:Int) base L (Av q r0 base (Cv c.pos base c.win)) b/\H'=[d.mem,ME,[(1,.cells (Lib.pow10Tab.map fun z=>Value.int .u64 z).toArray Tp zp)]]):=by
 have hlike:c.like c:=⟨rfl,rfl,rfl,rfl,rfl⟩;by_cases hre:(c.pos -base).toNat<=c.win.length
 · cases hrun:(Av q r0 base (Cv c.pos base c.win)).2.2 with
   |false=>
    refine Dz (mR h hq hk hk6 base hb hL hLl hfit hr0 hre hrun Tp zp) ((c.z.S:List A8)++([(c.mb,.map c.esP c.ckP)]:List A8)++(c.su:List A8)++([(c.ip,.cells #[.map (some c.mq),c.lv] 186 (0,0))]:List A8)++([(c.mq,.map c.esQ c.ckQ)]:List A8)++(c.ML:List A8)++([(c.mi,.map c.esI c.ckI)]:List A8)++([(c.mkb,.map c.esK c.ckK)]:List A8)++(c.SI:List A8)++(c.MR:List A8)++[]) (Bv fun f hf=>by simp only [zL,zl,zV,CZ.mem,hf]<;>omega) ?_;rintro w H' ⟨rfl,rfl⟩;exact ⟨_,⟨false,c,rfl,h,hlike,⟨AM6 _,by omega⟩,.inl ⟨rfl,rfl,fun h9=>by rw [hrun]at h9;exact absurd h9.2 Ao9⟩,rfl⟩,Bv fun f hf=>by simp only [zL,zl,zV,CZ.mem,hf]<;>omega⟩
   |true=>
    by_cases hx:∃x∈c.its,x.key=str (CV q)
    · obtain ⟨x,hx,hxk⟩:=hx
      have hin:∀y∈c.its,y.key=str (CV q)->y=x:=fun y hy hyk=>G7 h.its.keys hy hx (hyk.trans hxk.symm);by_cases hxb:base<=x.base
      · refine Dz (mP h hq hk hk6 base hb hL hLl hfit hr0 hre hrun hx hxk hxb Tp zp) ((c.z.S:List A8)++([(c.mb,.map c.esP c.ckP)]:List A8)++(c.su:List A8)++([(c.ip,.cells #[.map (some c.mq),c.lv] 186 (0,0))]:List A8)++([(c.mq,.map c.esQ c.ckQ)]:List A8)++(c.ML:List A8)++([(c.mkb,.map c.esK c.ckK)]:List A8)++(c.MR:List A8)++[]) (Bv fun f hf=>by simp only [zL,zl,zV,CZ.mem,hf]<;>omega) ?_
        rintro w H' ⟨rfl,rfl⟩;exact ⟨_,⟨true,c,V,h,hlike,⟨AM6 _,by omega⟩,.inr ⟨V,⟨hre,hrun⟩,fun e he=> .inl he,.inl ⟨V,x,hx,hxk,hxb⟩⟩,V⟩,Bv fun f hf=>by simp only [zL,zl,zV,CZ.mem,hf]<;>omega⟩
      · refine Dz (iE h hq hk hk6 base hb hL hLl hfit hr0 hre hrun hnx hx hxk Ao7 (hroom hre) Tp zp) [] (Bv fun f hf=>by simp only [zL,zl,zV,CZ.mem,hf]<;>omega) ?_
        rintro w H' ⟨rfl,d,b,rq,wq,rc,wc,s,h1,h2,h3,_,h5,h6,rfl⟩;exact ⟨_,⟨true,d,rfl,h1,h2,⟨by omega,by omega⟩,.inr ⟨rfl,⟨hre,hrun⟩,h6,.inr ⟨fun y hy hyk=>by rw [hin y hy hyk];omega,_,h5,rfl,rfl,rfl,rfl,rfl,.inr ⟨x,hx,hxk,rfl⟩⟩⟩,rfl⟩,Bv fun f hf=>by simp only [zL,zl,zV,CZ.mem,hf]<;>omega⟩
    · have hno:∀y∈c.its,y.key≠str (CV q):=fun y hy hk9=>hx ⟨y,hy,hk9⟩
      refine Dz (mO h hq hk hk6 base hb hL hLl hfit hr0 hre hrun hnx hno hlen (hroom hre) Tp zp) [] (Bv fun f hf=>by simp only [zL,zl,zV,CZ.mem,hf]<;>omega) ?_;rintro w H' ⟨rfl,d,b,rq,wq,rc,wc,s,h1,h2,h3,_,h5,h6,rfl⟩;exact ⟨_,⟨true,d,rfl,h1,h2,⟨by omega,by omega⟩,.inr ⟨rfl,⟨hre,hrun⟩,h6,.inr ⟨fun y hy hyk=>absurd hyk (hno y hy),_,by rw [h5,YR hno],rfl,rfl,rfl,rfl,rfl,.inl ⟨rfl,hno⟩⟩⟩,rfl⟩,Bv fun f hf=>by simp only [zL,zl,zV,CZ.mem,hf]<;>omega⟩
 · refine Dz (sQ h hq hk hk6 base hb hL hLl hfit hr0 hre Tp zp) ((c.z.S:List A8)++([(c.mb,.map c.esP c.ckP)]:List A8)++(c.su:List A8)++([(c.ip,.cells #[.map (some c.mq),c.lv] 186 (0,0))]:List A8)++([(c.mq,.map c.esQ c.ckQ)]:List A8)++(c.ML:List A8)++([(c.mi,.map c.esI c.ckI)]:List A8)++([(c.mkb,.map c.esK c.ckK)]:List A8)++(c.SI:List A8)++(c.MR:List A8)++[]) (Bv fun f hf=>by simp only [zL,zl,zV,CZ.mem,hf]<;>omega) ?_
   rintro w H' ⟨rfl,rfl⟩;exact ⟨_,⟨false,c,V,h,hlike,⟨AM6 _,by omega⟩,.inl ⟨V,V,fun h9=>hre h9.1⟩,V⟩,Bv fun f hf=>by simp only [zL,zl,zV,CZ.mem,hf]<;>omega⟩
noncomputable instance(a b:IR):Decidable (a=b):=Classical.propDecidable _
def IR.ok(h:IR):Prop:=(0<=h.p/\h.p<=10000)/\h.ch.length=32/\h.st.length=32
instance(h:IR):Decidable h.ok:=inferInstanceAs(Decidable (_/\_))
def BN.key(r:BN):Int×List Chg:=(r.p,r.cs)
def qf(h:IR)(r:BN)(st:Bs):Prop:=Eo r.p r.cs/\h.ok/\st.length=32/\r.p=h.p+1
noncomputable instance(h:IR)(r:BN)(st:Bs):Decidable (qf h r st):=Classical.propDecidable _
def xZ(h:IR)(r:BN)(st:Bs):IR:=⟨r.p,wY h.ch (wX r.p r.cs),st⟩
noncomputable def uu(st:Bs):IR->List BN->Option IR
 |h,[]=>some h
 |h,r::l=>if qf h r st then uu st (xZ h r st) l else none
def ZA(a:IR)(l:List BN)(b:IR):Prop:=a.ok/\b.ok/\uu b.st a l=some b
noncomputable instance(a:IR)(l:List BN)(b:IR):Decidable (ZA a l b):=Classical.propDecidable _
def ZC.eqv(a b:ZC):Prop:=a.q=b.q/\a.since=b.since/\a.until_=b.until_/\a.base=b.base/\a.res=b.res/\a.ranges=b.ranges/\a.recs.map BN.key=b.recs.map BN.key
instance(a b:ZC):Decidable (a.eqv b):=inferInstanceAs(Decidable (_/\_))
def x8(base until_:IR)(a:ZC):Prop:=base.p=a.base/\until_.p=a.until_/\ZA base a.recs until_/\(∀x∈a.ranges,yM base.st x)/\∃b,Jb a.q a.base a.ranges a.recs=some b/\a.eqv b
noncomputable instance(base until_:IR)(a:ZC):Decidable (x8 base until_ a):=Classical.propDecidable _
def RP.small(x:RP):Prop:=(∀s∈x.roots,s.length<=140737488354000)/\∀l∈x.paths,l.length<=1000000
def putE(n:Int):Int:=if n< -4611686018427387903 then 10 else 0
theorem mU(rs:List AQ)(c:Chg):(Es rs c).length<=rs.length+1:=by
 unfold Es QQ;simp only [zG,zN,zO];split<;>simp only [zU,AF4]<;>omega
theorem Rb:∀(cs:List Chg) (rs:List AQ),(EC rs cs).length<=rs.length+cs.length
 |[],_=>zh _
 |c::cs,rs=>by
  have h1:=Rb cs (Es rs c);have h2:=mU rs c
  rw [ze];exact AK0 h1 Ao7
theorem FL.few{l:List BN}(h:FL l):∀i,i<=l.length->(Bg (l.take i)).length<=3*i
 |0,_=>by rw [AC9];exact zh _
 |i+1,hi=>by
  obtain ⟨r,hr⟩:∃r,l[i]?=some r:=⟨_,zD Ao7⟩;rw [Bc hr,GH];have h1:=Rb r.cs (Bg (l.take i))
  have h2:=FL.few h i Ao7;have h3:=(h i r hr).2
  omega
theorem yK{M:List A8}{q:Option Addr}{cap:Nat}{l:List BN}(hRI:EA M (.slice q l.length cap) l)(hlog:FL l)(hl:l.length<=1000000)(k:Nat)(hk:k<=l.length):BR Tryz.prog 49 #[.slice q l.length cap,I4 (k:Int)] [M] (fun r H'=>∃v s,r= .tuple #[v,I4 0]/\Qa v (k:Int) (Bg (l.take k)) s/\H'=[s,M]):=by
 refine GY (xK q cap l M hRI hlog hl k hk) V ?_;rintro r H' ⟨sp,mm,es,ck,lm,rfl,hm,hR,rfl⟩;obtain ⟨hs,hn⟩:=hlog.rows k hk;exact ⟨_,⟨_,_,V,⟨sp,mm,es,ck,lm,V,hm,hR,hs,hn,V⟩,V⟩,by simp⟩
def Kc(l:List BN)(a b:Nat):List BN:=(l.drop a).take (b -a)
theorem mh{l:List BN}{a b k:Nat}{x:BN}(h:(Kc l a b)[k]?=some x):l[a+k]?=some x/\k<b -a:=by
 unfold Kc at h;rw [AA7]at h;split at h
 · rename_i h9;rw [AE1]at h;exact ⟨h,h9⟩
 · cases h
theorem lV{l:List BN}(h:FL l)(hl:l.length<=20){k:Nat}(hk:k<=l.length)(q:QM):(CF (Bg (l.take k)) q).length<=100:=by
 have h1:=h.few k hk;have h2:=(@KC (Bg (l.take k)) q.tb q.cl.toNat q.lo q.hi).1
 unfold CF;omega
theorem jC(rs:List AQ)(q:QM):(FQ rs q).length<=1+(CF rs q).length:=by
 unfold FQ;split
 · rw [ze,zH];omega
 · simp
theorem mg(c:Int)(n:Nat)(hn:0<n)(hn2:n<=1000000)(h1:-9223372036854775808<=c)(h2:c<=9223372036854775807):BJ Tryz.prog 12 #[I4 c,I4 (n:Int)] [] (I4 (Mf c n:Int)):=by
 refine Se func12 ntmps12 [0,1] ?_;intro u R;refine Zq<|Zg<|Za Y<|Z0<|Zx<|Zq<|Zq<|Zg<|Zm Y<|Zv (Dq Y Y)<|Z0<|Zx<|Aw Y (fun hc1=>?_) (fun hc1=>?_)
 ·
  refine Zg<|Zm Y<|Yi Y Y ?_
  (refine Bq (vH Y (IntWalk.i64_in _ ?_)) ?_;(focus (omega)))
  refine Za Y<|Z0<|Zx<|Zq<|Zg<|Zm Y<|Zm Y ?_
  (refine Bq (nD Y Y ?_ rfl) ?_;(focus (omega)))
  refine Za Y<|Z0<|Zx<|AC<|AL rfl results12 Y (by exact ⟨by rw [<-XU];simp [*],rfl⟩)
 refine AJ<|Zx<|Zq<|Zg<|Zm Y<|Zm Y ?_
 (refine Bq (nD Y Y ?_ rfl) ?_;(focus (omega)))
 refine Za Y<|Z0<|Zx<|AC<|AL rfl results12 Y (by exact ⟨by rw [<-XU];simp [*],rfl⟩)
set_option maxHeartbeats 1000000 in
theorem IY{M:List A8}{p:Option Addr}{cap:Nat}{l:List BN}(hRI:EA M (.slice p l.length cap) l)(hlog:FL l)(hll:l.length<=1000000)(a:Nat)(ha:a<=l.length){q:QM}(hq:BH q)(hscan:(CF (Bg (l.take a)) q).length<=100)(te:Int)(Tg:TypeId)(zg:Nat×Nat):BR Tryz.prog 15 #[.slice p l.length cap,I4 (a:Int),.agg #[I4 q.kd,I4 q.tb,I4 q.cl,I4 q.lo,I4 q.hi,I4 q.bq,I4 q.ot],I4 te] [[(4,.cells (EW.map Ch).toArray Tg zg)],M] (fun w H'=>∃(mem:List A8) (pg:Option Addr) (cg:Nat),Fg mem (.slice pg (FQ (Bg (l.take a)) q).length cg) (FQ (Bg (l.take a)) q)/\w= .agg #[I4 q.kd,I4 q.tb,I4 q.cl,I4 q.lo,I4 q.hi,I4 q.bq,I4 q.ot,I4 te,I4 (a:Int),.slice pg (FQ (Bg (l.take a)) q).length cg]/\H'=[mem,[(4,.cells (EW.map Ch).toArray Tg zg)],M]):=by
 have hml:=mL;obtain ⟨p9,cap9,e9,⟨hl1,hl2⟩,_⟩:=id hRI;injection e9 with e91 e92 e93
 subst e91 e93;obtain ⟨hs,hn⟩:=hlog.rows a ha;have hok:=hlog.rowsOk a ha
 obtain ⟨L,hL⟩:∃L,L=FQ (Bg (l.take a)) q:=⟨_,rfl⟩;rw [<-hL];refine Se func15 ntmps15 [0,1,2,3] ?_;intro u R;refine Zq<|Zg<|Ze (Bx #[I4 q.kd,I4 q.tb,I4 q.cl,I4 q.lo,I4 q.hi,I4 q.bq,I4 q.ot]) ?_;rintro _ _ ⟨bq,rfl,rfl⟩;refine Ze (EB Af4 (cs:=#[I4 0,I4 0,I4 0,I4 0,I4 0,I4 0,I4 0,I4 0,I4 0,.slice none 0 0]) Ao8) ?_;rintro _ _ ⟨be,rfl,rfl⟩;refine Z0<|Zx<|Zq<|Zg<|Zm Y<|Zm Y<|Zc [_,_] Y call49 Y V (yK hRI hlog hll a ha) ?_;rintro _ _ ⟨_,⟨vs,ss,rfl,hS,rfl⟩,rfl⟩;refine Zm Y<|Zd Y V<|Zd Y V<|Za Y<|Za Y<|Z0<|Zx<|Zq<|Zg<|Zm Y<|Zo Wh (AA (cs:=#[_,_,_,_,_,_,_]) AX9 AV8 Y (by(simp;done)) (by exact BD V)) ?_;refine Zc [_,_] Y call50 Y V (wL _ _ _ _ hS hs hn hok q hq hscan Tg zg) ?_;rintro _ _ ⟨_,⟨vo,mem,rfl,hRP,rfl⟩,rfl⟩;rw [<-hL]at hRP;obtain ⟨pg,cg,rfl,hg1,hg2⟩:=hRP.form;refine Zm Y<|Zd Y V<|Zd Y V<|Za Y<|Za Y<|Z0<|Zn [1,3,6,8,11] ?_;refine Zx<|Zq<|Zg<|Zo Wh (AA (cs:=#[_,_,_,_,_,_,_]) AX9 AV8 Y (by(simp;done)) (by exact BD V)) ?_;refine Zm Y<|Zm Y<|Zm Y<|Zv (BL (vs:=[(0,.agg #[I4 q.kd,I4 q.tb,I4 q.cl,I4 q.lo,I4 q.hi,I4 q.bq,I4 q.ot]),(1,I4 te),(2,I4 (a:Int)),(3,.slice pg L.length cg)]) (cs:=#[I4 q.kd,I4 q.tb,I4 q.cl,I4 q.lo,I4 q.hi,I4 q.bq,I4 q.ot,I4 te,I4 (a:Int),.slice pg L.length cg]) Y (AY (pl:=#[(0,7),(7,1),(8,1),(9,1)]) Af4 AV7 (fun _=>by kernel_rfl) Ao8))<|Xe (BK AY9 Y Y Ap9 Wu (by exact Dr rfl) Ap3 Ao9 (by exact BF _)) ?_;refine Z0<|Zx<|AC<|Cy V results15 Y Wh (Ap Ah5 AY9 Wn (BD V)) (by exact ⟨mem,pg,cg,hRP,V,V⟩)
def exQ:QM:=⟨3,0,1,10,19,0,0⟩
theorem Sv:BH exQ:=by decide
theorem Rc{rs:List AQ}(hs:BM rs)(hn:rs.length<=2000)(t c:Nat)(lo hi:Int):(ES rs t c lo hi).fits:=by
 have h1:=Iu hs (t:Int) c;refine ⟨?_,?_,?_,XR hs hn t c lo hi⟩
 · show(List.take _ (List.drop _ (BC rs (t:Int) c))).length<=_
   rw [zN,zO];omega
 · show(Io _ _ _).length<=_
   have h2:toT (BC rs (t:Int) c) c hi<=(BC rs (t:Int) c).length:=AT0 _ _;unfold Io;rw [zH,AJ4];omega
 · show(ZT rs).length<=_
   unfold ZT;rw [zH];decide
theorem bJ{rs:List AQ}(hs:BM rs)(hn:rs.length<=2000)(q:QM):∀x∈FQ rs q,x.fits:=fun x hx=>by
 unfold FQ at hx;rcases za.1 hx with rfl|hx
 · exact Rc hs hn _ _ _ _
 · split at hx
   · obtain ⟨r,_,rfl⟩:=zQ.1 hx
     exact Rc hs hn _ _ _ _
   · cases hx
structure KY(l:List BN):Prop where
 ok:FL l
 len:l.length<=1000
 scan:∀a,a<=l.length->∀q,(CF (Bg (l.take a)) q).length<=100
theorem FL.toB{l:List BN}(h:FL l)(hl:l.length<=20):KY l:=⟨h,by omega,fun a ha q=>lV h hl ha q⟩
theorem KY.start{l:List BN}(h:KY l){a:Nat}(ha:a<=l.length){q:QM}(hq:BH q):ED q (FQ (Bg (l.take a)) q)=some (Cc (Bg (l.take a)) q):=ZW (h.ok.rows a ha).1 (h.ok.rows a ha).2 (h.ok.rowsOk a ha) hq (h.scan a ha q)
theorem KY.make_len{l:List BN}(h:KY l){a:Nat}(ha:a<=l.length)(q:QM):(FQ (Bg (l.take a)) q).length<=101:=by
 have h1:=jC (Bg (l.take a)) q;have h2:=h.scan a ha q
 omega
theorem KY.fits{l:List BN}(h:KY l){a:Nat}(ha:a<=l.length)(q:QM):∀x∈FQ (Bg (l.take a)) q,x.fits:=bJ (h.ok.rows a ha).1 (h.ok.rows a ha).2 q
def kV(l:List BN)(P:Nat)(win:List BN):Prop:=win.length<=P/\win.map BN.pc=((l.take P).drop (P -win.length)).map BN.pc
theorem Qu(l:List BN)(P:Nat):kV l P []:=⟨zT _,by
 rw [List.drop_eq_nil_of_le (by simp only [zN,AF4];omega)]⟩
theorem fq{l:List BN}{P:Nat}{W W':List BN}{r x:BN}(h:kV l P W)(hx:l[P]?=some x)(hpc:r.pc=x.pc)(hW:Ic W W' r):kV l (P+1) W':=by
 obtain ⟨h1,h2⟩:=h;have hlt:=(zF.1 hx).1
 have htl:(l.take P).length=P:=by rw [zN];omega
 unfold kV;rw [Bc hx];rcases hW with⟨rfl,hl⟩|⟨rfl,hl⟩
 · rw [zG,zU,show P+1 -(W.length+1)=P -W.length by omega,AI3 Ao7,zK,zK,h2,AC6,AC6,hpc]
   exact ⟨by omega,V⟩
 · have e:((W++[r]).drop 1).length=64:=by rw [zO,zG,zU];omega
   have e1:(W++[r]).drop 1=W.drop 1++[r]:=AI3 Ao7;have e2:(l.take P++[x]).drop (P+1 -64)=(l.take P).drop (P+1 -64)++[x]:=AI3 Ao7
   rw [e,e1,e2,zK,zK,AQ3,h2,<-AQ3,AL0,show P -W.length+1=P+1 -64 by omega,AC6,AC6,hpc];exact ⟨by omega,V⟩
theorem Oo{l:List BN}{P:Nat}{win:List BN}(h:kV l P win){a:Nat}(ha:a<=P)(hr:P -a<=win.length):(Cv (P:Int) (a:Int) win).map BN.pc=(Kc l a P).map BN.pc:=by
 obtain ⟨h1,h2⟩:=h;unfold Cv Kc;rw [show((P:Int) -(a:Int)).toNat=P -a by omega,AQ3,h2,<-AQ3,AL0,show P -win.length+(win.length -(P -a))=a by omega,AP2]
structure Ie(l:List BN)(P:Nat)(c:CZ):Prop where
 ok:c.ok
 pos:c.pos=(P:Int)
 le:P<=l.length
 win:kV l P c.win
 src:∀x∈c.its,∃a:Nat,x.base=(a:Int)/\a<=l.length/\x.L=FQ (Bg (l.take a)) x.q
theorem Ie.at{l:List BN}(hB:KY l){P:Nat}{c:CZ}(h:Ie l P c){x:ItM}(hx:x∈c.its):∃a:Nat,x.base=(a:Int)/\a<=l.length/\x.L=FQ (Bg (l.take a)) x.q/\(a<=P->P -a<=c.win.length/\x.res=Cc (Bg (l.take P)) x.q/\qc x.q l a (P -a) x.since/\FX x.q (a:Int) 0 (Cc (Bg (l.take a)) x.q,(a:Int)) (Kc l a P)=some (x.res,x.since))/\(P<=a->x.res=Cc (Bg (l.take a)) x.q/\x.since=(a:Int)):=by
 obtain ⟨a,h1,h2,h3⟩:=h.src x hx;have hxo:=h.ok.all x hx
 obtain ⟨r0,hr0,hrun⟩:=hxo.run;rw [h3,hB.start h2 hxo.q]at hr0;injection hr0 with hr0
 subst hr0;have hre:=hxo.reach
 rw [h.pos,h1]at hrun hre;refine ⟨a,h1,h2,h3,fun ha=>?_,fun ha=>?_⟩
 · have e:=Oo h.win ha Ao7
   rw [O1 e]at hrun;have hle:=h.le
   obtain ⟨e1,e2⟩:=PD hxo.q hB.ok h2 (P -a) Ao7 _ hrun;rw [show a+(P -a)=P by omega]at e1;exact ⟨by omega,e1,e2,hrun⟩
 · rw [Km Ao7]at hrun
   injection hrun with hrun
   exact ⟨(congrArg Prod.fst hrun).symm,(congrArg Prod.snd hrun).symm⟩
theorem Ie.put{l:List BN}{P:Nat}{c d:CZ}(h:Ie l P c)(hd:d.ok)(hlike:c.like d){q:QM}{tn:Int}{a:Nat}(ha:a<=l.length){R:Bw×Int×Bool}{b:Bool}(hP:yP c d q tn (a:Int) (FQ (Bg (l.take a)) q) R b):Ie l P d:=by
 refine ⟨hd,hlike.pos.trans h.pos,h.le,by rw [hlike.win];exact h.win,fun x hx=>?_⟩;rcases hP with⟨_,rfl,_⟩|⟨_,_,_,⟨rfl,_⟩|⟨_,y,e,e1,e2,e3,_⟩⟩
 · exact h.src x hx
 · exact h.src x hx
 · rw [e]at hx
   rcases zJ.1 hx with hx|hx
   · exact h.src x (AA2.1 hx).1
   · rw [zI.1 hx,e1,e2,e3];exact ⟨a,rfl,ha,rfl⟩
theorem Ie.apply{l:List BN}(hB:KY l){P:Nat}{c d:CZ}(h:Ie l P c){r:BN}(hr:l[P]?=some r){q2:Option Addr}{cap2:Nat}{zs:List ByteArray}(hA:Ho c d r.p r.cs q2 cap2 zs):Ie l (P+1) d:=by
 have hlt:=(zF.1 hr).1;have hrp:=(hB.ok P r hr).1.pos
 refine ⟨hA.ok,by rw [hA.pos,hrp];push_cast;rfl,by omega,fq (r:=⟨r.p,q2,cap2,r.cs⟩) h.win hr rfl hA.win,fun y hy=>?_⟩;obtain ⟨_,x,hx,hc,_⟩:=hA.i1 y hy;obtain ⟨_,_,e1,_,e2,_,_,e3⟩:=Hm hc;rw [e1,e2,e3];exact h.src x hx
theorem Ie.next{l:List BN}(hB:KY l){P:Nat}{c:CZ}(h:Ie l P c){r:BN}(hr:l[P]?=some r):Eo r.p r.cs/\r.p=c.pos+1:=by
 have h1:=(hB.ok P r hr).1;exact ⟨h1.ok,by rw [h1.pos,h.pos]⟩
theorem Ie.part{l:List BN}{P:Nat}{c d:CZ}(h:Ie l P c)(hd:d.ok)(hlike:c.like d)(hs:∀x∈d.its,x∈c.its):Ie l P d:=⟨hd,hlike.pos.trans h.pos,h.le,by rw [hlike.win];exact h.win,fun x hx=>h.src x (hs x hx)⟩
theorem YV(lt:Int->Int->Bool):∀(ms:List Int) (r:Bw),(ms.foldl (fun r n=>(⟨r.rows,if !r.fnd||lt n r.val then n else r.val,true⟩:Bw)) r).rows=r.rows
 |[],_=>rfl
 |n::ms,r=>by rw [AI6,YV lt ms]
theorem jq(rs:List AQ)(q:QM):(Cc rs q).rows.length<=2*(CF rs q).length:=by
 have hj:=SN q (CF rs q) (Ht rs q.ot);have hx:∀lt ms,(E8 lt ms).rows=[]:=fun lt ms=>YV lt ms Bw.none
 unfold Cc F8;split
 · exact zT _
 · split
   · exact zT _
   · split
     · rw [hx];exact zT _
     · split
       · rw [hx];exact zT _
       · split
         · exact hj
         · show(CF rs q).length<=_;omega
theorem XO{l:List BN}(hB:KY l){P:Nat}{c:CZ}(h:Ie l P c){q:QM}(hq:BH q){a:Nat}(ha:a<=l.length){n:Nat}(hn:∀b,b<=l.length->(Cc (Bg (l.take b)) q).rows.length<=n)(hre:(c.pos -(a:Int)).toNat<=c.win.length):(Av q (Cc (Bg (l.take a)) q) (a:Int) (Cv c.pos (a:Int) c.win)).1.rows.length<=n:=by
 cases hr:(Av q (Cc (Bg (l.take a)) q) (a:Int) (Cv c.pos (a:Int) c.win)).2.2 with
 |false=>
  have h1:Av q (Cc (Bg (l.take a)) q) (a:Int) (Cv c.pos (a:Int) c.win)=(Bw.none,0,false):=by
   unfold Av at hr⊢;split at hr
   · cases hr
   · rfl
  rw [h1];exact zT _
 |true=>
  have h1:=LF hr;rw [h.pos]at h1 hre⊢;by_cases haP:a<=P
  · rw [O1 (Oo h.win haP Ao7)]at h1
    have hle:=h.le;have h2:=(PD hq hB.ok ha (P -a) Ao7 _ h1).1
    have h3:(Av q (Cc (Bg (l.take a)) q) (a:Int) (Cv (P:Int) (a:Int) c.win)).1=_:=h2;rw [h3];exact hn _ Ao7
  · rw [Km Ao7]
    exact hn a ha
def TM(l:List BN)(P:Nat)(c:CZ)(q:QM)(a:Nat):Prop:=P -a<=c.win.length/\∃st,FX q (a:Int) 0 (Cc (Bg (l.take a)) q,(a:Int)) (Kc l a P)=some st
theorem iC{l:List BN}{P:Nat}{c:CZ}{q:QM}{a:Nat}(h:P<=a):TM l P c q a:=⟨by omega,(Cc (Bg (l.take a)) q,(a:Int)),by
 rw [show Kc l a P=[] by unfold Kc;rw [show P -a=0 by omega,AC9]];rfl⟩
def wy(l:List BN)(P:Nat)(c d:CZ)(q:QM)(tn:Int)(a:Nat)(n:Nat)(b:Bool):Prop:=
 (b=false/\d=c/\¬TM l P c q a)\/
 (b=true/\TM l P c q a/\(∀e∈d.PL,e∈c.PL\/e.sz<=1+(n:Int))/\
   ((d=c/\∃x∈c.its,x.key=str (CV q)/\(a:Int)<=x.base)\/
    ((∀x∈c.its,x.key=str (CV q)->x.base<(a:Int))/\∃y:ItM,d.its=(c.its.filter fun x=>x.key≠str (CV q))++[y]/\y.q=q/\y.base=(a:Int)/\((y.tn=tn/\∀x∈c.its,x.key≠str (CV q))\/∃x∈c.its,x.key=str (CV q)/\y.tn=x.tn))))
theorem UM{l:List BN}{P:Nat}{c:CZ}(h:Ie l P c){q:QM}{a:Nat}:((c.pos -(a:Int)).toNat<=c.win.length/\(Av q (Cc (Bg (l.take a)) q) (a:Int) (Cv c.pos (a:Int) c.win)).2.2=true)↔TM l P c q a:=by
 rw [h.pos];unfold TM;rw [show((P:Int) -(a:Int)).toNat=P -a by omega];by_cases hre:P -a<=c.win.length
 · have e:FX q (a:Int) 0 (Cc (Bg (l.take a)) q,(a:Int)) (Cv (P:Int) (a:Int) c.win)=FX q (a:Int) 0 (Cc (Bg (l.take a)) q,(a:Int)) (Kc l a P):=by
    by_cases haP:a<=P
    · exact O1 (Oo h.win haP hre)
    · rw [Km Ao7,show Kc l a P=[] by unfold Kc;rw [show P -a=0 by omega,AC9]]
   unfold Av;rw [e];constructor
   · rintro ⟨_,h2⟩
     refine ⟨hre,?_⟩;split at h2
     · rename_i st h3;exact ⟨st,h3⟩
     · cases h2
   · rintro ⟨_,st,h2⟩
     rw [h2];exact ⟨hre,V⟩
 · exact ⟨fun h9=>absurd h9.1 hre,fun h9=>absurd h9.1 hre⟩
theorem Vn{l:List BN}{P:Nat}{c:CZ}(hB:KY l)(h:Ie l P c){q:QM}(hq:BH q){k:Nat}(hk:k<c.ns)(hk6:k<=1000000){a:Nat}(ha:a<=l.length){pg:Option Addr}{cg:Nat}{ME:List A8}(hL:Fg ME (.slice pg (FQ (Bg (l.take a)) q).length cg) (FQ (Bg (l.take a)) q))(hnx:c.next<1000000000)(hlen:c.its.length<500){n:Nat}(hn:∀b,b<=l.length->(Cc (Bg (l.take b)) q).rows.length<=n)(hroom:1+(n:Int)<=c.z.fr)(Tp:TypeId)(zp:Nat×Nat):
 BR Tryz.prog 14 #[.pointer (some ⟨c.cp,0,none⟩),.agg #[I4 q.kd,I4 q.tb,I4 q.cl,I4 q.lo,I4 q.hi,I4 q.bq,I4 q.ot,I4 (k:Int),I4 (a:Int),.slice pg (FQ (Bg (l.take a)) q).length cg]] [c.mem,ME,[(1,.cells (Lib.pow10Tab.map fun z=>Value.int .u64 z).toArray Tp zp)]] (fun w H'=>∃(b:Bool) (d:CZ),w= .bool b/\Ie l P d/\c.like d/\(c.next<=d.next/\d.next<=c.next+1)/\wy l P c d q (k:Int) a n b/\H'=[d.mem,ME,[(1,.cells (Lib.pow10Tab.map fun z=>Value.int .u64 z).toArray Tp zp)]]):=by
 have hlen2:=hB.len;refine (yg h.ok hq hk hk6 (a:Int) ⟨by omega,by omega⟩ hL (by have:=hB.make_len ha q;omega) (hB.fits ha q) (hB.start ha hq) hnx hlen (fun hre=>by have:=XO hB h hq ha hn hre;omega) Tp zp).mono ?_;rintro w H' ⟨b,d,rfl,hd,hlk,hnn,hP,rfl⟩;refine ⟨b,d,V,h.put hd hlk ha hP,hlk,hnn,?_,V⟩;rcases hP with⟨h1,h2,h3⟩|⟨h1,h2,h3,h4⟩
 · exact .inl ⟨h1,h2,fun h9=>h3 ((UM h).2 h9)⟩
 · refine .inr ⟨h1,(UM h).1 h2,fun e he=>(h3 e he).imp id fun h9=>by have:=XO hB h hq ha hn h2.1;omega,?_⟩
   rcases h4 with h4|⟨h4,y,e1,e2,e3,_,_,_,e4⟩
   · exact .inl h4
   · exact .inr ⟨h4,y,e1,e2,e3,e4⟩
theorem bP{l:List BN}{P:Nat}{c:CZ}(hB:KY l)(h:Ie l P c){r:BN}(hr:l[P]?=some r){ME:List A8}(hC:Ct ME (.slice r.q r.cs.length r.cap) r.cs):BR Tryz.prog 16 #[.pointer (some ⟨c.cp,0,none⟩),.agg #[I4 r.p,.slice r.q r.cs.length r.cap]] [c.mem,ME] (fun w H'=>∃(d:CZ) (q2:Option Addr) (cap2:Nat) (zs:List ByteArray) (tv:Value) (s:List A8),w= .tuple #[tv,I4 0]/\Ie l (P+1) d/\Ho c d r.p r.cs q2 cap2 zs/\Row 9 tv (zs.map Value.string) s/\H'=[d.mem,ME,s]):=by
 obtain ⟨h1,h2⟩:=h.next hB hr;refine (wO h.ok hC h1 h2).mono ?_;rintro w H' ⟨d,q2,cap2,zs,tv,s,rfl,hA,hrow,rfl⟩;exact ⟨d,q2,cap2,zs,tv,s,V,h.apply hB hr hA,hA,hrow,V⟩
theorem mJ{M:List A8}{p:Option Addr}{cap:Nat}{l:List BN}(h:EA M (.slice p l.length cap) l){i:Nat}{r:BN}(hr:l[i]?=some r):Ct M (.slice r.q r.cs.length r.cap) r.cs/\∃g off cur T zz,p=some ⟨g,off,none⟩/\(g,Obj.cells cur T zz)∈M/\off+i*2+2<=cur.size/\cur.extract (off+i*2) (off+i*2+2)=#[I4 r.p,.slice r.q r.cs.length r.cap]:=by
 obtain ⟨p',cap',e,_,hg⟩:=h;injection e with e1 e2 e3
 subst e1 e3;exact hg i r hr
theorem WV{q:QM}(hk:1<=q.kd/\q.kd<=4)(r:Bw)(cs:List Chg):(BQ q r cs).2.2=true:=by
 obtain ⟨r',hr⟩:=Mx hk cs r;unfold BQ;rw [hr]
theorem o6{zs:List ByteArray}{K:ByteArray}(h1:∀k,k∈zs↔k=K)(h2:zs.Nodup):zs=[K]:=by
 cases zs with
 |nil=>exact absurd ((h1 K).2 rfl) Ap0
 |cons a l=>
  have ha:=(h1 a).1 (zX ..);subst ha;cases l with
  |nil=>rfl
  |cons b l=>
   have hb:=(h1 b).1 Ap0;subst hb;simp at h2
theorem sI{e:TypeId}{xs:List Value}{v:Value}{s:List A8}(h:Row e v xs s)(hx:0<xs.length):∃g cap cur z,v=I6 g xs.length cap/\s=[(g,.cells cur e z)]/\xs.length<=cur.size/\∀i,i<xs.length->cur[i]?=xs[i]?:=by
 rcases h with⟨_,h0,_⟩|⟨g,cap,cur,z,rfl,rfl,h1,h2,h3,h4,h5⟩
 · rw [h0]at hx;cases hx
 · refine ⟨g,cap,cur,z,rfl,rfl,by omega,fun i hi=>?_⟩
   have h:=congrArg (fun l=>l[i]?) h4;simp only [AA7,Am7 hi]at h;simpa using h
theorem XG{e:TypeId}(g:Nat)(v:Value):Row e (I6 g 1 1) [v] [(g,.cells #[v] e (0,0))]:= .inr ⟨g,1,#[v],(0,0),rfl,rfl,zh 1,by decide,rfl,rfl,BF _⟩
theorem rY{c:CZ}(h:c.okb)(hns:c.ns=1){x:ItM}(hi:c.its=[x])(hs:∀e∈c.PL,e.sz<=1):FC c.PL ((0:Nat):Int)=1:=by
 have h2:(c.PL.map (·.key)).Perm (c.its.map ItM.key):=(AC0 h.pool.keys h.its.keys).2 h.pk;have h3:=h2.length_eq
 rw [zH,zH,hi]at h3
 match hP:c.PL,h3 with
 |[e],_=>
  have he:e∈c.PL:=by rw [hP];simp
  have h4:=h.pool.te e he;have h5:=h.pool.sz e he
  have h6:=hs e he;unfold FC;rw [AC6,List.sum_singleton,Am7 Ao7];omega
def exD(k a b:Int):Chg:=⟨0,k,false,⟨0,0,0⟩,true,⟨a,b,7⟩⟩
def YY(p1 p2:Option Addr):List BN:=[⟨1,p1,1,[exD 5 10 2]⟩,⟨2,p2,1,[exD 6 11 9]⟩]
theorem tF{p k a b:Int}(hp:1<=p/\p<=10000)(h:(exD k a b).ok):Eo p [exD k a b]:=⟨hp,⟨zh _,by show 1<=8;decide⟩,fun i c hc=>by
 match i,hc with
 |0,hc=>injection hc with hc;rw [<-hc];exact h
 |i+1,hc=>simp at hc,fun i b c hb hc=>by simp at hc⟩
theorem fK{rs:List AQ}{p k a b:Int}(hp:1<=p+1/\p+1<=10000)(h:(exD k a b).ok)(hf:IG rs (exD k a b))(hz:Gg rs [exD k a b]<=2000):QN rs p (p+1) [exD k a b]:=⟨tF hp h,rfl,fun c hc=>by rw [zI.1 hc];exact hf,hz⟩
def exS:Nat->List AQ
 |0=>[]
 |1=>[⟨0,5,⟨10,2,7⟩⟩]
 |_=>[⟨0,5,⟨10,2,7⟩⟩,⟨0,6,⟨11,9,7⟩⟩]
theorem Uw(p1 p2:Option Addr):Bg ((YY p1 p2).take 0)=exS 0/\Bg ((YY p1 p2).take 1)=exS 1/\Bg ((YY p1 p2).take 2)=exS 2:=⟨rfl,by kernel_rfl,by kernel_rfl⟩
theorem uS(p1 p2:Option Addr):FL (YY p1 p2):=fun i r hr=>by
 obtain ⟨h0,h1,_⟩:=Uw p1 p2
 match i,hr with
 |0,hr=>injection hr with hr;subst hr;rw [h0];exact ⟨fK (p:=0) Ao9 Ao9 (by unfold IG;decide) Ao9,by show 1<=3;decide⟩
 |1,hr=>injection hr with hr;subst hr;rw [h1];exact ⟨fK (p:=1) Ao9 Ao9 (by unfold IG;decide) Ao9,by show 1<=3;decide⟩
 |i+2,hr=>simp [YY]at hr
structure yR(l:List BN):Prop where
 b:KY l
 len:l.length=2
 e2:(Cc (Bg (l.take 2)) exQ).val=2
 e1:(Cc (Bg (l.take 1)) exQ).val=1
 two:∃r,l[1]?=some r/\(∃ch∈r.cs,CU exQ ch=true)/\Kt exQ r=true
theorem TB(rs:List AQ):(Cc rs exQ).rows=[]:=rfl
theorem pQ(p1 p2:Option Addr):yR (YY p1 p2):=by
 obtain ⟨_,h1,h2⟩:=Uw p1 p2;refine ⟨(uS p1 p2).toB (by show 2<=20;decide),rfl,by rw [h2];decide,by rw [h1];decide,_,rfl,⟨exD 6 11 9,.head _,by decide⟩,?_⟩;exact (by decide:[exD 6 11 9].any (DI exQ)=true)
theorem Pf{l:List BN}{P:Nat}{c d:CZ}(hi:c.its=[])(hPL:c.PL=[]){q:QM}{tn:Int}{a n:Nat}(ha:P<=a){b:Bool}(hP:wy l P c d q tn a n b):b=true/\∃y:ItM,d.its=[y]/\y.q=q/\y.key=str (CV q)/\y.base=(a:Int)/\∀e∈d.PL,e.sz<=1+(n:Int):=by
 rcases hP with⟨_,_,h⟩|⟨h1,_,h2,⟨_,x,hx,_⟩|⟨_,y,h3,h4,h5,_⟩⟩
 · exact absurd (iC ha) h
 · rw [hi]at hx;cases hx
 · refine ⟨h1,y,by rw [h3,hi];rfl,h4,by unfold ItM.key;rw [h4],h5,fun e he=>?_⟩
   rcases h2 e he with h9|h9
   · rw [hPL]at h9;cases h9
   · exact h9
theorem lq{e:TypeId}{xs:List Value}{v:Value}{s:List A8}(h:Row e v xs s){n:Nat}(hn:xs.length=n)(h0:0<n):∃g cap cur z,v=I6 g n cap/\s=[(g,.cells cur e z)]/\n<=cur.size/\∀i,i<n->cur[i]?=xs[i]?:=by
 subst hn;exact sI h h0
theorem eF{e:TypeId}{xs:List Value}{v:Value}{s:List A8}(h:Row e v xs s){n:Nat}(hn:xs.length=n):∃p cap,v= .slice p n cap:=by
 subst hn;obtain ⟨p,cap,h⟩:=h.form;exact ⟨p,cap,h⟩
theorem vR{c d:CZ}{p:Int}{cs:List Chg}{q2:Option Addr}{cap2:Nat}{zs:List ByteArray}(hA:Ho c d p cs q2 cap2 zs){y:ItM}(hi:c.its=[y])(hh:WZ cs y)(hb:y.base<p):zs=[y.key]:=o6 (fun k=>by
 rw [hA.z1,hi];constructor
 · rintro ⟨x,hx,rfl,_⟩;rw [zI.1 hx]
 · rintro rfl;exact ⟨y,by simp,rfl,hh,hb⟩) hA.z2
theorem rE{c d:CZ}{p:Int}{cs:List Chg}{q2:Option Addr}{cap2:Nat}{zs:List ByteArray}(hA:Ho c d p cs q2 cap2 zs)(hb:∀x∈c.its,p<=x.base):zs=[]:=AM0.2 fun k hk=>by
 obtain ⟨x,hx,_,_,h⟩:=(hA.z1 k).1 hk;have:=hb x hx
 omega
theorem Vv{c d:CZ}{p:Int}{cs:List Chg}{q2:Option Addr}{cap2:Nat}{zs:List ByteArray}(hA:Ho c d p cs q2 cap2 zs){y:ItM}(hi:c.its=[y])(hb:p -64<=y.base)(hk:1<=y.q.kd/\y.q.kd<=4):∃y2,d.its=[y2]/\y2.q=y.q/\y2.key=y.key/\y2.base=y.base:=by
 obtain ⟨y2,hy2,hc⟩:=hA.i2 y (by rw [hi];simp) hb fun _ _=>WV hk _ _;have hd:=hA.ok.its.keys
 have hall:∀w∈d.its,w=y2:=fun w hw=>by
  obtain ⟨_,x,hx,hc2,_⟩:=hA.i1 w hw;rw [hi]at hx;rw [zI.1 hx]at hc2;exact G7 hd hw hy2 ((Le hc2).trans (Le hc).symm)
 obtain ⟨_,_,e1,_,e2,_⟩:=Hm hc;refine ⟨y2,?_,e1,Le hc,e2⟩;have hl:=hd
 match hE:d.its,hy2,hl with
 |[w],_,_=>rw [hall w (by rw [hE];simp)]
 |w::w2::L,_,hl=>
  have h1:=hall w (by rw [hE];simp);have h2:=hall w2 (by rw [hE];simp)
  rw [h1,h2]at hl;simp at hl
theorem TC{M:List A8}{g:Nat}{T:TypeId}{z:Nat×Nat}{cur:Array Value}{c:Chg}(hm:(g,Obj.cells cur T z)∈M)(hs:10<=cur.size)(he:cur.extract 0 10=#[I4 c.t,I4 c.k,.bool c.had,I4 c.o.a,I4 c.o.b,I4 c.o.c,.bool c.has,I4 c.n.a,I4 c.n.b,I4 c.n.c]):Ct M (I6 g [c].length 1) [c]:=⟨_,_,rfl,by show 1<=maxLen;decide,fun i x hx=>by
 match i,hx with
 |0,hx=>injection hx with hx;subst hx;exact ⟨g,0,cur,T,z,rfl,hm,by omega,by simpa using he⟩
 |i+1,hx=>simp at hx⟩
theorem pO(g1 g2 g0:Nat):∃(l:List BN) (M:List A8),M=[(g1,Obj.cells #[I4 0,I4 5,.bool false,I4 0,I4 0,I4 0,.bool true,I4 10,I4 2,I4 7] 69 (0,0))]++([(g2,Obj.cells #[I4 0,I4 6,.bool false,I4 0,I4 0,I4 0,.bool true,I4 11,I4 9,I4 7] 69 (0,0))]++[(g0,Obj.cells #[I4 1,I6 g1 1 1,I4 2,I6 g2 1 1] 50 (0,0))])/\yR l/\EA M (I6 g0 l.length 2) l:=by
 refine ⟨YY (some ⟨g1,0,none⟩) (some ⟨g2,0,none⟩),_,V,pQ _ _,⟨_,_,V,⟨by show 2<=maxLen;decide,zh _⟩,fun i r hr=>?_⟩⟩
 match i,hr with
 |0,hr=>injection hr with hr;subst hr;exact ⟨TC (g:=g1) (c:=exD 5 10 2) (.head _) Ao9 rfl,g0,0,_,_,_,rfl,.tail _ (.tail _ (.head _)),AI4 rfl,rfl⟩
 |1,hr=>injection hr with hr;subst hr;exact ⟨TC (g:=g2) (c:=exD 6 11 9) (.tail _ (.head _)) Ao9 rfl,g0,0,_,_,_,rfl,.tail _ (.tail _ (.head _)),AI4 rfl,rfl⟩
 |i+2,hr=>simp [YY]at hr
set_option maxHeartbeats 4000000 in
theorem wB(Tg:TypeId)(zg:Nat×Nat)(Tp:TypeId)(zp:Nat×Nat):BJ Tryz.prog 8 #[] [[(4,.cells (EW.map Ch).toArray Tg zg)],[(1,.cells (Lib.pow10Tab.map fun z=>Value.int .u64 z).toArray Tp zp)]] (.bool true):=by
 have hml:=mL;refine Se func8 ntmps8 [] ?_;intro u R;refine Zq<|Zg<|Za Y<|Z0<|Zx<|Zq<|Zg<|Zv (BL (vs:=[(0,_),(1,_),(2,_)]) (cs:=#[_,_,_]) Y (Dn Ai1 Ab6 AU1 V))<|Zv (BL (vs:=[(1,I4 5),(4,.bool true),(5,.agg #[I4 10,I4 2,I4 7])]) (cs:=#[I4 0,I4 5,.bool false,I4 0,I4 0,I4 0,.bool true,I4 10,I4 2,I4 7]) Y (AY (pl:=#[(0,1),(1,1),(2,1),(3,3),(6,1),(7,3)]) Ab1 AV4 (fun _=>by kernel_rfl) Ao8))<|Ze (Af (vs:=[_]) (cs:=[_,_,_,_,_,_,_,_,_,_]) AZ0 AW4 Ab1 Y V rfl V rfl V) ?_;rintro _ _ ⟨g1,rfl,rfl⟩;refine Zv (BL (vs:=[(0,_),(1,_)]) (cs:=#[_,_]) Y (AY (pl:=#[(0,1),(1,1)]) Ac0 AY1 (fun _=>by kernel_rfl) V))<|Zv (BL (vs:=[(0,_),(1,_),(2,_)]) (cs:=#[_,_,_]) Y (Dn Ai1 Ab6 AU1 V))<|Zv (BL (vs:=[(1,I4 6),(4,.bool true),(5,.agg #[I4 11,I4 9,I4 7])]) (cs:=#[I4 0,I4 6,.bool false,I4 0,I4 0,I4 0,.bool true,I4 11,I4 9,I4 7]) Y (AY (pl:=#[(0,1),(1,1),(2,1),(3,3),(6,1),(7,3)]) Ab1 AV4 (fun _=>by kernel_rfl) Ao8))<|Ze (Af (vs:=[_]) (cs:=[_,_,_,_,_,_,_,_,_,_]) AZ0 AW4 Ab1 Y V rfl V rfl V) ?_;rintro _ _ ⟨g2,rfl,rfl⟩;refine Zv (BL (vs:=[(0,_),(1,_)]) (cs:=#[_,_]) Y (AY (pl:=#[(0,1),(1,1)]) Ac0 AY1 (fun _=>by kernel_rfl) V))<|Ze (Af (vs:=[_,_]) (cs:=[_,_,_,_]) AV9 AX5 Ac0 Y V rfl V rfl V) ?_;rintro _ _ ⟨g0,rfl,rfl⟩;refine Za Y<|Z0<|Zx<|Zq<|C8 (s1:=[(g2,Obj.cells #[I4 0,I4 6,.bool false,I4 0,I4 0,I4 0,.bool true,I4 11,I4 9,I4 7] 69 (0,0))]) (s2:=[(g0,Obj.cells #[I4 1,I6 g1 1 1,I4 2,I6 g2 1 1] 50 (0,0))]) Wo Wo ?_;refine C8 (s1:=[(g1,Obj.cells #[I4 0,I4 5,.bool false,I4 0,I4 0,I4 0,.bool true,I4 10,I4 2,I4 7] 69 (0,0))]) (s2:=([(g2,Obj.cells #[I4 0,I4 6,.bool false,I4 0,I4 0,I4 0,.bool true,I4 11,I4 9,I4 7] 69 (0,0))]++[(g0,Obj.cells #[I4 1,I6 g1 1 1,I4 2,I6 g2 1 1] 50 (0,0))])) Wo Wo ?_;obtain ⟨l,M,hM,hx,hRI⟩:=pO g1 g2 g0;rw [<-hM];have hlen:=hx.len
 rw [show(Value.slice (some ⟨g0,0,none⟩) 2 2:Value)=I6 g0 l.length 2 by rw [hlen]];obtain ⟨r2,hr2,hhit,htou⟩:=hx.two;obtain ⟨hch2,gm,offm,curm,Tm,zm,hpm,hmm,hszm,hexm⟩:=mJ hRI hr2;injection hpm with hpm
 injection hpm with hpm1 hpm2 _
 subst hpm1 hpm2;refine Zg<|Zv (BL (vs:=[(0,I4 3),(2,I4 1),(3,I4 10),(4,I4 19)]) (cs:=#[I4 3,I4 0,I4 1,I4 10,I4 19,I4 0,I4 0]) Y (AY (pl:=#[(0,1),(1,1),(2,1),(3,1),(4,1),(5,1),(6,1)]) Ad8 AU9 (fun _=>by kernel_rfl) Ao8))<|Ze (Al Ad8 #[_,_,_,_,_,_,_]) ?_;rintro _ _ ⟨bq,rfl,rfl⟩;refine Xe (Xw AV8 #[I4 3,I4 0,I4 1,I4 10,I4 19,I4 0,I4 0]) ?_;refine Z0<|Zn [1,2] ?_;refine Zx<|Zq<|Zg<|Zo Wh (AA (cs:=#[_,_,_,_,_,_,_]) AX9 AV8 Y Ao9 (by exact BD V)) ?_;refine Xr [_] Y call11 Y V (KF exQ Sv Tp zp) ?_;refine Zm Y<|Zd Y V<|Zd Y V<|Za Y<|Za Y<|Z0<|Zx<|Zq<|Zg<|Ze (Af (vs:=[_]) (cs:=[_]) AV0 AU1 AX6 Y V rfl V rfl V) ?_;rintro _ _ ⟨gs,rfl,rfl⟩;refine Zc [_,_,_] Y call13 Y V (xg (sh:=[5]) (XG gs (I4 5)) 1 10 Ao9 Ao9 Ao9 Ao9 Ao9) ?_;rintro _ _ ⟨_,⟨c0,rfl,hc0,⟨hit0,hPL0,hw0⟩,hp0,hnx0,hns0,hcap0,rfl⟩,rfl⟩;have L0:Ie l 1 c0:=⟨hc0,hp0,by omega,by rw [hw0];exact Qu l 1,fun x hx9=>by rw [hit0]at hx9;cases hx9⟩
 refine Zm Y<|Zd Y V<|Zd Y V<|Za Y<|Za Y<|Z0<|Zn [1,2,3,5,6] ?_;refine Zx<|Zq<|Zg<|Ze (Af (vs:=[_]) (cs:=[_]) AV0 AU1 AX6 Y V rfl V rfl V) ?_;rintro _ _ ⟨gs2,rfl,rfl⟩;refine Xr [_,_,_] Y call13 Y V (qC (-1) 10 (I6 gs2 1 1) Ao9) ?_;refine Zm Y<|Zd Y V<|Zd Y V<|Za Y<|Za Y<|Z0<|Zx<|Zq<|Zq<|Zg<|Zm Y<|Zv (BU AZ4 Y Y)<|Zm Y<|Aj (t:=55) Y V (fun k1=>?_) (fun k1=>?_)
 ·
  cases k1
 refine Zf Y Y<|Yg (Eh (n:=0) Y Y)<|Zv (AU Y Y)<|Zm Y<|Ak (t:=59) Y V (fun k2=>?_) (fun k2=>?_)
 ·
  exact absurd V k2
 refine Zf Y Y<|Yg (Eh (n:=180) Y Y)<|Zv (AU Y Y)<|Z0<|Zn [1,2,3,5,62] ?_;refine Zx<|Aw Y (fun k3=>?_) (fun k3=>?_)
 ·
  exact absurd V k3
 refine AJ<|Zx<|Zq<|Zg<|Zm Y<|Zm Y<|Zo Wh (AA (cs:=#[_,_,_,_,_,_,_]) AX9 AV8 Y Ao9 (by exact BD V)) ?_;refine Zc [_,_,_,_] Y call15 Y V (IY hRI hx.b.ok Ao7 1 Ao7 Sv (hx.b.scan 1 Ao7 exQ) 0 Tg zg) ?_;rintro _ _ ⟨_,⟨E1,pg1,cg1,hRP1,rfl,rfl⟩,rfl⟩;have hroom1:1+((0:Nat):Int)<=c0.z.fr:=by
  have h9:=Qg L0.ok.tookb (B:=0) (by rw [hPL0];simp);rw [hit0,hcap0]at h9;simp at h9⊢;omega
 refine Zc [_,_] Y call14 Y rfl (Vn hx.b L0 Sv (k:=0) (by rw [hns0];decide) Ao9 (a:=1) Ao7 hRP1 (by have:=hnx0;omega) (by rw [hit0];decide) (n:=0) (fun b hb=>by rw [TB];decide) hroom1 Tp zp) ?_;rintro _ _ ⟨_,⟨b1,c1,rfl,L1,hlk1,hnn1,hP1,rfl⟩,rfl⟩;obtain ⟨rfl,y1,hi1,hq1,hk1,hb1,hsz1⟩:=Pf hit0 hPL0 Ao7 hP1;rw [<-hlk1.cp];have hns1:c1.ns=1:=hlk1.ns.trans hns0
 have hcap1:c1.z.cap=10:=hlk1.cap.trans hcap0;have hnx1:c1.next<=11:=by omega
 refine Za Y<|Z0<|Zx<|Zq<|Zg<|Zm Y<|Zm Y ?_;have hget1:=Qj L1.ok (x:=y1) (by rw [hi1];simp) (by rw [hb1,L1.pos];omega)
 rw [hk1]at hget1;refine Zc [_,_] Y call17 Y V (hget1) ?_;rintro _ _ ⟨_,⟨z1,l1,s1,hz1,hpc1,hzo1,rfl,rfl⟩,rfl⟩;obtain ⟨a1,e11,e12,e13,e14,e15⟩:=L1.at hx.b (x:=y1) (by rw [hi1];simp);obtain rfl:a1=1:=by omega
 have hv1:z1.a.res.val=1:=by rw [hz1];show y1.res.val=1;rw [(e15 Ao7).1,hq1];exact hx.e1
 have hu1:z1.a.until_=1:=by rw [hz1];show c1.pos=1;rw [L1.pos];rfl
 refine Zm Y<|Zd Y V<|Zd Y V<|Ze (Al AY8 #[_,_,_,_,_,_,_,_,_,_,_,_,_,_,_]) ?_;rintro _ _ ⟨ba,rfl,rfl⟩;refine Xe (Xw Ab5 #[I4 z1.a.q.kd,I4 z1.a.q.tb,I4 z1.a.q.cl,I4 z1.a.q.lo,I4 z1.a.q.hi,I4 z1.a.q.bq,I4 z1.a.q.ot,.slice z1.rp z1.a.res.rows.length z1.rc,I4 z1.a.res.val,.bool z1.a.res.fnd,I4 z1.a.since,I4 z1.a.until_,I4 z1.a.base,.slice z1.gp z1.a.ranges.length z1.gc,.slice z1.cp z1.a.recs.length z1.cc]) ?_;refine Za Y<|Z0<|Zn [1,2,3,5,9,10,11] ?_;refine Zx<|Zq<|Zg<|Zm Y<|Zm Y<|Bq (Ai (j:=1) AV9 AX5 Y Y Ao7)<|CW (Gc Wo (hmm)) (AA (cs:=#[I4 r2.p,.slice r2.q r2.cs.length r2.cap]) Ad7 AX5 Y Ao7 (by exact hexm)) V rfl ?_;refine Zc [_,_] Y call16 Y V (bP hx.b L1 hr2 hch2) ?_;rintro _ _ ⟨_,⟨c2,q22,cap22,zs2,tv2,sT2,rfl,L2,hA2,hrw2,rfl⟩,rfl⟩;have hr2p:r2.p=c1.pos+1:=(L1.next hx.b hr2).2
 rw [L1.pos]at hr2p;have hzz2:zs2=[y1.key]:=vR hA2 hi1 (by unfold WZ;rw [hq1];exact hhit) (by rw [hb1,hr2p];omega)
 rw [hzz2,hk1]at hrw2;obtain ⟨gt,capt,curt,zt,rfl,rfl,hszt,hct⟩:=lq hrw2 (n:=1) rfl Ao9;have hct0:curt[0]?=some (.string (str (CV exQ))):=hct 0 Ao9
 rw [<-hA2.cp];obtain ⟨y2,hi2,hq2,hk2,hb2⟩:=Vv hA2 hi1 (by rw [hb1];omega) (by rw [hq1];decide);rw [hq1]at hq2;rw [hk1]at hk2;rw [hb1]at hb2;have hns2:c2.ns=1:=hA2.ns.trans hns1
 have hcap2:c2.z.cap=10:=hA2.cap.trans hcap1;have hnx2:c2.next<=12:=by rw [hA2.next];omega
 refine Zm Y<|Zd Y V<|Zd Y V<|Za Y<|Za Y<|Z0<|Zx<|Zq<|Zg<|Zm Y<|Zm Y ?_;have hget2:=Qj L2.ok (x:=y2) (by rw [hi2];simp) (by rw [hb2,L2.pos];omega)
 rw [hk2]at hget2;refine Zc [_,_] Y call17 Y V (hget2) ?_;rintro _ _ ⟨_,⟨z2,l2,s2,hz2,hpc2,hzo2,rfl,rfl⟩,rfl⟩;obtain ⟨a2,e21,e22,e23,e24,e25⟩:=L2.at hx.b (x:=y2) (by rw [hi2];simp);obtain rfl:a2=1:=by omega
 obtain ⟨e241,e242,e243,_⟩:=e24 Ao7;have hv2:z2.a.res.val=2:=by rw [hz2];show y2.res.val=2;rw [e242,hq2];exact hx.e2
 have hs2:z2.a.since=2:=by
  rw [hz2];show y2.since=2
  rw [hq2]at e243;obtain ⟨⟨a1,a2⟩,_,a4⟩:=e243;rcases (by omega:y2.since=2\/y2.since<=1)with h9|h9
  · exact h9
  · have ht:=a4 1 r2 Ao7 Ao9 hr2
    rw [htou]at ht;cases ht
 have hn2:z2.a.recs.length=1:=by
  rw [hz2];show l2.length=1
  have h9:=congrArg List.length hpc2;rw [zH,zH,Kn (by rw [L2.pos,hb2];omega),L2.pos,hb2]at h9;omega
 refine Zm Y<|Zd Y V<|Zd Y V<|Ze (Al AY8 #[_,_,_,_,_,_,_,_,_,_,_,_,_,_,_]) ?_;rintro _ _ ⟨bb,rfl,rfl⟩;refine Xe (Xw Ab5 #[I4 z2.a.q.kd,I4 z2.a.q.tb,I4 z2.a.q.cl,I4 z2.a.q.lo,I4 z2.a.q.hi,I4 z2.a.q.bq,I4 z2.a.q.ot,.slice z2.rp z2.a.res.rows.length z2.rc,I4 z2.a.res.val,.bool z2.a.res.fnd,I4 z2.a.since,I4 z2.a.until_,I4 z2.a.base,.slice z2.gp z2.a.ranges.length z2.gc,.slice z2.cp z2.a.recs.length z2.cc]) ?_;refine Za Y<|Z0<|Zn [1,2,3,5,9,10,11,12,13,14,15] ?_;refine Zx<|Zq<|Zg<|Zm Y<|Zm Y<|Bq (Ai (j:=1) AV9 AX5 Y Y Ao7)<|CW (Gc Wo (hmm)) (AA (cs:=#[I4 r2.p,.slice r2.q r2.cs.length r2.cap]) Ad7 AX5 Y Ao7 (by exact hexm)) V rfl ?_;refine Xr [_,_] Y call16 Y rfl (Xy L2.ok.tookb hch2 (L1.next hx.b hr2).1 (by rw [hr2p,L2.pos];omega)) ?_;refine Zm Y<|Zd Y V<|Zd Y V<|Za Y<|Za Y<|Z0<|Zx<|Zq<|Zg<|Zm Y<|Zc [_,_] Y call28 Y V (wM L2.ok 1 Ao9) ?_;rintro _ _ ⟨_,⟨rfl,c3,hc3,hcp3,⟨hit3,hPL3,hw3⟩,hp3,hnx3,hns3,hcap3,rfl⟩,rfl⟩;rw [<-hcp3];have L3:Ie l 1 c3:=⟨hc3,hp3,by omega,by rw [hw3];exact Qu l 1,fun x hx9=>by rw [hit3]at hx9;cases hx9⟩
 rw [hns2]at hns3;rw [hcap2]at hcap3;replace hnx3:c3.next<=13:=by rw [hnx3];omega
 refine Z0<|Zx<|Zq<|Zg<|Zm Y<|Zc [_] Y call19 Y V (xh L3.ok.tookb) ?_;rintro _ _ ⟨_,⟨zs3,sk3,hpm3,_,hrk3,rfl⟩,rfl⟩;rw [hit3]at hpm3;have hzz3:zs3=[]:=hpm3.eq_nil
 subst hzz3;obtain ⟨pk3,ck3,rfl⟩:=eF hrk3 (n:=0) rfl;refine Zv (Aa AV1 Y)<|Zv (DL (n:=0) Y Y)<|Zm Y<|Ak (t:=102) Y V (fun k4=>?_) (fun k4=>?_)
 ·
  refine Zf Y Y<|Xr [_] Y call29 Y V (yh c3) ?_;rw [hp3];refine Yg (DL (n:=1) Y Y)<|Zv (AZ Y Y)<|Za Y<|Z0<|Zn [1,2,3,5,9,10,11,12,13,14,15,17,18] ?_;refine Zx<|Zq<|Zg<|Zm Y<|Zm Y<|Zo Wh (AA (cs:=#[_,_,_,_,_,_,_]) AX9 AV8 Y Ao9 (by exact BD V)) ?_;refine Zc [_,_,_,_] Y call15 Y V (IY hRI hx.b.ok Ao7 2 Ao7 Sv (hx.b.scan 2 Ao7 exQ) 0 Tg zg) ?_;rintro _ _ ⟨_,⟨E2,pg2,cg2,hRP2,rfl,rfl⟩,rfl⟩;have hroom4:1+((0:Nat):Int)<=c3.z.fr:=by
   have h9:=Qg L3.ok.tookb (B:=0) (by rw [hPL3];simp);rw [hit3,hcap3]at h9;simp at h9⊢;omega
  refine Zc [_,_] Y call14 Y rfl (Vn hx.b L3 Sv (k:=0) (by rw [hns3];decide) Ao9 (a:=2) Ao7 hRP2 (by have:=hnx3;omega) (by rw [hit3];decide) (n:=0) (fun b hb=>by rw [TB];decide) hroom4 Tp zp) ?_;rintro _ _ ⟨_,⟨b4,c4,rfl,L4,hlk4,hnn4,hP4,rfl⟩,rfl⟩;obtain ⟨rfl,y4,hi4,hq4,hk4,hb4,hsz4⟩:=Pf hit3 hPL3 Ao7 hP4;rw [<-hlk4.cp];have hns4:c4.ns=1:=hlk4.ns.trans hns3
  have hcap4:c4.z.cap=10:=hlk4.cap.trans hcap3;have hnx4:c4.next<=14:=by omega
  refine Za Y<|Z0<|Zx<|Zq<|Zg<|Zm Y<|Zm Y ?_;have hgw:=jK L4.ok (x:=y4) (by rw [hi4];simp) (by rw [hb4,L4.pos];omega)
  rw [hk4]at hgw;refine Xr [_,_] Y call17 Y V (hgw) ?_;refine Zm Y<|Zd Y V<|Zd Y V<|Ze (Al AY8 #[_,_,_,_,_,_,_,_,_,_,_,_,_,_,_]) ?_;rintro _ _ ⟨bc,rfl,rfl⟩;refine Xe (Xw Ab5 #[I4 0,I4 0,I4 0,I4 0,I4 0,I4 0,I4 0,.slice none 0 0,I4 0,.bool false,I4 0,I4 0,I4 0,.slice none 0 0,.slice none 0 0]) ?_;refine Za Y<|Z0<|Zn [1,3,5,9,10,11,12,13,14,15,17,18,19,21] ?_;refine Zx<|Zq<|Zg<|Zm Y<|Zm Y<|Bq (Ai (j:=1) AV9 AX5 Y Y Ao7)<|CW (Gc Wo (hmm)) (AA (cs:=#[I4 r2.p,.slice r2.q r2.cs.length r2.cap]) Ad7 AX5 Y Ao7 (by exact hexm)) V rfl ?_;refine Zc [_,_] Y call16 Y V (bP hx.b L4 hr2 hch2) ?_;rintro _ _ ⟨_,⟨c5,q52,cap52,zs5,tv5,sT5,rfl,L5,hA5,hrw5,rfl⟩,rfl⟩;have hr2p:r2.p=c4.pos+1:=(L4.next hx.b hr2).2
  rw [L4.pos]at hr2p;have hzz5:zs5=[]:=rE hA5 fun x hx9=>by rw [hi4]at hx9;rw [zI.1 hx9,hb4];omega
  rw [hzz5]at hrw5;obtain ⟨pk5,ck5,rfl⟩:=eF hrw5 (n:=0) rfl;rw [<-hA5.cp];obtain ⟨y5,hi5,hq5,hk5,hb5⟩:=Vv hA5 hi4 (by rw [hb4];omega) (by rw [hq4];decide);rw [hq4]at hq5;rw [hk4]at hk5;rw [hb4]at hb5;have hns5:c5.ns=1:=hA5.ns.trans hns4
  have hcap5:c5.z.cap=10:=hA5.cap.trans hcap4;have hnx5:c5.next<=15:=by rw [hA5.next];omega
  refine Zm Y<|Zd Y V<|Zd Y V<|Za Y<|Za Y<|Z0<|Zx<|Zq<|Zg<|Zm Y<|Zm Y ?_;have hget5:=Qj L5.ok (x:=y5) (by rw [hi5];simp) (by rw [hb5,L5.pos];omega)
  rw [hk5]at hget5;refine Zc [_,_] Y call17 Y V (hget5) ?_;rintro _ _ ⟨_,⟨z5,l5,s5,hz5,hpc5,hzo5,rfl,rfl⟩,rfl⟩;obtain ⟨a5,e51,e52,e53,e54,e55⟩:=L5.at hx.b (x:=y5) (by rw [hi5];simp);obtain rfl:a5=2:=by omega
  have hv5:z5.a.res.val=2:=by rw [hz5];show y5.res.val=2;rw [(e55 Ao7).1,hq5];exact hx.e2
  have hbs5:z5.a.base=2:=by rw [hz5];show y5.base=2;rw [hb5];rfl
  refine Zm Y<|Zd Y V<|Zd Y V<|Ze (Al AY8 #[_,_,_,_,_,_,_,_,_,_,_,_,_,_,_]) ?_;rintro _ _ ⟨bd,rfl,rfl⟩;refine Xe (Xw Ab5 #[I4 z5.a.q.kd,I4 z5.a.q.tb,I4 z5.a.q.cl,I4 z5.a.q.lo,I4 z5.a.q.hi,I4 z5.a.q.bq,I4 z5.a.q.ot,.slice z5.rp z5.a.res.rows.length z5.rc,I4 z5.a.res.val,.bool z5.a.res.fnd,I4 z5.a.since,I4 z5.a.until_,I4 z5.a.base,.slice z5.gp z5.a.ranges.length z5.gc,.slice z5.cp z5.a.recs.length z5.cc]) ?_;refine Za Y<|Z0<|Zn [3,5,9,10,11,12,13,14,15,17,18,19,21,22,24,25] ?_;refine Zx<|Zq<|Zg<|Zm Y<|Zm Y<|Aj (t:=133) Y V (fun g1=>?_) (fun g1=>?_)
  ·
   refine Zf Y Y<|Zv (AZ Y Y)<|Zm Y<|Aj (t:=136) Y V (fun g2=>?_) (fun g2=>?_)
   ·
    refine Yf 7 AY4 V rfl AU3 Y<|Yg (Ar (off:=1) AU6 V rfl AU1 Y)<|Yl AU2 Y ?_;refine Yg (CL Y Y)<|Zv (AZ Y Y)<|Zm Y<|Ak (t:=142) Y V (fun g3=>?_) (fun g3=>?_)
    ·
     refine Yf 11 AY4 V rfl AU1 Y<|Yl AU2 Y ?_;refine Yg (CL Y Y)<|Zv (AZ Y Y)<|Zm Y<|Ak (t:=147) Y V (fun g4=>?_) (fun g4=>?_)
     ·
      refine Zf Y Y<|Yg (DL (n:=0) Y Y)<|Zv (AZ Y Y)<|Zm Y<|Ak (t:=151) Y V (fun g5=>?_) (fun g5=>?_)
      ·
       refine Zf Y Y<|Yg (Aa AV1 Y)<|Yg (DL (n:=1) Y Y)<|Zv (AZ Y Y)<|Zm Y<|Ak (t:=156) Y V (fun g6=>?_) (fun g6=>?_)
       ·
        refine Zf Y Y ?_
        (refine Kg Y (Ba (j:=0) AV1 AY6 Y Y ?_) rfl rfl ?_;(focus (first|omega|decide|(simp;done))))
        refine Yl Af1 Y (hv:=by exact hct0) ?_;refine Zf Y Y<|Yg (iR Y Y)<|Zv (AZ Y Y)<|Za Y<|Z0<|Zn [5,14,15,17,18,19,21,22,24,25,26] ?_;refine Zx<|Zq<|Zg<|Zm Y<|Zm Y<|Aj (t:=164) Y V (fun g8=>?_) (fun g8=>?_)
        ·
         refine Yf 7 AY4 V rfl AU3 Y<|Yg (Ar (off:=1) AU6 V rfl AU1 Y)<|Yl AU2 Y ?_;refine Yg (CL Y Y)<|Zv (AZ Y Y)<|Zm Y<|Ak (t:=170) Y V (fun g9=>?_) (fun g9=>?_)
         ·
          refine Yf 10 AY4 V rfl AU1 Y<|Yl AU2 Y ?_;refine Yg (CL Y Y)<|Zv (AZ Y Y)<|Zm Y<|Ak (t:=175) Y V (fun g10=>?_) (fun g10=>?_)
          ·
           refine Yf 14 AY4 V rfl Ae8 Y<|Yl Ak3 Y ?_;refine Yg (Aa AV9 Y)<|Yg (DL (n:=1) Y Y)<|Zv (AZ Y Y)<|Zm Y<|Ak (t:=181) Y V (fun g11=>?_) (fun g11=>?_)
           ·
            refine Zf Y Y<|Yg (DL (n:=180) Y Y)<|Zv (AZ Y Y)<|Za Y<|Z0<|Zn [5,18,19,21,22,24,25,26,27] ?_;refine Zx<|Zq<|Zg<|Zm Y<|Zm Y<|Ak (t:=186) Y V (fun m1=>?_) (fun m1=>?_)
            ·
             refine Zf Y Y<|Zv (AZ Y Y)<|Zm Y<|Ak (t:=189) Y V (fun m2=>?_) (fun m2=>?_)
             ·
              refine Zf Y Y<|Zv (AZ Y Y)<|Zm Y<|Ak (t:=192) Y V (fun m3=>?_) (fun m3=>?_)
              ·
               refine Zf Y Y<|Zv (AZ Y Y)<|Zm Y<|Aj (t:=195) Y V (fun m4=>?_) (fun m4=>?_)
               ·
                refine Zf Y Y<|Yg (Br Y)<|Zv (AZ Y Y)<|Zm Y<|Aj (t:=199) Y V (fun m5=>?_) (fun m5=>?_)
                ·
                 refine Zf Y Y<|Yg (Aa AV1 Y)<|Yg (DL (n:=0) Y Y)<|Zv (AZ Y Y)<|Zm Y<|Ak (t:=204) Y V (fun m6=>?_) (fun m6=>?_)
                 ·
                  refine Zf Y Y<|Zv (AZ Y Y)<|Zm Y<|Aj (t:=207) Y V (fun m7=>?_) (fun m7=>?_)
                  ·
                   refine Yf 7 AY4 V rfl AU3 Y<|Yg (Ar (off:=1) AU6 V rfl AU1 Y)<|Yl AU2 Y ?_;refine Yg (CL Y Y)<|Zv (AZ Y Y)<|Zm Y<|Ak (t:=213) Y V (fun m8=>?_) (fun m8=>?_)
                   ·
                    refine Yf 12 AY4 V rfl AU1 Y<|Yl AU2 Y ?_;refine Yg (CL Y Y)<|Zv (AZ Y Y)<|Zm Y<|Ak (t:=218) Y V (fun m9=>?_) (fun m9=>?_)
                    ·
                     refine Zf Y Y<|Xr [_,_] Y call30 Y rfl (xe (k:=0) L5.ok.tookb (by rw [hns5];decide)) ?_;rw [rY L5.ok.tookb hns5 hi5 (fun e he=>hsz4 e (hA5.PL e he))];refine Yg (DL (n:=1) Y Y)<|Zv (AZ Y Y)<|Za Y<|Z0<|Zn [0] ?_;refine Zx<|AC<|AL V results8 Y (by exact ⟨V,V⟩)
                    exact absurd hbs5 m9
                   exact absurd hv5 m8
                  cases m7
                 exact absurd V m6
                cases m5
               cases m4
              exact absurd V m3
             exact absurd V m2
            exact absurd V m1
           exact absurd hn2 g11
          exact absurd hs2 g10
         exact absurd hv2 g9
        cases g8
       exact absurd V g6
      exact absurd V g5
     exact absurd hu1 g4
    exact absurd hv1 g3
   cases g2
  cases g1
 exact absurd V k4
def wC(c y:Chg):Bool:=decide (y.t=c.t/\y.k=c.k)
def xL(cs:List Chg)(c:Chg)(k n:Nat):Prop:=cs.any (wC c)=true\/(c.had=true/\c.has=true/\c.o=c.n)\/(0<k/\n%5=0)
instance(cs:List Chg)(c:Chg)(k n:Nat):Decidable (xL cs c k n):=inferInstanceAs(Decidable (_\/_))
def wZ(c y:Chg):Prop:=c.t<y.t\/y.t=c.t/\c.k<y.k
instance(c y:Chg):Decidable (wZ c y):=inferInstanceAs(Decidable (_\/_))
noncomputable instance(rs:List AQ)(p q:Int)(cs:List Chg):Decidable (QN rs p q cs):=Classical.propDecidable _
end Go.Proofs.YteaiajghbkenoaaGreatDoor
namespace Go.Proofs.YteaiajghbkenoaaGreatDoor
open Go.Proofs.Tryz
open Go Go.RowKit Gw
set_option maxRecDepth 100000
attribute [local irreducible] Gw.At Gw.Nx Gw.Ops
open Go.ChangeShapes Go.WideShapes Go.Deep
section
variable{H:Type}{enc:TypeId×Value->H}{P:Program}{w:World}{base:Nat}{held:Bool}
end
def VK(w:World):List A8:=(List.range w.heap.size).filterMap fun b=>(w.heap[b]?).map fun o=>(b,o)
theorem Uh{w:World}{b:Nat}{o:Obj}:(b,o)∈VK w↔w.heap[b]?=some o:=by
 unfold VK;rw [AI0];constructor
 · rintro ⟨a,_,ha⟩
   obtain ⟨o',h1,h2⟩:=Option.map_eq_some_iff.1 ha;injection h2 with e1 e2
   subst e1 e2;exact h1
 · intro h
   refine ⟨b,?_,by rw [h];rfl⟩;rw [AD6];rcases AB1 b w.heap.size with h1|h1
   · exact h1
   · simp [AA9 h1]at h
theorem ZJ(w:World):((VK w).map (·.1)).Nodup:=by
 have:∀l:List Nat,((l.filterMap fun b=>(w.heap[b]?).map fun o=>(b,o)).map (·.1)).Sublist l:=by
  intro l;induction l with
  |nil=>simp
  |cons a l ih=>
   rw [AN7];cases h:w.heap[a]?with
   |none=>simp only [Option.map_none];exact ih.cons a
   |some o=>simp only [AG6,zx];exact ih.cons_cons a
 exact List.Nodup.sublist (this _) AN3
def XK(w:World)(ks:List Nat):List A8:=(VK w).filter fun c=>!ks.contains c.1
theorem Xk{w:World}{ks:List Nat}{b:Nat}{o:Obj}(h:w.heap[b]?=some o)(hk:b∉ks):(b,o)∈XK w ks:=by
 unfold XK;rw [AA2];exact ⟨Uh.2 h,by simp [hk]⟩
theorem jH{P:Program}{f:FuncId}{args:Array Value}{v:Value}{w:World}(L:List A8)(hL:∀c∈L,w.heap[c.1]?=some c.2)(hn:(L.map (·.1)).Nodup){H:Hp}(hH:H.flatten=L++XK w (L.map (·.1)))(h:BJ P f args H v):
 Calls P f args w fun e w'=>e= .returned v/\Below w.heap.size w w':=by
 have hsat:Sat w (H++[]) w:=by
  refine ⟨V,V,V,?_,?_⟩
  · rw [zV,hH,zK,AA5]
    refine ⟨hn,?_,?_⟩
    · exact List.Nodup.sublist (AF5.map _) (ZJ w)
    · intro a ha b hb e
      subst e;obtain ⟨c,hc,rfl⟩:=zQ.1 hb;unfold XK at hc;have:=(AA2.1 hc).2
      simp only [AG0,List.contains_eq_mem,An0]at this;exact this ha
  · intro p hp
    rw [zV,hH,zJ]at hp;rcases hp with hp|hp
    · exact hL p hp
    · exact Uh.1 (AA2.1 hp).1
 refine Calls.mono (h w [] w hsat) fun e w' he=>?_;rcases he with⟨v',H',rfl,⟨rfl,rfl⟩,hs⟩|⟨_,_,_,hf,_⟩
 · refine ⟨rfl,hs.os,hs.tape,hs.output,?_,?_⟩
   · rcases AG3 w.heap.size with h0|h0
     · omega
     · have hlt:w.heap.size -1<w.heap.size:=by omega
       have hg:w.heap[w.heap.size -1]?=some w.heap[w.heap.size -1]:=zn hlt;have:w'.heap[w.heap.size -1]?=some w.heap[w.heap.size -1]:=by
        by_cases hk:(w.heap.size -1)∈L.map (·.1)
        · obtain ⟨c,hc,hk⟩:=zQ.1 hk
          have h1:=hs.get c (by rw [zV,hH];exact zR _ hc);have h2:=hL c hc
          rw [hk]at h1 h2;rw [h1,<-h2,hg]
        · exact hs.get (_,_) (by rw [zV,hH];exact zZ _ (Xk hg hk))
       rcases AB1 (w.heap.size -1) w'.heap.size with h1|h1
       · omega
       · rw [AA9 h1]at this;cases this
   · intro k hk
     have hg:w.heap[k]?=some w.heap[k]:=zn hk;by_cases hm:k∈L.map (·.1)
     · obtain ⟨c,hc,rfl⟩:=zQ.1 hm
       have h1:=hs.get c (by rw [zV,hH];exact zR _ hc);rw [h1,hL c hc]
     · rw [hg]
       exact hs.get (_,_) (by rw [zV,hH];exact zZ _ (Xk hg hm))
 · exact hf.elim
theorem Wv{P:Program}{w:World}{n:String}{g:Nat}{cs:Array Value}(hg:P.globalNamed n=some g)(h:w.var? P n=some cs):∃T z,w.heap[g]?=some (.cells cs T z):=by
 unfold World.var? at h;rw [hg,AC4]at h;split at h
 · rename_i c T z hc
   injection h with e
   subst e;exact ⟨T,z,hc⟩
 · cases h
theorem oo:Tryz.prog.globalNamed "cachetier/digest.round"=some 4:=by kernel_rfl
theorem vX:(Tryz.prog.globals[4]?).map (·.type)=some 431:=by kernel_rfl
theorem c32:Tryz.prog.cellsOf 300=1:=by kernel_rfl
theorem yu:Tryz.prog.cellsOf 431=64:=by kernel_rfl
theorem xw:Tryz.prog.globalNamed "internal/strconv.uint64pow10"=some 1:=by kernel_rfl
theorem yU:(Tryz.prog.globals[1]?).map (·.type)=some 359:=by kernel_rfl
theorem c64:Tryz.prog.cellsOf 302=1:=by kernel_rfl
theorem yw:Tryz.prog.cellsOf 359=20:=by kernel_rfl
def lu:List Int:=EW.map fun x=>(x.toNat:Int)
theorem aJ:(Rows.laid_cachetier_digest_round:DataW Unit)=Lib.tabData .u32 lu:=by kernel_rfl
theorem XI:(lu.map fun z=>Value.int .u32 z).toArray=(EW.map Ch).toArray:=by kernel_rfl
theorem mY:(Rows.laid_internal_strconv_uint64pow10:DataW Unit)=Lib.tabData .u64 Lib.pow10Tab:=by kernel_rfl
def qX(W:World)(Tg:TypeId)(zg:Nat×Nat)(Tp:TypeId)(zp:Nat×Nat):Prop:=W.heap[4]?=some (.cells (EW.map Ch).toArray Tg zg)/\W.heap[1]?=some (.cells (Lib.pow10Tab.map fun z=>Value.int .u64 z).toArray Tp zp)
theorem nQ{a b:String×DataW Unit}{r:List (String×DataW Unit)}{W:World}(h:laidMet Tryz.prog (a::b::("internal/strconv.uint64pow10",Rows.laid_internal_strconv_uint64pow10)::("cachetier/digest.round",Rows.laid_cachetier_digest_round)::r) W):
 ∃Tg zg Tp zp,qX W Tg zg Tp zp:=by
 have h1:=h.tail.tail;have h3:=h1.tail
 rw [mY]at h1;rw [aJ]at h3;have h2:=Lib.tabIs_of_head xw yU underlying359 Ac2 c64 yw h1
 have h5:=Lib.tabIs_of_head oo vX Ab3 Aa6 c32 yu h3;unfold Lib.TabIs at h2 h5;rw [XI]at h5;obtain ⟨Tg,zg,hb⟩:=Wv oo h5;obtain ⟨Tp,zp,hc⟩:=Wv xw h2;exact ⟨Tg,zg,Tp,zp,hb,hc⟩
theorem tT{f:FuncId}{args:Array Value}{v:Value}{W:World}{Tg Tp:TypeId}{zg zp:Nat×Nat}(h4:qX W Tg zg Tp zp)
 (h:BJ Tryz.prog f args [[(4,.cells (EW.map Ch).toArray Tg zg)],[(1,.cells (Lib.pow10Tab.map fun z=>Value.int .u64 z).toArray Tp zp)],XK W [4,1]] v):
 Calls Tryz.prog f args W fun e w'=>e= .returned v/\Below W.heap.size W w':=
 jH [(4,.cells (EW.map Ch).toArray Tg zg),(1,.cells (Lib.pow10Tab.map fun z=>Value.int .u64 z).toArray Tp zp)] (by
  intro c hc;simp only [za,AH2,An6]at hc;rcases hc with rfl|rfl
  · exact h4.1
  · exact h4.2) Ap0 Ap0 h
section
variable{H:Type}{enc:TypeId×Value->H}{P:Program}{W:World}{base:Nat}{held:Bool}
end
open Go.ChangeShapes Go.WideShapes Go.Deep
end Go.Proofs.YteaiajghbkenoaaGreatDoor
namespace Go.Proofs.YteaiajghbkenoaaGreatDoor
open Go.Proofs.Tryz
open Go Go.RowKit Gw
set_option maxRecDepth 100000
attribute [local irreducible] Gw.At Gw.Nx Gw.Ops
def MO:Nat->Chg
 |0=>⟨1,7,false,⟨0,0,0⟩,true,⟨1,1,1⟩⟩
 |k+1=>⟨1,7,true,⟨((k+1:Nat):Int),1,1⟩,true,⟨((k+2:Nat):Int),1,1⟩⟩
def O5:Nat->List AQ
 |0=>[]
 |k+1=>[⟨1,7,⟨((k+1:Nat):Int),1,1⟩⟩]
theorem xM:∀k,Es (O5 k) (MO k)=O5 (k+1)
 |0=>rfl
 |_+1=>rfl
theorem yB:∀k,IG (O5 k) (MO k)
 |0=>⟨rfl,fun h=>by cases h⟩
 |_+1=>⟨rfl,fun _=>rfl⟩
theorem xX:∀k,k<=1000->(MO k).ok
 |0,_=>by decide
 |k+1,h=>by
  refine ⟨?_,?_,.inl V,.inl V⟩
  · rintro (⟨h1,_⟩|⟨_,_,h1⟩)
    · exact h1 rfl
    · have h2:((k+1:Nat):Int)=((k+2:Nat):Int):=congrArg V3.a h1
      omega
  · rintro (⟨_,h1⟩|⟨_,h1⟩)
    · exact h1 ⟨⟨⟨by show-1000000000<=((k+1:Nat):Int);omega,by show((k+1:Nat):Int)<=_;omega⟩,(by decide:inV 1),(by decide:inV 1)⟩,(by decide:(0:Int)<=1/\(1:Int)<=3),(by decide:(1:Int)<=7/\(7:Int)<=1000000)⟩
    · exact h1 ⟨⟨⟨by show-1000000000<=((k+2:Nat):Int);omega,by show((k+2:Nat):Int)<=_;omega⟩,(by decide:inV 1),(by decide:inV 1)⟩,(by decide:(0:Int)<=1/\(1:Int)<=3),(by decide:(1:Int)<=7/\(7:Int)<=1000000)⟩
def Lh(l:List BN):Prop:=∀(i:Nat) (r:BN),l[i]?=some r->r.p=(i:Int)+1/\r.cs=[MO i]
theorem Ng{l:List BN}(h:Lh l):∀k,k<=l.length->Bg (l.take k)=O5 k
 |0,_=>by rw [AC9];rfl
 |k+1,hk=>by
  obtain ⟨r,hr⟩:∃r,l[k]?=some r:=⟨_,zD Ao7⟩;rw [Bc hr,GH,Ng h k Ao7,(h k r hr).2];exact xM k
theorem PG:∀k,(O5 k).length<=1
 |0=>zT _
 |_+1=>zh _
theorem rR{l:List BN}(h:Lh l)(hl:l.length<=1000):KY l:=by
 have hok:FL l:=fun i r hr=>by
  obtain ⟨h1,h2⟩:=h i r hr;have hi:=(zF.1 hr).1
  rw [Ng h i Ao7,h2];refine ⟨⟨⟨by omega,⟨zh _,by show 1<=8;decide⟩,fun j c hc=>?_,fun j b c hb hc=>by simp at hc⟩,h1,fun c hc=>by rw [zI.1 hc];exact yB i,?_⟩,by show 1<=3;decide⟩
  · match j,hc with
    |0,hc=>injection hc with hc;rw [<-hc];exact xX i Ao7
    |j+1,hc=>simp at hc
  · have h3:=(RB (O5 i) [MO i] 1).2
    have h4:=PG i;have h5:[MO i].take 1=[MO i]:=rfl
    rw [h5]at h3;omega
 refine ⟨hok,hl,fun a ha q=>?_⟩;rw [Ng h a ha];have h1:=PG a
 have h2:=(@KC (O5 a) q.tb q.cl.toNat q.lo q.hi).1;unfold CF;omega
def wq(t:Int):QM:=⟨1,t,0,7,7,0,0⟩
theorem Ij{t:Int}(h:t=0\/t=1):BH (wq t):=by rcases h with rfl|rfl<;>decide
theorem lG:∀k,CU (wq 1) (MO k)=true
 |0=>by decide
 |_+1=>rfl
theorem lH:∀k,CU (wq 0) (MO k)=false
 |0=>by decide
 |_+1=>rfl
theorem Wz{l:List BN}(h:Lh l)(hl:l.length<=1000){i:Nat}{r:BN}(hr:l[i]?=some r)(q:QM):Kt q r=CU q (MO i):=by
 have hi:=(zF.1 hr).1;have h2:=(h i r hr).2
 rw [gH (fun c hc=>by rw [h2]at hc;rw [zI.1 hc];exact xX i Ao7),h2];simp
theorem Su{l:List BN}(h:Lh l)(q:QM):∀b,b<=l.length->(Cc (Bg (l.take b)) q).rows.length<=2:=fun b hb=>by
 rw [Ng h b hb];have h1:=PG b
 have h2:=(@KC (O5 b) q.tb q.cl.toNat q.lo q.hi).1;have h3:=jq (O5 b) q
 unfold CF at h3;omega
theorem o5{l:List BN}(hB:KY l){a b:Nat}(hb:b<=l.length):∀(k:Nat) (x:BN),(Kc l a b)[k]?=some x->(a:Int)<=9223372036854775806 -((0+k:Nat):Int)/\x.p=(a:Int)+1+((0+k:Nat):Int):=fun k x hk=>by
 obtain ⟨h1,h2⟩:=mh hk;have h3:x.p=((a+k:Nat):Int)+1:=(hB.ok _ x h1).1.pos
 have h4:=(zF.1 h1).1;have h5:=hB.len
 exact ⟨by omega,by rw [h3];push_cast;omega⟩
theorem GI{l:List BN}(hB:KY l){P:Nat}{c:CZ}(hP:P<=l.length){q:QM}(hk:1<=q.kd/\q.kd<=4){a:Nat}:TM l P c q a↔P -a<=c.win.length:=⟨fun h=>h.1,fun h=>⟨h,RO hk _ 0 _ (o5 hB hP)⟩⟩
theorem Wm{W W':List BN}{r:BN}{P:Nat}(h:Ic W W' r)(hl:W.length=min P 64):W'.length=min (P+1) 64:=by
 rcases h with⟨rfl,h1⟩|⟨rfl,h1⟩
 · rw [zG,zU];omega
 · rw [zO,zG,zU];omega
theorem Y8{c d:CZ}{p:Int}{cs:List Chg}{q2:Option Addr}{cap2:Nat}{zs:List ByteArray}(hA:Ho c d p cs q2 cap2 zs)(h:∀x∈c.its,x.base<p -64):d.its=[]:=AM0.2 fun y hy=>by
 obtain ⟨h1,x,hx,hc,_⟩:=hA.i1 y hy;obtain ⟨_,_,_,_,e,_⟩:=Hm hc;have:=h x hx
 omega
structure df(l:List BN)(P:Nat)(q:QM)(c:CZ):Prop where
 law:Ie l P c
 wl:c.win.length=min P 64
 its:(P<=64/\∃y,c.its=[y]/\y.q=q/\y.key=str (CV q)/\y.base=((0:Nat):Int))\/(64<P/\c.its=[])
 sz:∀e∈c.PL,e.sz<=3
 cap:c.z.cap=10
 ns:c.ns=1
 next:c.next<=1
theorem fu{l:List BN}(hB:KY l){P:Nat}{q:QM}{c d:CZ}(hk:1<=q.kd/\q.kd<=4)(h:df l P q c){r:BN}(hr:l[P]?=some r)(hL:Ie l (P+1) d){q2:Option Addr}{cap2:Nat}{zs:List ByteArray}(hA:Ho c d r.p r.cs q2 cap2 zs):df l (P+1) q d:=by
 have hrp:=(h.law.next hB hr).2;rw [h.law.pos]at hrp;refine ⟨hL,Wm hA.win h.wl,?_,fun e he=>h.sz e (hA.PL e he),hA.cap.trans h.cap,hA.ns.trans h.ns,by rw [hA.next];exact h.next⟩;rcases h.its with⟨h1,y,h2,h3,h4,h5⟩|⟨h1,h2⟩
 · by_cases h6:P+1<=64
   · obtain ⟨y2,g1,g2,g3,g4⟩:=Vv hA h2 (by rw [h5];omega) (by rw [h3];exact hk)
     exact .inl ⟨h6,y2,g1,g2.trans h3,g3.trans h4,g4.trans h5⟩
   · refine .inr ⟨by omega,Y8 hA fun x hx=>?_⟩
     rw [h2]at hx;rw [zI.1 hx,h5];omega
 · exact .inr ⟨by omega,Y8 hA fun x hx=>by rw [h2]at hx;cases hx⟩
theorem df.key{l:List BN}{P:Nat}{q:QM}{c:CZ}(h:df l P q c):∀x∈c.its,x.key=str (CV q):=fun x hx=>by
 rcases h.its with⟨_,y,h2,_,h4,_⟩|⟨_,h2⟩
 · rw [h2]at hx;rw [zI.1 hx];exact h4
 · rw [h2]at hx;cases hx
theorem KL{c:CZ}(h:c.okb){K:ByteArray}(hk:∀x∈c.its,x.key=K):c.its.length<=1:=by
 have hn:=h.its.keys
 match hE:c.its,hn with
 |[],_=>exact zT _
 |[_],_=>exact zh _
 |a::b::L,hn=>
  have h1:=hk a (by rw [hE];simp);have h2:=hk b (by rw [hE];simp)
  simp only [zx,AB9,za,h1,h2,true_or,not_true_eq_false,false_and]at hn
theorem Jh{c:CZ}(h:c.okb){K:ByteArray}(hk:∀x∈c.its,x.key=K)(hs:∀e∈c.PL,e.sz<=3)(hc:c.z.cap=10):1+((2:Nat):Int)<=c.z.fr:=by
 have h1:=Qg h hs;have h2:=KL h hk
 rw [hc]at h1;omega
theorem Jm{l:List BN}{P:Nat}{c d:CZ}{q:QM}{tn:Int}{a:Nat}{b:Bool}(h:wy l P c d q tn a 2 b)(hk:∀x∈c.its,x.key=str (CV q))(hs:∀e∈c.PL,e.sz<=3):(∀x∈d.its,x.key=str (CV q))/\(∀e∈d.PL,e.sz<=3)/\(b=true↔TM l P c q a):=by
 rcases h with⟨rfl,rfl,h⟩|⟨rfl,hr,h2,⟨rfl,_⟩|⟨_,y,h3,h4,_⟩⟩
 · exact ⟨hk,hs,(fun h9=>nomatch h9),fun h9=>absurd h9 h⟩
 · exact ⟨hk,hs,fun _=>hr,fun _=>rfl⟩
 · refine ⟨fun x hx=>?_,fun e he=>?_,fun _=>hr,fun _=>rfl⟩
   · rw [h3]at hx
     rcases zJ.1 hx with hx|hx
     · exact hk x (AA2.1 hx).1
     · rw [zI.1 hx];unfold ItM.key;rw [h4]
   · rcases h2 e he with h9|h9
     · exact hs e h9
     · omega
theorem rT{l:List BN}(hW:Lh l)(hB:KY l){q:QM}{t:Int}(hq:q=wq t)(ht:t=0\/t=1){c:CZ}{P:Nat}(h:df l P q c)(h0:0<P):BR Tryz.prog 17 #[.pointer (some ⟨c.cp,0,none⟩),.string (str (CV q))] [c.mem] (fun r H'=>∃s,((P<=64/\∃z:U1,z.a.recs.length=P/\z.a.until_=(P:Int)/\(t=1->z.a.since=(P:Int))/\(t=0->z.a.since=0)/\r= .tuple #[.agg #[I4 z.a.q.kd,I4 z.a.q.tb,I4 z.a.q.cl,I4 z.a.q.lo,I4 z.a.q.hi,I4 z.a.q.bq,I4 z.a.q.ot,.slice z.rp z.a.res.rows.length z.rc,I4 z.a.res.val,.bool z.a.res.fnd,I4 z.a.since,I4 z.a.until_,I4 z.a.base,.slice z.gp z.a.ranges.length z.gc,.slice z.cp z.a.recs.length z.cc],.bool true])\/(64<P/\r= .tuple #[.agg #[I4 0,I4 0,I4 0,I4 0,I4 0,I4 0,I4 0,.slice none 0 0,I4 0,.bool false,I4 0,I4 0,I4 0,.slice none 0 0,.slice none 0 0],.bool false]))/\H'=[c.mem,s]):=by
 have hle:=h.law.le;rcases h.its with⟨h1,y,h2,h3,h4,h5⟩|⟨h1,h2⟩
 · have hg:=Qj h.law.ok (x:=y) (by rw [h2];simp) (by rw [h5,h.law.pos];omega)
   rw [h4]at hg;refine hg.mono ?_;rintro r H' ⟨z,l9,s,hz,hpc,hzo,rfl,rfl⟩;obtain ⟨a,e1,e2,e3,e4,_⟩:=h.law.at hB (x:=y) (by rw [h2];simp);obtain rfl:a=0:=by omega
   obtain ⟨f1,f2,f3,f4⟩:=e4 Ao7;obtain ⟨⟨a1,a2⟩,a3,a4⟩:=f3;rw [h3]at a3 a4;have hlen:l9.length=P:=by
    have h9:=congrArg List.length hpc;rw [zH,zH,Kn (by rw [h.law.pos,h5];omega),h.law.pos,h5]at h9;omega
   refine ⟨s,.inl ⟨h1,z,by rw [hz];exact hlen,by rw [hz];exact h.law.pos,fun h9=>?_,fun h9=>?_,rfl⟩,rfl⟩
   · rw [hz]
     show y.since=_;rcases (by omega:y.since=(P:Int)\/y.since<=((P -1:Nat):Int))with h8|h8
     · exact h8
     · obtain ⟨x,hx⟩:∃x,l[P -1]?=some x:=⟨_,zD Ao7⟩
       have h7:=a4 (P -1) x h8 Ao7 hx;rw [Wz hW hB.len hx,hq,h9,lG]at h7;cases h7
   · rw [hz]
     show y.since=0;rcases Int.lt_or_le 0 y.since with h8|h8
     · obtain ⟨j,x,_,hx,h7⟩:=a3 Ao7
       rw [Wz hW hB.len hx,hq,h9,lH]at h7;cases h7
     · omega
 · refine Dz (tY h.law.ok (K:=str (CV q)) (fun x hx=>by rw [h2]at hx;cases hx)) [] Ap0 ?_
   rintro r H' ⟨rfl,rfl⟩;exact ⟨_,⟨[],.inr ⟨h1,V⟩,V⟩,by simp⟩
theorem gB{k:Nat}(h:1<k+1):(⟨1,7,decide (1<k+1),⟨((k+1 -1:Nat):Int),1,1⟩,true,⟨((k+1:Nat):Int),1,1⟩⟩:Chg)=MO k:=by
 cases k with
 |zero=>omega
 |succ k=>rw [Am8 h];rfl
theorem gD{k:Nat}(h:¬1<k+1):(⟨1,7,decide (1<k+1),⟨0,0,0⟩,true,⟨((k+1:Nat):Int),1,1⟩⟩:Chg)=MO k:=by
 cases k with
 |zero=>rfl
 |succ k=>omega
theorem Wq{l:List BN}{k:Nat}(h:Lh l)(hl:l.length=k)(g:Option Addr):Lh (l++[⟨((k+1:Nat):Int),g,1,[MO k]⟩]):=fun i r hr=>by
 rcases AB1 i l.length with h1|h1
 · rw [AE6 h1]at hr;exact h i r hr
 · rw [AC1 h1]at hr
   have h2:i -l.length=0:=by
    have:=(zF.1 hr).1;simp at this;omega
   rw [h2]at hr;injection hr with hr
   subst hr;obtain rfl:i=k:=by omega
   exact ⟨by show(((i+1:Nat)):Int)=_;push_cast;rfl,V⟩
theorem Qq(t:Int):1<=(wq t).kd/\(wq t).kd<=4:=⟨AM6 1,by show(1:Int)<=4;decide⟩
set_option maxHeartbeats 4000000 in
theorem kw(n key:Int)(hn1:-9223372036854775808<=n)(hn2:n<=9223372036854775807)(hkey1:-9223372036854775808<=key)(hkey2:key<=9223372036854775807)(Tg:TypeId)(zg:Nat×Nat)(Tp:TypeId)(zp:Nat×Nat):BJ Tryz.prog 6 #[I4 n,I4 key] [[(4,.cells (EW.map Ch).toArray Tg zg)],[(1,.cells (Lib.pow10Tab.map fun z=>Value.int .u64 z).toArray Tp zp)]] (.bool true):=by
 have hml:=mL;refine Se func6 ntmps6 [0,1] ?_;intro u R;refine Zq<|Zg<|Za Y<|Z0<|Zx<|Zq<|Zg<|Xr [] Y call8 Y V (wB Tg zg Tp zp) ?_;refine Za Y<|Z0<|Zx<|Zq<|Zg<|Zm Y<|Xr [_,_] Y call12 Y V (mg n 10 Ao9 Ao9 hn1 hn2) ?_;have hpl:=XT n 10 Ao9
 refine Ya (m:=60) Y Y<|Za Y<|Z0<|Zx<|Zq ?_;obtain ⟨nr,hm⟩:∃nr,nr=60+Mf n 10:=⟨_,rfl⟩;rw [<-hm];refine Zg<|Za Y<|Z0<|Zx<|Zq<|Zq<|Zg<|Za Y<|Z0<|Zx<|AO<|BV<|BV<|Zb [6,7,0,1,5] ?_;refine BI (e0:=[(6,_),(7,_)]) (fun m e H=>∃(k:Nat) (l:List BN) (vr:Value) (sR MR:List A8),m=nr -k/\((k<=nr/\l.length=k)/\BZ 2 50 vr l.length (DZ l) sR/\(∀r∈l,Ct MR (.slice r.q r.cs.length r.cap) r.cs)/\Lh l)/\e=[(6,vr),(7,I4 ((k+1:Nat):Int))]/\H=[sR,MR]) (by exact ⟨0,[],.slice none 0 0,[],[],V,⟨⟨zT _,V⟩,Bf 2 _,fun r hr=>absurd hr Ap0,fun i r hr=>by simp at hr⟩,V,V⟩) Wp ?_;rintro _ _ _ ⟨k,l,vr,sR,MR,rfl,⟨⟨hk,hlk⟩,hR,hch,hWL⟩,rfl,rfl⟩;obtain ⟨gv,cvr,rfl⟩:=hR.form;refine Zq<|Zq<|Zg<|Zm Y<|Zm Y<|Zv (Gv Y Y)<|Z0<|Zx<|Aw Y (fun hlt=>?_) (fun hlt=>?_)
 ·
  refine AJ<|Zx<|Zq<|AO<|Zq<|Zg<|Zm Y<|Zv (Df (n:=1) Y Y)<|Zm Y<|Zv (BL (vs:=[(0,_),(1,_),(2,_)]) (cs:=#[_,_,_]) Y (Dn Ai1 Ab6 AU1 V))<|Zv (BL (vs:=[(0,I4 1),(1,I4 7),(2,.bool (decide (1<k+1))),(4,.bool true),(5,.agg #[I4 ((k+1:Nat):Int),I4 1,I4 1])]) (cs:=#[I4 1,I4 7,.bool (decide (1<k+1)),I4 0,I4 0,I4 0,.bool true,I4 ((k+1:Nat):Int),I4 1,I4 1]) Y (AY (pl:=#[(0,1),(1,1),(2,1),(3,3),(6,1),(7,3)]) Ab1 AV4 (fun _=>by kernel_rfl) Ao8))<|Ze (Al Ab1 #[_,_,_,_,_,_,_,_,_,_]) ?_;rintro _ _ ⟨bc,rfl,rfl⟩;refine Xe (Xw AW4 #[I4 1,I4 7,.bool (decide (1<k+1)),I4 0,I4 0,I4 0,.bool true,I4 ((k+1:Nat):Int),I4 1,I4 1]) ?_;refine Z0<|Zx<|Zb [0,1,5,6,7,8] ?_;refine Ea (e0:=[]) (H0:=[[(bc,.cells #[I4 1,I4 7,.bool (decide (1<k+1)),I4 0,I4 0,I4 0,.bool true,I4 ((k+1:Nat):Int),I4 1,I4 1] 69 (0,0))]]) (fun e H=>∃(o:V3),((⟨1,7,decide (1<k+1),o,true,⟨((k+1:Nat):Int),1,1⟩⟩:Chg)=MO k)/\e=[]/\H=[[(bc,.cells #[I4 1,I4 7,.bool (decide (1<k+1)),I4 o.a,I4 o.b,I4 o.c,.bool true,I4 ((k+1:Nat):Int),I4 1,I4 1] 69 (0,0))]]) Wp ?hx_2 ?hy_2
  case hx_2=>
   refine Zq<|Zg<|Zm Y<|Zv (Df (n:=1) Y Y)<|Z0<|Zx<|Aw Y (fun h36=>?_) (fun h36=>?_)
   ·
    refine Zg<|Zm Y<|Yb (n:=1) Y Y<|Zv (BL (vs:=[(0,_),(1,_),(2,_)]) (cs:=#[_,_,_]) Y (Dn Ai1 Ab6 AU1 rfl))<|Zh 3 AV4 rfl rfl AZ5 Y<|Xe (BK AZ5 Y Y (by(simp [Value.oneCell',Value.cells];done)) Wu Ap1 Ap3 (by(simp;done)) (by exact BF _)) ?_;refine Z0<|Zn [0,1,5,6,7,8] ?_;refine Bi (e':=[]) (by exact ⟨⟨((k+1 -1:Nat):Int),1,1⟩,gB h36,V,V⟩)
   refine AJ<|Zn [0,1,5,6,7,8] ?_;refine Bi (e':=[]) (by exact ⟨⟨0,0,0⟩,gD h36,V,V⟩)
  rintro _ _ ⟨o,ho,rfl,rfl⟩;refine Zg<|Zm Y<|Zm Y<|Zo Wh (AA (cs:=#[I4 1,I4 7,.bool (decide (1<k+1)),I4 o.a,I4 o.b,I4 o.c,.bool true,I4 ((k+1:Nat):Int),I4 1,I4 1]) Aa3 AW4 Y (by exact zh _) (by exact BD V)) ?_;refine Ze (Af (vs:=[_]) (cs:=[_,_,_,_,_,_,_,_,_,_]) AZ0 AW4 Ab1 Y V rfl V rfl V) ?_;rintro _ _ ⟨gc,rfl,rfl⟩;refine Zv (BL (vs:=[(0,_),(1,_)]) (cs:=#[_,_]) Y (AY (pl:=#[(0,1),(1,1)]) Ac0 AY1 (fun _=>by kernel_rfl) V))<|Ze (Af (vs:=[_]) (cs:=[_,_]) AV9 AX5 Ac0 Y V rfl V rfl V) ?_;rintro _ _ ⟨gb,rfl,rfl⟩;refine Ze (Bl (by_:=32) (sz:=2) AV9 (V:Tryz.prog.info? 50=some Tryz.t50) V rfl V rfl Y (hR) Y (DD 2 gb 1 1 50 (0,0) [I4 ((k+1:Nat):Int),I6 gc 1 1] V) Wo Wo Ap5 Ao7 Ao7) ?_;rintro _ _ ⟨sa9,hra9,rfl⟩;obtain ⟨ga9,ca9,rfl⟩:=hra9.form;refine Za Y<|Z0<|A9<|Zx<|C8 (s1:=[(gc,Obj.cells #[I4 1,I4 7,.bool (decide (1<k+1)),I4 o.a,I4 o.b,I4 o.c,.bool true,I4 ((k+1:Nat):Int),I4 1,I4 1] 69 (0,0))]) (s2:=MR) Wo Wo ?_;refine Zg<|Zm Y<|Ya (n:=1) Y Y<|Za Y<|Z0<|Zn [6,7,0,1,5] ?_;refine Ad (e':=[(6,_),(7,_)]) (by
   exact ⟨k+1,l++[⟨((k+1:Nat):Int),some ⟨gc,0,none⟩,1,[MO k]⟩],_,sa9,[(gc,Obj.cells #[I4 1,I4 7,.bool (decide (1<k+1)),I4 o.a,I4 o.b,I4 o.c,.bool true,I4 ((k+1:Nat):Int),I4 1,I4 1] 69 (0,0))]++MR,rfl,⟨⟨by omega,by rw [zG,hlk];rfl⟩,BO hra9 (by rw [zG];rfl) (by rw [IW];rfl),fun y hy=>by
    rcases zJ.1 hy with hy|hy
    · exact GZ (hch y hy) _
    · rw [zI.1 hy];exact JS (TC (c:=MO k) (.head _) (by exact zh 10) (by rw [<-ho];rfl)) MR,Wq hWL hlk _⟩,rfl,rfl⟩)
 refine BG<|Zt<|Zt<|AX<|Zx<|Zq ?_;have hkm:k=nr:=by omega
 rw [hkm]at hlk;have hRI:EA (sR++MR) (.slice gv l.length cvr) l:=Ji hR Ao7 hch
 have hB:=rR hWL Ao7;refine C8 (s1:=sR) (s2:=MR) Wo Wo ?_;obtain ⟨M,hM⟩:∃M,M=sR++MR:=⟨_,rfl⟩;rw [<-hM]at hRI⊢;refine Zg<|Zm Y<|Xr [_,_] Y call12 Y V (mg key 2 Ao9 Ao9 hkey1 hkey2) ?_;have hpl2:=XT key 2 Ao9
 refine Yb (m:=1) Y Y<|Zv (BL (vs:=[(0,I4 1),(1,I4 ((1 -Mf key 2:Nat):Int)),(3,I4 7),(4,I4 7)]) (cs:=#[I4 1,I4 ((1 -Mf key 2:Nat):Int),I4 0,I4 7,I4 7,I4 0,I4 0]) Y (AY (pl:=#[(0,1),(1,1),(2,1),(3,1),(4,1),(5,1),(6,1)]) Ad8 AU9 (fun _=>by kernel_rfl) Ao8))<|Ze (Al Ad8 #[_,_,_,_,_,_,_]) ?_;rintro _ _ ⟨bq,rfl,rfl⟩;refine Xe (Xw AV8 #[I4 1,I4 ((1 -Mf key 2:Nat):Int),I4 0,I4 7,I4 7,I4 0,I4 0]) ?_;refine Z0<|Zx<|Zq ?_;obtain ⟨t,ht⟩:∃t:Int,t=((1 -Mf key 2:Nat):Int):=⟨_,rfl⟩;rw [<-ht];have ht2:t=0\/t=1:=by omega
 refine Zg<|Zo Wh (AA (cs:=#[I4 1,I4 t,I4 0,I4 7,I4 7,I4 0,I4 0]) AX9 AV8 Y (by exact zh _) (by exact BD V)) ?_;refine Xr [_] Y call11 Y V (KF (wq t) (Ij ht2) Tp zp) ?_;refine Zm Y<|Zd Y V<|Zd Y V<|Za Y<|Za Y<|Z0<|Zn [0,5,6,9,10] ?_;refine Zx<|Zq<|Zg<|Ze (Af (vs:=[_]) (cs:=[_]) AV0 AU1 AX6 Y V rfl V rfl V) ?_;rintro _ _ ⟨gs,rfl,rfl⟩;refine Zc [_,_,_] Y call13 Y V (xg (sh:=[5]) (XG gs (I4 5)) 0 10 Ao9 Ao9 Ao9 Ao9 Ao9) ?_;rintro _ _ ⟨_,⟨c0,rfl,hc0,⟨hit0,hPL0,hw0⟩,hp0,hnx0,hns0,hcap0,rfl⟩,rfl⟩;have L0:Ie l 0 c0:=⟨hc0,hp0,zT _,by rw [hw0];exact Qu l 0,fun x hx9=>by rw [hit0]at hx9;cases hx9⟩
 refine Zm Y<|Zd Y V<|Zd Y V<|Za Y<|Za Y<|Z0<|Zx<|Zq<|Zq<|Zg<|Zm Y<|Zv (Eh (n:=0) Y Y)<|Zm Y<|Ak (t:=64) Y V (fun k1=>?_) (fun k1=>?_)
 ·
  exact absurd V k1
 refine Zf Y Y<|Zf Y Y<|FJ Y Wh (AA (cs:=#[I4 1,I4 t,I4 0,I4 7,I4 7,I4 0,I4 0]) AX9 AV8 Y (by exact zh _) (by exact BD V)) V rfl ?_;refine Zc [_,_,_,_] Y call15 Y V (IY hRI hB.ok Ao7 (0) (zT _) (Ij ht2) (hB.scan (0) (zT _) _) 0 Tg zg) ?_;rintro _ _ ⟨_,⟨E1,pg1,cg1,hRP1,rfl,rfl⟩,rfl⟩;have hroom1:1+((2:Nat):Int)<=c0.z.fr:=by
  have h9:=Qg hc0.tookb (B:=0) (by rw [hPL0];simp);rw [hit0,hcap0]at h9;simp at h9⊢;omega
 refine Zc [_,_] Y call14 Y rfl (Vn hB L0 (Ij ht2) (k:=0) (by rw [hns0];decide) Ao9 (a:=0) (zT _) hRP1 (by rw [hnx0];decide) (by rw [hit0];decide) (n:=2) (Su hWL _) hroom1 Tp zp) ?_;rintro _ _ ⟨_,⟨b1,c1,rfl,L1,hlk1,hnn1,hP1,rfl⟩,rfl⟩;obtain ⟨rfl,y1,hi1,hq1,hk1,hb1,hsz1⟩:=Pf hit0 hPL0 (zh 0) hP1;rw [<-hlk1.cp];have hW1:df l 0 (wq t) c1:=⟨L1,by rw [hlk1.win,hw0];rfl,.inl ⟨by decide,y1,hi1,hq1,hk1,hb1⟩,fun e he=>by have:=hsz1 e he;omega,hlk1.cap.trans hcap0,hlk1.ns.trans hns0,by omega⟩
 refine Yg (Br Y)<|Zv (AU Y Y)<|Z0<|Zn [0,5,6,9,10,12,71] ?_;refine Zx<|AR Y (fun k3=>?_) (fun k3=>?_)
 ·
  cases k3
 refine AJ<|Zx<|Zq<|Zq<|Zg<|Za Y<|Z0<|Zx<|AO<|Zb [14,0,5,6,9,10,12] ?_;refine BI (e0:=[(14,_)]) (fun m e H=>∃(j:Nat) (c:CZ),m=nr -j/\(j<=nr/\df l j (wq t) c/\c.cp=c1.cp)/\e=[(14,I4 (j:Int))]/\H=[c.mem]) (by exact ⟨0,c1,V,⟨zT _,hW1,V⟩,V,V⟩) Wp ?_;rintro _ _ _ ⟨j,c,rfl,⟨hj,hWI,hcp⟩,rfl,rfl⟩;refine Zq<|Zq<|Zg<|Zm Y<|Zm Y<|Zv (Au Y Y)<|Z0<|Zx<|Aw Y (fun hlt2=>?_) (fun hlt2=>?_)
 ·
  obtain ⟨r,hr⟩:∃r,l[j]?=some r:=⟨_,zD Ao7⟩;obtain ⟨hch9,gm,offm,curm,Tm,zm,hpm,hmm,hszm,hexm⟩:=mJ hRI hr;rw [hpm,<-hcp];refine AJ<|Zx<|Zq<|AO<|Zq<|Zg<|Zm Y<|Zm Y<|Zm Y<|Bq (Ai AV9 AX5 Y Y Ao7)<|CW (Gc Wo (hmm)) (AA (cs:=#[I4 r.p,.slice r.q r.cs.length r.cap]) Ad7 AX5 Y Ao7 (by exact hexm)) V rfl ?_;refine Zc [_,_] Y call16 Y V (bP hB hWI.law hr hch9) ?_;rintro _ _ ⟨_,⟨d,q2,cap2,zs,tv,sT,rfl,LD,hA,hrw,rfl⟩,rfl⟩;have hWD:=fu hB (Qq t) hWI hr LD hA
  rw [<-hA.cp];refine Zm Y<|Zd Y V<|Zd Y V<|Za Y<|Za Y<|Z0<|Zn [0,5,6,9,10,12,14,16] ?_;refine Zx<|Zq<|Zg<|Zm Y<|Zv (Eh (n:=0) Y Y)<|Zm Y<|Ak (t:=88) Y V (fun k4=>?_) (fun k4=>?_)
  ·
   exact absurd V k4
  refine Zf Y Y<|Zc [_] Y call24 Y V (tX LD.ok.tookb) ?_;rintro _ _ ⟨_,⟨pw,cw,sw,rfl,rfl⟩,rfl⟩;rw [hWD.wl];refine Yg (Aa AV9 Y)<|Zf Y Y ?_
  (refine Kg Y (Ei (n:=1) Y Y ?_) rfl rfl ?_;(focus (omega)))
  refine Yg (PU (n:=64) Y Y)<|Yg (Eh Y Y)<|Zv (AU Y Y)<|Z0<|Zx<|Aw Y (fun k5=>?_) (fun k5=>?_)
  ·
   exact absurd V k5
  refine AJ<|A9<|Zx<|Zg<|Zm Y<|Ya (n:=1) Y Y<|Za Y<|Z0<|Zn [14,0,5,6,9,10,12] ?_;refine Ad (e':=[(14,_)]) (by exact ⟨j+1,d,V,⟨by omega,hWD,by rfl⟩,V,V⟩)
 have hjm:j=nr:=by omega
 rw [hjm]at hWI;refine BG<|Zt<|Zt<|AX<|Zx<|Zq ?_;rw [<-hcp];refine Zg<|Zm Y<|Zm Y<|Zc [_,_] Y call17 Y V (rT hWL hB V ht2 hWI Ao7) ?_;rintro _ _ ⟨_,⟨s9,hgw,rfl⟩,rfl⟩;rcases hgw with⟨hm64,z,hz1,hz2,hz3,hz4,rfl⟩|⟨hm64,rfl⟩
 ·
  refine Zm Y<|Zd Y V<|Zd Y V<|Ze (Al AY8 #[_,_,_,_,_,_,_,_,_,_,_,_,_,_,_]) ?_;rintro _ _ ⟨ba,rfl,rfl⟩;refine Xe (Xw Ab5 #[I4 z.a.q.kd,I4 z.a.q.tb,I4 z.a.q.cl,I4 z.a.q.lo,I4 z.a.q.hi,I4 z.a.q.bq,I4 z.a.q.ot,.slice z.rp z.a.res.rows.length z.rc,I4 z.a.res.val,.bool z.a.res.fnd,I4 z.a.since,I4 z.a.until_,I4 z.a.base,.slice z.gp z.a.ranges.length z.gc,.slice z.cp z.a.recs.length z.cc]) ?_;refine Za Y<|Z0<|Zx<|Zq<|Zq<|Zg<|Zm Y<|Zm Y<|Zv (Gv (n:=64) Y Y)<|Zv (Ip AZ3 Y Y)<|Zm Y<|Ak (t:=107) Y V (fun a1=>?_) (fun a1=>?_)
  ·
   simp at a1;omega
  refine Zf Y Y<|Zf Y Y ?_;refine Aj (t:=109) Y V (fun a2=>?_) (fun a2=>?_)
  ·
   refine Yf 14 AY4 V rfl Ae8 Y<|Yl Ak3 Y ?_;refine Yg (Aa AV9 Y)<|Zf Y Y<|Yg (Eh Y Y)<|Zf Y Y ?_;refine Ak (t:=115) Y V (fun a3=>?_) (fun a3=>?_)
   ·
    exact absurd hz1 a3
   refine Yf 11 AY4 V rfl AU1 Y<|Yl AU2 Y ?_;refine Zf Y Y<|Yg (JN Y Y)<|Yg (AU Y Y)<|Zf Y Y ?_;refine Ak (t:=121) Y V (fun a4=>?_) (fun a4=>?_)
   ·
    exact absurd hz2 a4
   refine Yf 1 AU9 V rfl AU1 Y<|Yl AU2 Y ?_;refine Yg (CL Y Y)<|Zf Y Y ?_;refine Ak (t:=125) Y V (fun kt1=>?_) (fun kt1=>?_)
   ·
    refine Yf 10 AY4 V rfl AU1 Y<|Yl AU2 Y ?_;refine Zf Y Y<|Yg (JN Y Y)<|Yg (AZ Y Y)<|Yg (AU Y Y)<|Zf Y Y ?_;refine Ak (t:=132) Y V (fun a6=>?_) (fun a6=>?_)
    ·
     exact absurd (hz3 kt1) a6
    refine Yf 1 AU9 V rfl AU1 Y<|Yl AU2 Y ?_;refine Yg (CL Y Y)<|Zf Y Y ?_;refine Ak (t:=136) Y V (fun a7=>?_) (fun a7=>?_)
    ·
     exfalso;omega
    refine A7 Y V<|A7 Y V<|A7 Y V<|Yg (AU Y Y)<|Yg (AU Y Y)<|Yg (AZ Y Y)<|Zv (AU Y Y)<|Z0<|Zn [0,5,6,9,12,143] ?_;refine Zx<|Dv Y<|AJ<|Zx<|Zq<|Zg<|Zm Y<|Zm Y<|Zo Wh (AA (cs:=#[I4 1,I4 t,I4 0,I4 7,I4 7,I4 0,I4 0]) AX9 AV8 Y (by exact zh _) (by exact BD V)) ?_;refine Zc [_,_,_,_] Y call15 Y V (IY hRI hB.ok Ao7 (0) (zT _) (Ij ht2) (hB.scan (0) (zT _) _) 0 Tg zg) ?_;rintro _ _ ⟨_,⟨E2,pg2,cg2,hRP2,rfl,rfl⟩,rfl⟩;refine Zc [_,_] Y call14 Y rfl (Vn hB hWI.law (Ij ht2) (k:=0) (by rw [hWI.ns];decide) Ao9 (a:=0) (zT _) hRP2 (by have:=hWI.next;omega) (by have:=KL hWI.law.ok.tookb hWI.key;omega) (n:=2) (Su hWL _) (Jh hWI.law.ok.tookb hWI.key hWI.sz hWI.cap) Tp zp) ?_;rintro _ _ ⟨_,⟨b2,c2,rfl,L2,hlk2,hnn2,hP2,rfl⟩,rfl⟩;obtain ⟨hk2,hs2,hr2⟩:=Jm hP2 hWI.key hWI.sz;rw [GI hB Ao7 (Qq t),hWI.wl]at hr2;have hb2:b2=decide (nr<=64):=by rw [AO5,hr2,Am9];omega
    subst hb2;rw [<-hlk2.cp];refine Za Y<|Z0<|Zx<|Zq<|Zg<|Zm Y<|Zm Y<|Zm Y<|Yb (n:=1) Y Y<|Zo Wh (AA (cs:=#[I4 1,I4 t,I4 0,I4 7,I4 7,I4 0,I4 0]) AX9 AV8 Y (by exact zh _) (by exact BD V)) ?_;refine Zc [_,_,_,_] Y call15 Y V (IY hRI hB.ok Ao7 (nr -1) Ao7 (Ij ht2) (hB.scan (nr -1) Ao7 _) 0 Tg zg) ?_;rintro _ _ ⟨_,⟨E3,pg3,cg3,hRP3,rfl,rfl⟩,rfl⟩;refine Zc [_,_] Y call14 Y rfl (Vn hB L2 (Ij ht2) (k:=0) (by rw [hlk2.ns,hWI.ns];decide) Ao9 (a:=nr -1) Ao7 hRP3 (by have:=hWI.next;omega) (by have:=KL L2.ok.tookb hk2;omega) (n:=2) (Su hWL _) (Jh L2.ok.tookb hk2 hs2 (hlk2.cap.trans hWI.cap)) Tp zp) ?_;rintro _ _ ⟨_,⟨b3,c3,rfl,L3,hlk3,hnn3,hP3,rfl⟩,rfl⟩;obtain ⟨_,_,hr3⟩:=Jm hP3 hk2 hs2;rw [GI hB Ao7 (Qq t),hlk2.win,hWI.wl]at hr3;obtain rfl:b3=true:=hr3.2 Ao7;refine Za Y<|Z0<|Zn [0,5,19,20] ?_;refine Zx<|Zq<|Zg<|Zm Y<|Zm Y<|Aj (t:=157) Y V (fun f1=>?_) (fun f1=>?_)
    ·
     refine Zf Y Y<|Zf Y Y<|Yg (Gv (n:=64) Y Y)<|Yg (NG AZ3 Y Y)<|Zv (AZ Y Y)<|Zm Y<|Ak (t:=163) Y V (fun f2=>?_) (fun f2=>?_)
     ·
      refine Zf Y Y<|Zv (AZ Y Y)<|Za Y<|Z0<|Zx<|AC<|AL V results6 Y (by exact ⟨V,V⟩)
     exact absurd V f2
    cases f1
   refine A7 Y V<|A7 Y V<|A7 Y V<|A7 Y V<|Yg (AU Y Y)<|Yg (AU Y Y)<|Zf Y Y<|Yf 1 AU9 V rfl AU1 Y<|Yl AU2 Y ?_;refine Yg (CL Y Y)<|Zf Y Y ?_;refine Ak (t:=136) Y V (fun a9=>?_) (fun a9=>?_)
   ·
    refine Yf 10 AY4 V rfl AU1 Y<|Yl AU2 Y ?_;refine Yg (JN Y Y)<|Yg (AZ Y Y)<|Yg (AU Y Y)<|Yg (AZ Y Y)<|Zv (AU Y Y)<|Z0<|Zn [0,5,6,9,12,143] ?_;refine Zx<|AR Y (fun e1=>?_) (fun e1=>?_)
    ·
     exact absurd (An1 e1) Ao7
    refine AJ<|Zx<|Zq<|Zg<|Zm Y<|Zm Y<|Zo Wh (AA (cs:=#[I4 1,I4 t,I4 0,I4 7,I4 7,I4 0,I4 0]) AX9 AV8 Y (by exact zh _) (by exact BD V)) ?_;refine Zc [_,_,_,_] Y call15 Y V (IY hRI hB.ok Ao7 (0) (zT _) (Ij ht2) (hB.scan (0) (zT _) _) 0 Tg zg) ?_;rintro _ _ ⟨_,⟨E2,pg2,cg2,hRP2,rfl,rfl⟩,rfl⟩;refine Zc [_,_] Y call14 Y rfl (Vn hB hWI.law (Ij ht2) (k:=0) (by rw [hWI.ns];decide) Ao9 (a:=0) (zT _) hRP2 (by have:=hWI.next;omega) (by have:=KL hWI.law.ok.tookb hWI.key;omega) (n:=2) (Su hWL _) (Jh hWI.law.ok.tookb hWI.key hWI.sz hWI.cap) Tp zp) ?_;rintro _ _ ⟨_,⟨b2,c2,rfl,L2,hlk2,hnn2,hP2,rfl⟩,rfl⟩;obtain ⟨hk2,hs2,hr2⟩:=Jm hP2 hWI.key hWI.sz;rw [GI hB Ao7 (Qq t),hWI.wl]at hr2;have hb2:b2=decide (nr<=64):=by rw [AO5,hr2,Am9];omega
    subst hb2;rw [<-hlk2.cp];refine Za Y<|Z0<|Zx<|Zq<|Zg<|Zm Y<|Zm Y<|Zm Y<|Yb (n:=1) Y Y<|Zo Wh (AA (cs:=#[I4 1,I4 t,I4 0,I4 7,I4 7,I4 0,I4 0]) AX9 AV8 Y (by exact zh _) (by exact BD V)) ?_;refine Zc [_,_,_,_] Y call15 Y V (IY hRI hB.ok Ao7 (nr -1) Ao7 (Ij ht2) (hB.scan (nr -1) Ao7 _) 0 Tg zg) ?_;rintro _ _ ⟨_,⟨E3,pg3,cg3,hRP3,rfl,rfl⟩,rfl⟩;refine Zc [_,_] Y call14 Y rfl (Vn hB L2 (Ij ht2) (k:=0) (by rw [hlk2.ns,hWI.ns];decide) Ao9 (a:=nr -1) Ao7 hRP3 (by have:=hWI.next;omega) (by have:=KL L2.ok.tookb hk2;omega) (n:=2) (Su hWL _) (Jh L2.ok.tookb hk2 hs2 (hlk2.cap.trans hWI.cap)) Tp zp) ?_;rintro _ _ ⟨_,⟨b3,c3,rfl,L3,hlk3,hnn3,hP3,rfl⟩,rfl⟩;obtain ⟨_,_,hr3⟩:=Jm hP3 hk2 hs2;rw [GI hB Ao7 (Qq t),hlk2.win,hWI.wl]at hr3;obtain rfl:b3=true:=hr3.2 Ao7;refine Za Y<|Z0<|Zn [0,5,19,20] ?_;refine Zx<|Zq<|Zg<|Zm Y<|Zm Y<|Aj (t:=157) Y V (fun f1=>?_) (fun f1=>?_)
    ·
     refine Zf Y Y<|Zf Y Y<|Yg (Gv (n:=64) Y Y)<|Yg (NG AZ3 Y Y)<|Zv (AZ Y Y)<|Zm Y<|Ak (t:=163) Y V (fun f2=>?_) (fun f2=>?_)
     ·
      refine Zf Y Y<|Zv (AZ Y Y)<|Za Y<|Z0<|Zx<|AC<|AL V results6 Y (by exact ⟨V,V⟩)
     exact absurd V f2
    cases f1
   exfalso;omega
  cases a2
 refine Zm Y<|Zd Y V<|Zd Y V<|Ze (Al AY8 #[_,_,_,_,_,_,_,_,_,_,_,_,_,_,_]) ?_;rintro _ _ ⟨ba,rfl,rfl⟩;refine Xe (Xw Ab5 #[I4 0,I4 0,I4 0,I4 0,I4 0,I4 0,I4 0,.slice none 0 0,I4 0,.bool false,I4 0,I4 0,I4 0,.slice none 0 0,.slice none 0 0]) ?_;refine Za Y<|Z0<|Zx<|Zq<|Zq<|Zg<|Zm Y<|Zm Y<|Zv (Gv (n:=64) Y Y)<|Zv (Ip AZ3 Y Y)<|Zm Y<|Ak (t:=107) Y V (fun c1=>?_) (fun c1=>?_)
 ·
  simp at c1;omega
 refine Zf Y Y<|Zf Y Y ?_;refine Aj (t:=109) Y V (fun c2=>?_) (fun c2=>?_)
 ·
  cases c2
 refine A7 Y V<|A7 Y V<|A7 Y V<|A7 Y V<|A7 Y V<|A7 Y V<|A7 Y V<|A7 Y V<|A7 Y V<|A7 Y V<|A7 Y V<|A7 Y V<|A7 Y V<|A7 Y V<|A7 Y V<|A7 Y V<|A7 Y V<|A7 Y V<|A7 Y V<|A7 Y V<|A7 Y V<|A7 Y V<|A7 Y V<|A7 Y V<|A7 Y V<|A7 Y V<|A7 Y V<|A7 Y V<|A7 Y V<|A7 Y V<|A7 Y V<|A7 Y V<|Yg (AU Y Y)<|Zv (AU Y Y)<|Z0<|Zn [0,5,6,9,12,143] ?_;refine Zx<|Dv Y<|AJ<|Zx<|Zq<|Zg<|Zm Y<|Zm Y<|Zo Wh (AA (cs:=#[I4 1,I4 t,I4 0,I4 7,I4 7,I4 0,I4 0]) AX9 AV8 Y (by exact zh _) (by exact BD V)) ?_;refine Zc [_,_,_,_] Y call15 Y V (IY hRI hB.ok Ao7 (0) (zT _) (Ij ht2) (hB.scan (0) (zT _) _) 0 Tg zg) ?_;rintro _ _ ⟨_,⟨E2,pg2,cg2,hRP2,rfl,rfl⟩,rfl⟩;refine Zc [_,_] Y call14 Y rfl (Vn hB hWI.law (Ij ht2) (k:=0) (by rw [hWI.ns];decide) Ao9 (a:=0) (zT _) hRP2 (by have:=hWI.next;omega) (by have:=KL hWI.law.ok.tookb hWI.key;omega) (n:=2) (Su hWL _) (Jh hWI.law.ok.tookb hWI.key hWI.sz hWI.cap) Tp zp) ?_;rintro _ _ ⟨_,⟨b2,c2,rfl,L2,hlk2,hnn2,hP2,rfl⟩,rfl⟩;obtain ⟨hk2,hs2,hr2⟩:=Jm hP2 hWI.key hWI.sz;rw [GI hB Ao7 (Qq t),hWI.wl]at hr2;have hb2:b2=decide (nr<=64):=by rw [AO5,hr2,Am9];omega
 subst hb2;rw [<-hlk2.cp];refine Za Y<|Z0<|Zx<|Zq<|Zg<|Zm Y<|Zm Y<|Zm Y<|Yb (n:=1) Y Y<|Zo Wh (AA (cs:=#[I4 1,I4 t,I4 0,I4 7,I4 7,I4 0,I4 0]) AX9 AV8 Y (by exact zh _) (by exact BD V)) ?_;refine Zc [_,_,_,_] Y call15 Y V (IY hRI hB.ok Ao7 (nr -1) Ao7 (Ij ht2) (hB.scan (nr -1) Ao7 _) 0 Tg zg) ?_;rintro _ _ ⟨_,⟨E3,pg3,cg3,hRP3,rfl,rfl⟩,rfl⟩;refine Zc [_,_] Y call14 Y rfl (Vn hB L2 (Ij ht2) (k:=0) (by rw [hlk2.ns,hWI.ns];decide) Ao9 (a:=nr -1) Ao7 hRP3 (by have:=hWI.next;omega) (by have:=KL L2.ok.tookb hk2;omega) (n:=2) (Su hWL _) (Jh L2.ok.tookb hk2 hs2 (hlk2.cap.trans hWI.cap)) Tp zp) ?_;rintro _ _ ⟨_,⟨b3,c3,rfl,L3,hlk3,hnn3,hP3,rfl⟩,rfl⟩;obtain ⟨_,_,hr3⟩:=Jm hP3 hk2 hs2;rw [GI hB Ao7 (Qq t),hlk2.win,hWI.wl]at hr3;obtain rfl:b3=true:=hr3.2 Ao7;refine Za Y<|Z0<|Zn [0,5,19,20] ?_;refine Zx<|Zq<|Zg<|Zm Y<|Zm Y<|Aj (t:=157) Y V (fun f1=>?_) (fun f1=>?_)
 ·
  refine Zf Y Y<|Zf Y Y<|Yg (Gv (n:=64) Y Y)<|Yg (NG AZ3 Y Y)<|Zv (AZ Y Y)<|Zm Y<|Ak (t:=163) Y V (fun f2=>?_) (fun f2=>?_)
  ·
   refine Zf Y Y<|Zv (AZ Y Y)<|Za Y<|Z0<|Zx<|AC<|AL V results6 Y (by exact ⟨V,V⟩)
  exact absurd V f2
 cases f1
theorem Wl(n:Int)(n1:-9223372036854775808<=n)(n2:n<=9223372036854775807)(k:Int)(k1:-9223372036854775808<=k)(k2:k<=9223372036854775807)(Tg:TypeId)(zg:Nat×Nat)(Tp:TypeId)(zp:Nat×Nat){M:List A8}:BJ Tryz.prog 6 #[I4 n,I4 k] [[(4,.cells (EW.map Ch).toArray Tg zg)],[(1,.cells (Lib.pow10Tab.map fun z=>Value.int .u64 z).toArray Tp zp)],M] (.bool true):=H9 (kw n k n1 n2 k1 k2 Tg zg Tp zp) M Ap0
end Go.Proofs.YteaiajghbkenoaaGreatDoor
namespace Go.Proofs.YteaiajghbkenoaaGreatDoor
open Go.Proofs.Tryz
open Go Go.RowKit Gw
set_option maxRecDepth 100000
attribute [local irreducible] Gw.At Gw.Nx Gw.Ops
open Go.ChangeShapes Go.WideShapes Go.ChangeAt
theorem Vt{P:Program}{f:FuncId}{fn:Func}{s:ChangeSpec}{c:OpenClaim}(h0:c.wf (OpenSpec.ofChange s)=true)(h1:laidOutB P=true)(h2:mapsRowed P=true)(h3:fn.params.all (P.readableRec ·)=true)(h4:namedTie P c.named s.vars=true)(h5:(c.stops== [])=true)(h6:(P.stops== [])=true)(h7:(c.knobs== [])=true)(h8:(P.stopKnobs== [])=true)(h9:(c.inPlace==P.inPlace f)=true)(h10:(c.unfollowed==P.unfollowed f)=true)(h11:(c.recurses==P.recurses f)=true)(h12:(c.named==P.varsNamed f)=true)(h13:(c.maps==(fn.params.toList++s.plain.varTypes P).any (P.mapsRec ·))=true)(h14:(c.ifaces==(fn.params.toList++s.plain.varTypes P).any (P.ifacesRec ·))=true)(h15:(c.mapsOut==P.mapsAmong fn.resultTypes.toList)=true)(h16:(c.loops==(fn.params.toList++s.plain.varTypes P).any (P.loopsFrom ·))=true)(h17:(c.wideKeys==(fn.params.toList++s.plain.varTypes P++fn.resultTypes.toList).any (P.wideKeysFrom ·))=true)(h18:s.vars.all (P.varReadable ·)=true)(h19:fn.resultTypes.all (fun t=>P.readableRec t&&decide (t<P.types.size))=true)(h20:(c.ifacesOut==fn.resultTypes.toList.any (P.ifacesRec ·))=true)(h21:(c.loopsOut==fn.resultTypes.toList.any (P.loopsFrom ·))=true)(h22:(c.plainKeys==P.plainKeys)=true)(h23:c.shortTexts.isNone=true)(h24:P.stopsHeard=true)(h25:P.mayEnter=true)(h26:(c.lifted==P.liftsFinal)=true)(h27:(P.make==some c.make)=true)(h28:(c.kinds==(if c.domain.isEmpty then []else fn.params.toList.map fun t=>match P.underlying t with|some (.int k)=>some k|_=>none))=true)(h29:(c.pinned==c.pinnedBy)=true)(h30:(c.veiled==(fn.params.toList++s.plain.varTypes P++fn.resultTypes.toList).any (P.veiledRec ·))=true)(h31:c.veiledFits P fn.params.toList (fn.params.toList++s.plain.varTypes P++fn.resultTypes.toList)=true):joinedFacts P f fn s c=true:=by
 unfold joinedFacts;simp only [zy];exact ⟨⟨⟨⟨⟨⟨⟨⟨⟨⟨⟨⟨⟨⟨⟨⟨⟨⟨⟨⟨⟨⟨⟨⟨⟨⟨⟨⟨⟨⟨⟨h0,h1⟩,h2⟩,h3⟩,h4⟩,h5⟩,h6⟩,h7⟩,h8⟩,h9⟩,h10⟩,h11⟩,h12⟩,h13⟩,h14⟩,h15⟩,h16⟩,h17⟩,h18⟩,h19⟩,h20⟩,h21⟩,h22⟩,h23⟩,h24⟩,h25⟩,h26⟩,h27⟩,h28⟩,h29⟩,h30⟩,h31⟩
end Go.Proofs.YteaiajghbkenoaaGreatDoor
