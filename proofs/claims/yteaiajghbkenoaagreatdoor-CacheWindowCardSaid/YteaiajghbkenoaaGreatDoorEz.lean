/- Short forms of the laws of the chunk walk: what every step repeats is a default here. No function of the program is named. -/
import Derived.Test.YteaiajghbkenoaaGreatDoorEx5
import Derived.Test.YteaiajghbkenoaaGreatDoorEx4
set_option linter.unusedVariables false
set_option linter.unusedSimpArgs false
namespace Gw
open Go Go.RowKit
theorem Y{α β:Type}{f:α->β}:∀a,f a=f a:=fun _=>rfl
def V9(env:Env)(sl:List Nat)(e:Env):Prop:=∀a,JF a env sl=e
theorem Oz{env:Env}:V9 env [] []:=fun _=>rfl
theorem Mw{env:Env}{t:Nat}{v:Value}{l:List Nat}{e:Env}(h:∀a,Fb a env t=v)(h2:V9 env l e):V9 env (t::l) ((t,v)::e):=fun a=>by
 simp only [JF];rw [h a,h2 a]
theorem Zb{P:Program}{cx:Cx}{c:Code}{Q:Exit->Act->World->Prop}{env env':Env}{H:Hp}(sl:List Nat)(h:At P cx c Q env' H)(hn:sl.all (fun t=>Nat.blt t cx.N)=true:=by exact rfl)(he:V9 env sl env':=by repeat(first|exact Oz|(apply Mw;exact fun _=>rfl))):At P cx c Q env H:=qM sl hn he h
theorem Zn{cx:Cx}{Q:Act->World->Prop}{env env':Env}{H:Hp}(sl:List Nat)(h:Nx cx Q env' H)(hn:sl.all (fun t=>Nat.blt t cx.N)=true:=by exact rfl)(he:V9 env sl env':=by repeat(first|exact Oz|(apply Mw;exact fun _=>rfl))):Nx cx Q env H:=nR sl hn he h
section
variable{P:Program}{cx:Cx}{Q:Exit->Act->World->Prop}{env:Env}{H:Hp}
theorem Zq{x y:Code}(h:At P cx x (Exit.then (y.wpIn (Fx cx.r) 0 P Q) Q) env H):At P cx (.seq x y) Q env H:=wo h
theorem Zx{y:Code}(h:At P cx y Q env H):Nx cx ((Exit.then (y.wpIn (Fx cx.r) 0 P Q) Q) .normal) env H:=tJ h
theorem Zt{K:Act->World->Prop}{e:Exit}(h:Nx cx (Q e) env H)(he:e≠ .normal:=by(intro h;cases h;done)):Nx cx (Exit.then K Q e) env H:=tH he h
theorem Zg{id:Nat}{ops:Array Oper}(h:Ops P ops ops.toList cx Q env H):At P cx (.region id ops false) Q env H:=kQ h
end
section
variable{P:Program}{ops:Array Oper}{l:List Oper}{cx:Cx}{Q:Exit->Act->World->Prop}{env:Env}{H:Hp}{ty:TypeId}{pos:String}{af:Array Edge}
theorem Z0(h:Nx cx (Q .normal) env H):Ops P ops [] cx Q env H:=si h
theorem Zm{d:Nat}{x:Operand}{v:Value}(hx:∀a,ev a env x=v)(k:Ops P ops l cx Q ((d,v)::env) H)(hd:Nat.blt d cx.N=true:=by exact rfl):Ops P ops (⟨some d,.move x,ty,pos,af,none⟩::l) cx Q env H:=KH (AP hx) rfl hd k
theorem Za{d:Nat}{x:Operand}{v:Value}(hx:∀a,ev a env x=v)(k:Ops P ops l cx Q ((d,v)::env) H)(hd:Nat.blt d cx.N=true:=by exact rfl):Ops P ops (⟨some d,.assign x,ty,pos,af,none⟩::l) cx Q env H:=KH (Aq hx) rfl hd k
theorem Zp{d:Nat}{x:Operand}{v:Value}(hx:∀a,ev a env x=v)(hv:nV v=true)(k:Ops P ops l cx Q ((d,v)::env) H)(hd:Nat.blt d cx.N=true:=by exact rfl):Ops P ops (⟨some d,.nilCheck x,ty,pos,af,none⟩::l) cx Q env H:=KH (Am hx hv) rfl hd k
theorem Zd{d:Nat}{x:Operand}{i:Nat}{vs:Array Value}{v:Value}(hx:∀a,ev a env x= .tuple vs)(hv:vs[i]?=some v)(k:Ops P ops l cx Q ((d,v)::env) H)(hd:Nat.blt d cx.N=true:=by exact rfl):Ops P ops (⟨some d,.extract x i,ty,pos,af,none⟩::l) cx Q env H:=KH (Bt hx hv) rfl hd k
theorem Zv{d:Nat}{op:Op}{v:Value}(h:OpP P ⟨some d,op,ty,pos,af,none⟩ env [] v)(k:Ops P ops l cx Q ((d,v)::env) H)(hn:Da op=true:=by exact rfl)(hd:Nat.blt d cx.N=true:=by exact rfl):Ops P ops (⟨some d,op,ty,pos,af,none⟩::l) cx Q env H:=KH h hn hd k
theorem Zf{d:Nat}{g:Nat×Bool}{x:Operand}{v:Value}(hg:∀a,wantedE ops a env (some g)=true)(hx:∀a,ev a env x=v)(k:Ops P ops l cx Q ((d,v)::env) H)(hd:Nat.blt d cx.N=true:=by exact rfl):Ops P ops (⟨some d,.move x,ty,pos,af,some g⟩::l) cx Q env H:=Kg hg (AP hx) rfl hd k
theorem Zh{d:Nat}{fs:Array Field}{fl:Field}{t:TypeId}{x:Operand}{f b m:Nat}(off:Nat)(hu:P.underlying t=some (.struct fs))(hf:fs[f]?=some fl)(ho:fl.offset=off)(hs:∀w:World,(Go.sizeOf fl.type).run P w= .ok (m+1) w)(hx:∀a,ev a env x=I5 b)(k:Ops P ops l cx Q ((d,.pointer (some ⟨b,off,none⟩))::env) H)(hd:Nat.blt d cx.N=true:=by exact rfl):Ops P ops (⟨some d,.fieldAddr t x f,ty,pos,af,none⟩::l) cx Q env H:=KH (AB hu hf ho hs hx) rfl hd k
theorem Zl{d:Nat}{t:TypeId}{x:Operand}{b i:Nat}{c:Array Value}{T:TypeId}{z:Nat×Nat}{v:Value}(ha:∀w:World,(isAgg t).run P w= .ok false w)(hx:∀a,ev a env x= .pointer (some ⟨b,i,none⟩))(k:Ops P ops l cx Q ((d,v)::env) H)(hb:Has b (.cells c T z) H:=by(repeat(first|exact Has.here _|apply Has.there));done)(hv:c[i]?=some v:=by rfl)(hd:Nat.blt d cx.N=true:=by exact rfl):Ops P ops (⟨some d,.load t x,ty,pos,af,none⟩::l) cx Q env H:=xW hb (BX ha hx hv) rfl hd k
theorem Yl{d:Nat}{g:Nat×Bool}{t:TypeId}{x:Operand}{b i:Nat}{c:Array Value}{T:TypeId}{z:Nat×Nat}{v:Value}(ha:∀w:World,(isAgg t).run P w= .ok false w)(hx:∀a,ev a env x= .pointer (some ⟨b,i,none⟩))(k:Ops P ops l cx Q ((d,v)::env) H)(hb:Has b (.cells c T z) H:=by(repeat(first|exact Has.here _|apply Has.there));done)(hv:c[i]?=some v:=by rfl)(hg:∀a,wantedE ops a env (some g)=true:=by exact fun _=>rfl)(hd:Nat.blt d cx.N=true:=by exact rfl):Ops P ops (⟨some d,.load t x,ty,pos,af,some g⟩::l) cx Q env H:=FJ hg hb (BX ha hx hv) rfl hd k
theorem Yf{d:Nat}{g:Nat×Bool}{fs:Array Field}{fl:Field}{t:TypeId}{x:Operand}{f b m:Nat}(off:Nat)(hu:P.underlying t=some (.struct fs))(hf:fs[f]?=some fl)(ho:fl.offset=off)(hs:∀w:World,(Go.sizeOf fl.type).run P w= .ok (m+1) w)(hx:∀a,ev a env x=I5 b)(k:Ops P ops l cx Q ((d,.pointer (some ⟨b,off,none⟩))::env) H)(hg:∀a,wantedE ops a env (some g)=true:=by exact fun _=>rfl)(hd:Nat.blt d cx.N=true:=by exact rfl):Ops P ops (⟨some d,.fieldAddr t x f,ty,pos,af,some g⟩::l) cx Q env H:=Kg hg (AB hu hf ho hs hx) rfl hd k
theorem Yg{d:Nat}{g:Nat×Bool}{op:Op}{v:Value}(h:OpP P ⟨some d,op,ty,pos,af,some g⟩ env [] v)(k:Ops P ops l cx Q ((d,v)::env) H)(hg:∀a,wantedE ops a env (some g)=true:=by exact fun _=>rfl)(hn:Da op=true:=by exact rfl)(hd:Nat.blt d cx.N=true:=by exact rfl):Ops P ops (⟨some d,op,ty,pos,af,some g⟩::l) cx Q env H:=Kg hg h hn hd k
theorem Ya{d:Nat}{t yt:TypeId}{x y:Operand}{m n:Nat}(hx:∀a,ev a env x=I4 (m:Int))(hy:∀a,ev a env y=I4 (n:Int))(k:Ops P ops l cx Q ((d,I4 ((m+n:Nat):Int))::env) H)(hb:m+n<=9223372036854775807:=by omega)(hd:Nat.blt d cx.N=true:=by exact rfl):Ops P ops (⟨some d,.binOp .add t x y yt,ty,pos,af,none⟩::l) cx Q env H:=KH (Ei hx hy hb) rfl hd k
theorem Yi{d:Nat}{t yt:TypeId}{x y:Operand}{m n:Int}(hx:∀a,ev a env x=I4 m)(hy:∀a,ev a env y=I4 n)(k:Ops P ops l cx Q ((d,I4 (m+n))::env) H)(hb:-9223372036854775808<=m+n/\m+n<=9223372036854775807:=by omega)(hd:Nat.blt d cx.N=true:=by exact rfl):Ops P ops (⟨some d,.binOp .add t x y yt,ty,pos,af,none⟩::l) cx Q env H:=KH (Ke hx hy (IntWalk.i64_in _ hb)) rfl hd k
theorem Yb{d:Nat}{t yt:TypeId}{x y:Operand}{m n:Nat}(hx:∀a,ev a env x=I4 (m:Int))(hy:∀a,ev a env y=I4 (n:Int))(k:Ops P ops l cx Q ((d,I4 ((m -n:Nat):Int))::env) H)(hb:n<=m:=by omega)(hm:m<=9223372036854775807:=by omega)(hd:Nat.blt d cx.N=true:=by exact rfl):Ops P ops (⟨some d,.binOp .sub t x y yt,ty,pos,af,none⟩::l) cx Q env H:=KH (CS hx hy hb hm) rfl hd k
/-- The same, the value told by a tactic of the text. -/
theorem Zo{d:Nat}{op:Op}{v:Value}{b:Nat}{o:Obj}(hb:Has b o H)(h:OpP P ⟨some d,op,ty,pos,af,none⟩ env [(b,o)] v)(k:Ops P ops l cx Q ((d,v)::env) H)(hn:Da op=true:=by exact rfl)(hd:Nat.blt d cx.N=true:=by exact rfl):Ops P ops (⟨some d,op,ty,pos,af,none⟩::l) cx Q env H:=xW hb h hn hd k
end
section
variable{P:Program}{u:World}{ops:Array Oper}{l:List Oper}{cx:Cx}{Qe:Exit->Act->World->Prop}{env:Env}{H H' R:Hp}{d:Option Nat}{ty:TypeId}{pos:String}{af:Array Edge}{g:Option (Nat×Bool)}
theorem Ze{op:Op}{Ps:Value->Hp->Prop}(h:OpW P cx.u ⟨d,op,ty,pos,af,g⟩ env H Ps (fun _ _=>False))(k:∀v H',Ps v H'->Ops P ops l cx Qe (putE d v env) H')(hg:∀a,wantedE ops a env g=true:=by exact fun _=>rfl)(hn:Da op=true:=by exact rfl)(hd:fits cx.N d=true:=by exact rfl):Ops P ops (⟨d,op,ty,pos,af,g⟩::l) cx Qe env H:=tC h hg hn hd k
theorem Xe{op:Op}{v0:Value}{H0:Hp}(h:OpW P cx.u ⟨d,op,ty,pos,af,g⟩ env H (fun v H'=>v=v0/\H'=H0) (fun _ _=>False))(k:Ops P ops l cx Qe (putE d v0 env) H0)(hg:∀a,wantedE ops a env g=true:=by exact fun _=>rfl)(hn:Da op=true:=by exact rfl)(hd:fits cx.N d=true:=by exact rfl):Ops P ops (⟨d,op,ty,pos,af,g⟩::l) cx Qe env H:=tC h hg hn hd (by rintro _ _ ⟨rfl,rfl⟩;exact k)
theorem Zw(vs:List Value){fx:Operand}{aq:Array Operand}{ats:Array TypeId}{f:FuncId}{first caps args:Array Value}{Hf:Hp}{Q:Value->Hp->Prop}{Pn:List PanicEntry->Hp->Prop}
 (hf:∀a,ev a env fx= .func (.func f) first caps)(hc:∀(args:Array Value) (w:World),(callFunc f args).run P w= .ok (.enter f args) w)(ha:∀a,aq.toList.map (ev a env)=vs)(hA:(first.toList++vs++caps.toList).toArray=args)
 (hsp:Ki P f args Hf Q Pn)(hp:EY Hf H R:=by repeat(first|exact EY.nil _|(apply EY.cons;(focus (repeat(first|exact One.here _ _|apply One.there)))))):
 OpW P u ⟨d,.call ⟨.value fx,aq,ats⟩,ty,pos,af,g⟩ env H (fun v H'=>∃H1,Q v H1/\H'=H1++R) (fun ch H'=>∃H1,Pn ch H1/\H'=H1++R):=ZL hf hc ha hA hsp hp
theorem Zu(vs:List Value){fx:Operand}{aq:Array Operand}{ats:Array TypeId}{f:FuncId}{first caps args:Array Value}{Hf:Hp}{v:Value}
 (hf:∀a,ev a env fx= .func (.func f) first caps)(hc:∀(args:Array Value) (w:World),(callFunc f args).run P w= .ok (.enter f args) w)(ha:∀a,aq.toList.map (ev a env)=vs)(hA:(first.toList++vs++caps.toList).toArray=args)
 (hsp:BJ P f args Hf v)(hp:EY Hf H R:=by repeat(first|exact EY.nil _|(apply EY.cons;(focus (repeat(first|exact One.here _ _|apply One.there)))))):
 OpW P u ⟨d,.call ⟨.value fx,aq,ats⟩,ty,pos,af,g⟩ env H (fun v' H'=>v'=v/\H'=H) (fun _ _=>False):=VL hf hc ha hA hsp hp
theorem Zc(vs:List Value){fx:Operand}{aq:Array Operand}{ats:Array TypeId}{f:FuncId}{first caps args:Array Value}{Hf:Hp}{Q:Value->Hp->Prop}
 (hf:∀a,ev a env fx= .func (.func f) first caps)(hc:∀(args:Array Value) (w:World),(callFunc f args).run P w= .ok (.enter f args) w)(ha:∀a,aq.toList.map (ev a env)=vs)(hA:(first.toList++vs++caps.toList).toArray=args)
 (hsp:Ki P f args Hf Q fun _ _=>False)(k:∀v H',(∃H1,Q v H1/\H'=H1++R)->Ops P ops l cx Qe (putE d v env) H')(hp:EY Hf H R:=by repeat(first|exact EY.nil _|(apply EY.cons;(focus (repeat(first|exact One.here _ _|apply One.there))))))(hg:∀a,wantedE ops a env g=true:=by exact fun _=>rfl)(hd:fits cx.N d=true:=by exact rfl):
 Ops P ops (⟨d,.call ⟨.value fx,aq,ats⟩,ty,pos,af,g⟩::l) cx Qe env H:=JO hg (Qk hd) rfl (ZL hf hc ha hA hsp hp) k Bp
theorem Zr(vs:List Value){fx:Operand}{aq:Array Operand}{ats:Array TypeId}{f:FuncId}{first caps args:Array Value}{Hf:Hp}{v:Value}
 (hf:∀a,ev a env fx= .func (.func f) first caps)(hc:∀(args:Array Value) (w:World),(callFunc f args).run P w= .ok (.enter f args) w)(ha:∀a,aq.toList.map (ev a env)=vs)(hA:(first.toList++vs++caps.toList).toArray=args)
 (hsp:BJ P f args Hf v)(k:∀v' H',v'=v/\H'=H->Ops P ops l cx Qe (putE d v' env) H')(hp:EY Hf H R:=by repeat(first|exact EY.nil _|(apply EY.cons;(focus (repeat(first|exact One.here _ _|apply One.there))))))(hg:∀a,wantedE ops a env g=true:=by exact fun _=>rfl)(hd:fits cx.N d=true:=by exact rfl):
 Ops P ops (⟨d,.call ⟨.value fx,aq,ats⟩,ty,pos,af,g⟩::l) cx Qe env H:=tC (VL hf hc ha hA hsp hp) hg rfl hd k
theorem Xr(vs:List Value){fx:Operand}{aq:Array Operand}{ats:Array TypeId}{f:FuncId}{first caps args:Array Value}{Hf:Hp}{v:Value}
 (hf:∀a,ev a env fx= .func (.func f) first caps)(hc:∀(args:Array Value) (w:World),(callFunc f args).run P w= .ok (.enter f args) w)(ha:∀a,aq.toList.map (ev a env)=vs)(hA:(first.toList++vs++caps.toList).toArray=args)
 (hsp:BJ P f args Hf v)(k:Ops P ops l cx Qe (putE d v env) H)(hp:EY Hf H R:=by repeat(first|exact EY.nil _|(apply EY.cons;(focus (repeat(first|exact One.here _ _|apply One.there))))))(hg:∀a,wantedE ops a env g=true:=by exact fun _=>rfl)(hd:fits cx.N d=true:=by exact rfl):
 Ops P ops (⟨d,.call ⟨.value fx,aq,ats⟩,ty,pos,af,g⟩::l) cx Qe env H:=tC (VL hf hc ha hA hsp hp) hg rfl hd (by rintro _ _ ⟨rfl,rfl⟩;exact k)
theorem Zs{t:TypeId}{x y:Operand}{b i:Nat}{c c':Array Value}{T:TypeId}{z:Nat×Nat}{v:Value}(hs:∀w:World,(Go.sizeOf t).run P w= .ok 1 w)(hx:∀a,ev a env x= .pointer (some ⟨b,i,none⟩))(hy:∀a,ev a env y=v)(h1:v.oneCell'=true)
 (hu:Upd b (.cells c T z) (.cells c' T z) H H':=by repeat(first|exact Upd.here _|apply Upd.there))(hc:c.setIfInBounds i v=c':=by rfl)(hi:i<c.size:=by first|decide|exact zh _|(simp;done)|(simp;omega))(hz:IA z c.size:=by exact BF _):
 OpW P u ⟨d,.store t x y,ty,pos,af,g⟩ env H (fun v' H1=>v'=undef/\H1=H') (fun _ _=>False):=rU hs hx hy h1 hu hc hi hz
end
section
variable{P:Program}{ops:Array Oper}{A:List Nat}{F:Nat}{cx:Cx}{Q:Exit->Act->World->Prop}{n D:Nat}{T:List (Nat×A8)}{env:Env}{H:Hp}{ty:TypeId}{pos:String}{af:Array Edge}
theorem Yk{o:Oper}(D' i:Nat)(ho:ops[i]?=some o)(k:Lin P ops A F cx Q n D' T (putE o.dst undef env) H)(hg:∀a,wantedE ops a env o.guard=false:=by exact fun _=>rfl)(h1:(!bit D i&&Eb (A.getD i 0) D)=true:=by exact rfl)(hD:D|||(1<<<i)=D':=by exact rfl):Lin P ops A F cx Q (n+1) D T env H:=oC i ho hg h1 hD k
theorem Zi{d:Nat}{op:Op}{v:Value}(D' i:Nat)(ho:ops[i]?=some ⟨some d,op,ty,pos,af,none⟩)(hop:OpP P ⟨some d,op,ty,pos,af,none⟩ env [] v)(k:Lin P ops A F cx Q n D' T ((d,v)::env) H)(h1:(!bit F i&&!bit D i&&Eb (A.getD i 0) D)=true:=by exact rfl)(hD:D|||(1<<<i)=D':=by exact rfl):Lin P ops A F cx Q (n+1) D T env H:=vJ i ho h1 hD hop k
theorem Zj{d:Nat}{t:TypeId}{x:Operand}{b j:Nat}{c:Array Value}{U:TypeId}{z:Nat×Nat}{v:Value}(D' i:Nat)(ho:ops[i]?=some ⟨some d,.load t x,ty,pos,af,none⟩)(ha:∀w:World,(isAgg t).run P w= .ok false w)(hx:∀a,ev a env x= .pointer (some ⟨b,j,none⟩))(k:Lin P ops A F cx Q n D' ((i,(b,.cells c U z))::T) ((d,v)::env) H)
 (hb:Has b (.cells c U z) H:=by repeat(first|exact Has.here _|apply Has.there))(hv:c[j]?=some v:=by rfl)(h1:(!bit F i&&!bit D i&&Eb (A.getD i 0) D)=true:=by exact rfl)(hD:D|||(1<<<i)=D':=by exact rfl):Lin P ops A F cx Q (n+1) D T env H:=Cq i ho h1 hD hb (BX ha hx hv) k
theorem Zk{H:Hp}{i b:Nat}{x:Obj}{T:List (Nat×A8)}(ht:∀p∈T,p.2∈H.flatten)(h:Has b x H:=by repeat(first|exact Has.here _|apply Has.there)):∀p∈((i,(b,x))::T),p.2∈H.flatten:=jL h ht
theorem Zy{f:Nat}{l:List Nat}{o:Oper}{Ps:Value->Hp->Prop}{Pn:List PanicEntry->Hp->Prop}(m D':Nat)(is:List Nat)(bs:List Bool)(T':List (Nat×A8))(ho:ops[f]?=some o)(hg:∀a,wantedE ops a env o.guard=true)(hD:D|||(1<<<f)=D')(hm:A[f]?=some m)(his:T.map (·.1)=is)(hT:sel bs T=T')(hw:OpW P cx.u o env H Ps Pn)
 (k:∀v H',Ps v H'->(∀p∈T',p.2∈H'.flatten)/\Lin P ops A F cx Q n D' T' (putE o.dst v env) H')(kp:∀ch H',Pn ch H'->∀env,Nx cx (Q (.panic ch)) env H')(hl:Wd P ops A F cx Q n D T env H l)(hok:Nv m bs is=true:=by kernel_rfl):Wd P ops A F cx Q n D T env H (f::l):=Ux ho hg hD hm his hok hT hw k kp hl
theorem Zz{l:List Nat}(h:Wd P ops A F cx Q n D T env H l)(h1:ja ops A F D=true:=by kernel_rfl)(h2:KJ ops A F D=l:=by kernel_rfl):Lin P ops A F cx Q (n+1) D T env H:=Vp h1 h2 h
theorem Yz(f:Nat){o:Oper}{Ps:Value->Hp->Prop}(m D':Nat)(is:List Nat)(bs:List Bool)(T':List (Nat×A8))(ho:ops[f]?=some o)(hg:∀a,wantedE ops a env o.guard=true)(hD:D|||(1<<<f)=D')(hm:A[f]?=some m)(his:T.map (·.1)=is)(hT:sel bs T=T')(hw:OpW P cx.u o env H Ps (fun _ _=>False))
 (k:∀v H',Ps v H'->(∀p∈T',p.2∈H'.flatten)/\Lin P ops A F cx Q n D' T' (putE o.dst v env) H')(hok:Nv m bs is=true:=by kernel_rfl)(h1:ja ops A F D=true:=by kernel_rfl)(h2:KJ ops A F D=[f]:=by kernel_rfl):Lin P ops A F cx Q (n+1) D T env H:=Vp h1 h2 (Ux ho hg hD hm his hok hT hw k (fun _ _ h=>h.elim) Ae)
end
theorem Wh{b:Nat}{o:Obj}{H:Hp}(h:Has b o H:=by repeat(first|exact Has.here _|apply Has.there)):Has b o H:=h
theorem Wu{b:Nat}{x y:Obj}{H H':Hp}(h:Upd b x y H H':=by repeat(first|exact Upd.here _|apply Upd.there)):Upd b x y H H':=h
theorem Wo{s:List A8}{H R:Hp}(h:One s H R:=by repeat(first|exact One.here _ _|apply One.there)):One s H R:=h
theorem Wp{G H R:Hp}(h:EY G H R:=by repeat(first|exact EY.nil _|(apply EY.cons;(focus (repeat(first|exact One.here _ _|apply One.there)))))):EY G H R:=h
theorem Wb{p:Prop}(h:p:=by first|omega|decide|(simp;done)):p:=h
theorem Wn{p:Prop}(h:p:=by first|decide|exact zh _|(simp;done)|(simp;omega)):p:=h
theorem mL:maxLen=9223372036854775807:=rfl
theorem Se{P:Program}{f:FuncId}{fn:Func}{c:Code}{args:Array Value}{N:Nat}{H:Hp}{Q:Value->Hp->Prop}{Pn:List PanicEntry->Hp->Prop}{e:Env}(hf:P.funcs[f]?=some fn)(hN:fn.ntmps=N)(sl:List Nat)
 (h:∀u R,At P ⟨N,[],u,none⟩ c (bodyPost P fn (Fw u R Q Pn)) e (H++R))(hb:fn.body=some c:=by exact rfl)(hs:Nat.ble args.size N=true:=by exact rfl)(hn:sl.all (fun t=>Nat.blt t N)=true:=by exact rfl)
 (he:V9 (FD 0 args.toList) sl e:=by repeat(first|exact Oz|(apply Mw;exact fun _=>rfl))):Ki P f args H Q Pn:=K9 hf hb hN hs fun u R=>Zb sl (h u R) hn he
section
variable{P:Program}{u:World}{env:Env}{H H' R:Hp}{d:Option Nat}{ty:TypeId}{pos:String}{af:Array Edge}{g:Option (Nat×Bool)}
theorem Xw{t:TypeId}{x y:Operand}{b i n:Nat}{c cs:Array Value}{T:TypeId}{z:Nat×Nat}(hs:∀w:World,(Go.sizeOf t).run P w= .ok n w)(c':Array Value)(hx:∀a,ev a env x= .pointer (some ⟨b,i,none⟩):=by exact fun _=>rfl)(hy:∀a,ev a env y= .agg cs:=by exact fun _=>rfl)
 (h1:∀v∈cs.toList,v.oneCell'=true:=by first|(simp [Value.oneCell'];done)|(simp [Value.oneCell',Value.cells];done))(hu:Upd b (.cells c T z) (.cells c' T z) H H':=by repeat(first|exact Upd.here _|apply Upd.there))(hc:Dp c i cs.toList=c':=by rfl)(hn:cs.size=n:=by first|rfl|(simp;done))
 (hi:i+n<=c.size:=by first|omega|decide|exact zh _|(simp;done)|(simp;omega))(hz:IA z c.size:=by exact BF _):OpW P u ⟨d,.store t x y,ty,pos,af,g⟩ env H (fun v' H1=>v'=undef/\H1=H') (fun _ _=>False):=BK hs hx hy h1 hu hc hn hi hz
theorem Pa{d:Option Nat}{t:TypeId}{x:Operand}{b i n:Nat}{c:Array Value}{T:TypeId}{z:Nat×Nat}(cs:Array Value)(ha:∀w:World,(isAgg t).run P w= .ok true w)(hs:∀w:World,(Go.sizeOf t).run P w= .ok n w)(hx:∀a,ev a env x= .pointer (some ⟨b,i,none⟩))
 (hn:i+n<=c.size:=by first|omega|decide|exact zh _|(simp;done)|(simp;omega))(hv:c.extract i (i+n)=cs:=by rfl):OpP P ⟨d,.load t x,ty,pos,af,g⟩ env [(b,.cells c T z)] (.agg cs):=AA ha hs hx hn hv
theorem Bx{t:TypeId}{x:Operand}{v:Value}(cs:Array Value)(hx:∀a,ev a env x=v:=by exact fun _=>rfl)(hc:v.cells=cs:=by first|rfl|(simp [Value.cells];done)):OpW P u ⟨d,.box t x,ty,pos,af,g⟩ env H (fun v' H1=>∃b,v'=I5 b/\H1=[(b,.cells cs t (0,0))]::H) (fun _ _=>False):=EX hx hc
theorem Al{t:TypeId}{zv:Value}(hz:∀w:World,(zeroValue t).run P w= .ok zv w)(cs:Array Value)(hc:zv.cells=cs:=by rfl):OpW P u ⟨d,.alloc t,ty,pos,af,g⟩ env H (fun v' H1=>∃b,v'=I5 b/\H1=[(b,.cells cs t (0,0))]::H) (fun _ _=>False):=EB hz hc
end
section
variable{P:Program}{ops:Array Oper}{A:List Nat}{F:Nat}{cx:Cx}{Q:Exit->Act->World->Prop}{n D:Nat}{T:List (Nat×A8)}{env:Env}{H:Hp}{ty:TypeId}{pos:String}{af:Array Edge}
theorem Yw(f D':Nat){o:Oper}{Ps:Value->Hp->Prop}{m:Nat}(ho:ops[f]?=some o)(hw:OpW P cx.u o env H Ps (fun _ _=>False))(k:∀v H',Ps v H'->Lin P ops A F cx Q n D' [] (putE o.dst v env) H')(hg:∀a,wantedE ops a env o.guard=true:=by exact fun _=>rfl)(hD:D|||(1<<<f)=D':=by exact rfl)
 (hm:A[f]?=some m:=by exact rfl)(hok:(T.all fun p=>bit m p.1)=true:=by kernel_rfl)(h1:ja ops A F D=true:=by kernel_rfl)(h2:KJ ops A F D=[f]:=by kernel_rfl):Lin P ops A F cx Q (n+1) D T env H:=by
 have hmf:A.getD f 0=m:=by rw [AB5,hm];rfl
 subst hD;refine Vp h1 h2 ⟨⟨o,[],ho,hg,fun p hp=> .inl (by rw [hmf];exact AE0.1 hok p hp),fun a w hs K Kp hK hKp=>hw a w hs K Kp (fun v H' w' h3 h4=>hK v H' w' ⟨AV,k v H' h3⟩ h4) (fun ch H' w' h3 h4=>h3.elim)⟩,Ae⟩
end
section
variable{P:Program}{ops:Array Oper}{A:List Nat}{F:Nat}{cx:Cx}{Q:Exit->Act->World->Prop}{n D:Nat}{T:List (Nat×A8)}{env:Env}{H:Hp}{ty:TypeId}{pos:String}{af:Array Edge}
theorem An9{d:Nat}{op:Op}{v:Value}(i:Nat)(ho:ops[i]?=some ⟨some d,op,ty,pos,af,none⟩)(hop:OpP P ⟨some d,op,ty,pos,af,none⟩ env [] v)(k:Lin P ops A F cx Q n (D|||(1<<<i)) T ((d,v)::env) H)(h1:(!bit F i&&!bit D i&&Eb (A.getD i 0) D)=true:=by exact rfl):Lin P ops A F cx Q (n+1) D T env H:=vJ i ho h1 rfl hop k
theorem Ao0{d:Nat}{t:TypeId}{x:Operand}{b j:Nat}{c:Array Value}{U:TypeId}{z:Nat×Nat}{v:Value}(i:Nat)(ho:ops[i]?=some ⟨some d,.load t x,ty,pos,af,none⟩)(ha:∀w:World,(isAgg t).run P w= .ok false w)(hx:∀a,ev a env x= .pointer (some ⟨b,j,none⟩))(k:Lin P ops A F cx Q n (D|||(1<<<i)) ((i,(b,.cells c U z))::T) ((d,v)::env) H)
 (hb:Has b (.cells c U z) H:=by repeat(first|exact Has.here _|apply Has.there))(hv:c[j]?=some v:=by rfl)(h1:(!bit F i&&!bit D i&&Eb (A.getD i 0) D)=true:=by exact rfl):Lin P ops A F cx Q (n+1) D T env H:=Cq i ho h1 rfl hb (BX ha hx hv) k
theorem Ao1{o:Oper}(i:Nat)(ho:ops[i]?=some o)(k:Lin P ops A F cx Q n (D|||(1<<<i)) T (putE o.dst undef env) H)(hg:∀a,wantedE ops a env o.guard=false:=by exact fun _=>rfl)(h1:(!bit D i&&Eb (A.getD i 0) D)=true:=by exact rfl):Lin P ops A F cx Q (n+1) D T env H:=oC i ho hg h1 rfl k
theorem Ao2{d:Nat}{op:Op}{g:Nat×Bool}{v:Value}(i:Nat)(ho:ops[i]?=some ⟨some d,op,ty,pos,af,some g⟩)(hop:OpP P ⟨some d,op,ty,pos,af,some g⟩ env [] v)(k:Lin P ops A F cx Q n (D|||(1<<<i)) T ((d,v)::env) H)(hg:∀a,wantedE ops a env (some g)=true:=by exact fun _=>rfl)(h1:(!bit F i&&!bit D i&&Eb (A.getD i 0) D)=true:=by exact rfl):Lin P ops A F cx Q (n+1) D T env H:=BA i hg ho h1 rfl hop k
theorem Ao3{d:Nat}{op:Op}{g:Nat×Bool}{v:Value}{b:Nat}{x:Obj}(i:Nat)(ho:ops[i]?=some ⟨some d,op,ty,pos,af,some g⟩)(hb:Has b x H)(hop:OpP P ⟨some d,op,ty,pos,af,some g⟩ env [(b,x)] v)(k:Lin P ops A F cx Q n (D|||(1<<<i)) ((i,(b,x))::T) ((d,v)::env) H)(hg:∀a,wantedE ops a env (some g)=true:=by exact fun _=>rfl)(h1:(!bit F i&&!bit D i&&Eb (A.getD i 0) D)=true:=by exact rfl):Lin P ops A F cx Q (n+1) D T env H:=Ca i hg ho h1 rfl hb hop k
theorem Ao4{d:Nat}{op:Op}{v:Value}{b:Nat}{x:Obj}(i:Nat)(ho:ops[i]?=some ⟨some d,op,ty,pos,af,none⟩)(hb:Has b x H)(hop:OpP P ⟨some d,op,ty,pos,af,none⟩ env [(b,x)] v)(k:Lin P ops A F cx Q n (D|||(1<<<i)) ((i,(b,x))::T) ((d,v)::env) H)(h1:(!bit F i&&!bit D i&&Eb (A.getD i 0) D)=true:=by exact rfl):Lin P ops A F cx Q (n+1) D T env H:=Cq i ho h1 rfl hb hop k
theorem Ao5{f:Nat}{l:List Nat}{o:Oper}{Ps:Value->Hp->Prop}{Pn:List PanicEntry->Hp->Prop}(bs:List Bool)(T':List (Nat×A8))(ho:ops[f]?=some o)(hT:sel bs T=T')(hw:OpW P cx.u o env H Ps Pn)
 (k:∀v H',Ps v H'->(∀p∈T',p.2∈H'.flatten)/\Lin P ops A F cx Q n (D|||(1<<<f)) T' (putE o.dst v env) H')(kp:∀ch H',Pn ch H'->∀env,Nx cx (Q (.panic ch)) env H')(hl:Wd P ops A F cx Q n D T env H l)(hg:∀a,wantedE ops a env o.guard=true:=by exact fun _=>rfl){m:Nat}(hm:A[f]?=some m:=by exact rfl)(hok:Nv m bs (T.map (·.1))=true:=by kernel_rfl):Wd P ops A F cx Q n D T env H (f::l):=Ux ho hg rfl hm rfl hok hT hw k kp hl
end
end Gw
