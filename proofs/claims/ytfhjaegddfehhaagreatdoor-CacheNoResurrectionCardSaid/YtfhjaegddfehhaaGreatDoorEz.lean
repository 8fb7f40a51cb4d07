/- Short forms of the laws of the chunk walk: what every step repeats is a default here. No function of the program is named. -/
import Derived.Test.YtfhjaegddfehhaaGreatDoorEx5
set_option linter.unusedVariables false
set_option linter.unusedSimpArgs false
namespace Gw
open Go Go.RowKit
theorem Y{α β:Type}{f:α->β}:∀a,f a=f a:=fun _=>rfl
def WM(env:Env)(sl:List Nat)(e:Env):Prop:=∀a,JZ a env sl=e
theorem Pm{env:Env}:WM env [] []:=fun _=>rfl
theorem Nb{env:Env}{t:Nat}{v:Value}{l:List Nat}{e:Env}(h:∀a,G8 a env t=v)(h2:WM env l e):WM env (t::l) ((t,v)::e):=fun a=>by
 simp only [JZ];rw [h a,h2 a]
theorem Zb{P:Program}{cx:Cx}{c:Code}{Q:Exit->Act->World->Prop}{env m:Env}{H:Hp}(B:List Nat)(h:At P cx c Q m H)(hn:B.all (fun t=>Nat.blt t cx.N)=true:=by exact rfl)(G:WM env B m:=by repeat(first|exact Pm|(apply Nb;exact fun _=>rfl))):At P cx c Q env H:=ut B hn G h
theorem Zn{cx:Cx}{Q:Act->World->Prop}{env m:Env}{H:Hp}(B:List Nat)(h:Nx cx Q m H)(hn:B.all (fun t=>Nat.blt t cx.N)=true:=by exact rfl)(G:WM env B m:=by repeat(first|exact Pm|(apply Nb;exact fun _=>rfl))):Nx cx Q env H:=rP B hn G h
section
variable{P:Program}{cx:Cx}{Q:Exit->Act->World->Prop}{env:Env}{H:Hp}
theorem Zq{x y:Code}(h:At P cx x (Exit.then (y.wpIn (Fx cx.r) 0 P Q) Q) env H):At P cx (.seq x y) Q env H:=rm h
theorem Zx{y:Code}(h:At P cx y Q env H):Nx cx ((Exit.then (y.wpIn (Fx cx.r) 0 P Q) Q) .normal) env H:=x9 h
theorem Zt{K:Act->World->Prop}{e:Exit}(h:Nx cx (Q e) env H)(m:e≠ .normal:=by(intro h;cases h;done)):Nx cx (Exit.then K Q e) env H:=x8 m h
theorem Zg{id:Nat}{ops:Array Oper}(h:Ops P ops ops.toList cx Q env H):At P cx (.region id ops false) Q env H:=ny h
end
section
variable{P:Program}{ops:Array Oper}{l:List Oper}{cx:Cx}{Q:Exit->Act->World->Prop}{env:Env}{H:Hp}{ty:TypeId}{pos:String}{af:Array Edge}
theorem Z0(h:Nx cx (Q .normal) env H):Ops P ops [] cx Q env H:=wu h
theorem Zm{d:Nat}{x:Operand}{v:Value}(hx:∀a,ev a env x=v)(k:Ops P ops l cx Q ((d,v)::env) H)(m:Nat.blt d cx.N=true:=by exact rfl):Ops P ops (⟨some d,.move x,ty,pos,af,none⟩::l) cx Q env H:=Kl (AP hx) rfl m k
theorem Za{d:Nat}{x:Operand}{v:Value}(hx:∀a,ev a env x=v)(k:Ops P ops l cx Q ((d,v)::env) H)(m:Nat.blt d cx.N=true:=by exact rfl):Ops P ops (⟨some d,.assign x,ty,pos,af,none⟩::l) cx Q env H:=Kl (Av hx) rfl m k
theorem Zp{d:Nat}{x:Operand}{v:Value}(hx:∀a,ev a env x=v)(hv:rU v=true)(k:Ops P ops l cx Q ((d,v)::env) H)(m:Nat.blt d cx.N=true:=by exact rfl):Ops P ops (⟨some d,.nilCheck x,ty,pos,af,none⟩::l) cx Q env H:=Kl (Ap hx hv) rfl m k
theorem Zd{d:Nat}{x:Operand}{i:Nat}{vs:Array Value}{v:Value}(hx:∀a,ev a env x= .tuple vs)(hv:vs[i]?=some v)(k:Ops P ops l cx Q ((d,v)::env) H)(m:Nat.blt d cx.N=true:=by exact rfl):Ops P ops (⟨some d,.extract x i,ty,pos,af,none⟩::l) cx Q env H:=Kl (Bz hx hv) rfl m k
theorem Zv{d:Nat}{m:Op}{v:Value}(h:OpP P ⟨some d,m,ty,pos,af,none⟩ env [] v)(k:Ops P ops l cx Q ((d,v)::env) H)(hn:Dy m=true:=by exact rfl)(B:Nat.blt d cx.N=true:=by exact rfl):Ops P ops (⟨some d,m,ty,pos,af,none⟩::l) cx Q env H:=Kl h hn B k
theorem Zf{d:Nat}{g:Nat×Bool}{x:Operand}{v:Value}(B:∀a,wantedE ops a env (some g)=true)(hx:∀a,ev a env x=v)(k:Ops P ops l cx Q ((d,v)::env) H)(m:Nat.blt d cx.N=true:=by exact rfl):Ops P ops (⟨some d,.move x,ty,pos,af,some g⟩::l) cx Q env H:=Gu B (AP hx) rfl m k
theorem Zh{d:Nat}{fs:Array Field}{fl:Field}{t:TypeId}{x:Operand}{f b m:Nat}(off:Nat)(K:P.underlying t=some (.struct fs))(G:fs[f]?=some fl)(I:fl.offset=off)(J:∀w:World,(Go.sizeOf fl.type).run P w= .ok (m+1) w)(hx:∀a,ev a env x=I5 b)(k:Ops P ops l cx Q ((d,.pointer (some ⟨b,off,none⟩))::env) H)(B:Nat.blt d cx.N=true:=by exact rfl):Ops P ops (⟨some d,.fieldAddr t x f,ty,pos,af,none⟩::l) cx Q env H:=Kl (AB K G I J hx) rfl B k
theorem Zl{d:Nat}{t:TypeId}{x:Operand}{b i:Nat}{c:Array Value}{T:TypeId}{z:Nat×Nat}{v:Value}(m:∀w:World,(isAgg t).run P w= .ok false w)(hx:∀a,ev a env x= .pointer (some ⟨b,i,none⟩))(k:Ops P ops l cx Q ((d,v)::env) H)(B:Has b (.cells c T z) H:=by(repeat(first|exact Has.here _|apply Has.there));done)(hv:c[i]?=some v:=by rfl)(G:Nat.blt d cx.N=true:=by exact rfl):Ops P ops (⟨some d,.load t x,ty,pos,af,none⟩::l) cx Q env H:=pC B (BP m hx hv) rfl G k
theorem Yl{d:Nat}{g:Nat×Bool}{t:TypeId}{x:Operand}{b i:Nat}{c:Array Value}{T:TypeId}{z:Nat×Nat}{v:Value}(m:∀w:World,(isAgg t).run P w= .ok false w)(hx:∀a,ev a env x= .pointer (some ⟨b,i,none⟩))(k:Ops P ops l cx Q ((d,v)::env) H)(B:Has b (.cells c T z) H:=by(repeat(first|exact Has.here _|apply Has.there));done)(hv:c[i]?=some v:=by rfl)(I:∀a,wantedE ops a env (some g)=true:=by exact fun _=>rfl)(G:Nat.blt d cx.N=true:=by exact rfl):Ops P ops (⟨some d,.load t x,ty,pos,af,some g⟩::l) cx Q env H:=Dx I B (BP m hx hv) rfl G k
theorem Yf{d:Nat}{g:Nat×Bool}{fs:Array Field}{fl:Field}{t:TypeId}{x:Operand}{f b m:Nat}(off:Nat)(O:P.underlying t=some (.struct fs))(G:fs[f]?=some fl)(J:fl.offset=off)(K:∀w:World,(Go.sizeOf fl.type).run P w= .ok (m+1) w)(hx:∀a,ev a env x=I5 b)(k:Ops P ops l cx Q ((d,.pointer (some ⟨b,off,none⟩))::env) H)(I:∀a,wantedE ops a env (some g)=true:=by exact fun _=>rfl)(B:Nat.blt d cx.N=true:=by exact rfl):Ops P ops (⟨some d,.fieldAddr t x f,ty,pos,af,some g⟩::l) cx Q env H:=Gu I (AB O G J K hx) rfl B k
theorem Yg{d:Nat}{g:Nat×Bool}{m:Op}{v:Value}(h:OpP P ⟨some d,m,ty,pos,af,some g⟩ env [] v)(k:Ops P ops l cx Q ((d,v)::env) H)(G:∀a,wantedE ops a env (some g)=true:=by exact fun _=>rfl)(hn:Dy m=true:=by exact rfl)(B:Nat.blt d cx.N=true:=by exact rfl):Ops P ops (⟨some d,m,ty,pos,af,some g⟩::l) cx Q env H:=Gu G h hn B k
theorem Ya{d:Nat}{t yt:TypeId}{x y:Operand}{m n:Nat}(hx:∀a,ev a env x=I4 (m:Int))(hy:∀a,ev a env y=I4 (n:Int))(k:Ops P ops l cx Q ((d,I4 ((m+n:Nat):Int))::env) H)(B:m+n<=9223372036854775807:=by omega)(G:Nat.blt d cx.N=true:=by exact rfl):Ops P ops (⟨some d,.binOp .add t x y yt,ty,pos,af,none⟩::l) cx Q env H:=Kl (EC hx hy B) rfl G k
theorem Yi{d:Nat}{t yt:TypeId}{x y:Operand}{m n:Int}(hx:∀a,ev a env x=I4 m)(hy:∀a,ev a env y=I4 n)(k:Ops P ops l cx Q ((d,I4 (m+n))::env) H)(B:-9223372036854775808<=m+n/\m+n<=9223372036854775807:=by omega)(G:Nat.blt d cx.N=true:=by exact rfl):Ops P ops (⟨some d,.binOp .add t x y yt,ty,pos,af,none⟩::l) cx Q env H:=Kl (He hx hy (IntWalk.i64_in _ B)) rfl G k
theorem Yb{d:Nat}{t yt:TypeId}{x y:Operand}{m n:Nat}(hx:∀a,ev a env x=I4 (m:Int))(hy:∀a,ev a env y=I4 (n:Int))(k:Ops P ops l cx Q ((d,I4 ((m -n:Nat):Int))::env) H)(B:n<=m:=by omega)(I:m<=9223372036854775807:=by omega)(G:Nat.blt d cx.N=true:=by exact rfl):Ops P ops (⟨some d,.binOp .sub t x y yt,ty,pos,af,none⟩::l) cx Q env H:=Kl (CO hx hy B I) rfl G k
theorem Zo{d:Nat}{m:Op}{v:Value}{b:Nat}{o:Obj}(B:Has b o H)(h:OpP P ⟨some d,m,ty,pos,af,none⟩ env [(b,o)] v)(k:Ops P ops l cx Q ((d,v)::env) H)(hn:Dy m=true:=by exact rfl)(G:Nat.blt d cx.N=true:=by exact rfl):Ops P ops (⟨some d,m,ty,pos,af,none⟩::l) cx Q env H:=pC B h hn G k
end
section
variable{P:Program}{u:World}{ops:Array Oper}{l:List Oper}{cx:Cx}{Qe:Exit->Act->World->Prop}{env:Env}{H H' R:Hp}{d:Option Nat}{ty:TypeId}{pos:String}{af:Array Edge}{g:Option (Nat×Bool)}
theorem Ze{m:Op}{B:Value->Hp->Prop}(h:OpW P cx.u ⟨d,m,ty,pos,af,g⟩ env H B (fun _ _=>False))(k:∀v H',B v H'->Ops P ops l cx Qe (putE d v env) H')(I:∀a,wantedE ops a env g=true:=by exact fun _=>rfl)(hn:Dy m=true:=by exact rfl)(G:fits cx.N d=true:=by exact rfl):Ops P ops (⟨d,m,ty,pos,af,g⟩::l) cx Qe env H:=ww h I hn G k
theorem Xe{m:Op}{v0:Value}{H0:Hp}(h:OpW P cx.u ⟨d,m,ty,pos,af,g⟩ env H (fun v H'=>v=v0/\H'=H0) (fun _ _=>False))(k:Ops P ops l cx Qe (putE d v0 env) H0)(G:∀a,wantedE ops a env g=true:=by exact fun _=>rfl)(hn:Dy m=true:=by exact rfl)(B:fits cx.N d=true:=by exact rfl):Ops P ops (⟨d,m,ty,pos,af,g⟩::l) cx Qe env H:=ww h G hn B (by rintro _ _ ⟨rfl,rfl⟩;exact k)
theorem Zw(vs:List Value){O:Operand}{K:Array Operand}{B:Array TypeId}{f:FuncId}{first m args:Array Value}{I:Hp}{Q:Value->Hp->Prop}{J:List PanicEntry->Hp->Prop}
 (X:∀a,ev a env O= .func (.func f) first m)(hc:∀(args:Array Value) (w:World),(callFunc f args).run P w= .ok (.enter f args) w)(W:∀a,K.toList.map (ev a env)=vs)(U:(first.toList++vs++m.toList).toArray=args)
 (G:LH P f args I Q J)(Z:Ew I H R:=by repeat(first|exact Ew.nil _|(apply Ew.cons;(focus (repeat(first|exact One.here _ _|apply One.there)))))):
 OpW P u ⟨d,.call ⟨.value O,K,B⟩,ty,pos,af,g⟩ env H (fun v H'=>∃H1,Q v H1/\H'=H1++R) (fun ch H'=>∃H1,J ch H1/\H'=H1++R):=bP X hc W U G Z
theorem Zu(vs:List Value){K:Operand}{J:Array Operand}{B:Array TypeId}{f:FuncId}{first m args:Array Value}{I:Hp}{v:Value}
 (W:∀a,ev a env K= .func (.func f) first m)(hc:∀(args:Array Value) (w:World),(callFunc f args).run P w= .ok (.enter f args) w)(U:∀a,J.toList.map (ev a env)=vs)(O:(first.toList++vs++m.toList).toArray=args)
 (G:BH P f args I v)(X:Ew I H R:=by repeat(first|exact Ew.nil _|(apply Ew.cons;(focus (repeat(first|exact One.here _ _|apply One.there)))))):
 OpW P u ⟨d,.call ⟨.value K,J,B⟩,ty,pos,af,g⟩ env H (fun Z H'=>Z=v/\H'=H) (fun _ _=>False):=WZ W hc U O G X
theorem Zc(vs:List Value){K:Operand}{J:Array Operand}{B:Array TypeId}{f:FuncId}{first m args:Array Value}{I:Hp}{Q:Value->Hp->Prop}
 (X:∀a,ev a env K= .func (.func f) first m)(hc:∀(args:Array Value) (w:World),(callFunc f args).run P w= .ok (.enter f args) w)(U:∀a,J.toList.map (ev a env)=vs)(O:(first.toList++vs++m.toList).toArray=args)
 (G:LH P f args I Q fun _ _=>False)(k:∀v H',(∃H1,Q v H1/\H'=H1++R)->Ops P ops l cx Qe (putE d v env) H')(hp:Ew I H R:=by repeat(first|exact Ew.nil _|(apply Ew.cons;(focus (repeat(first|exact One.here _ _|apply One.there))))))(Z:∀a,wantedE ops a env g=true:=by exact fun _=>rfl)(W:fits cx.N d=true:=by exact rfl):
 Ops P ops (⟨d,.call ⟨.value K,J,B⟩,ty,pos,af,g⟩::l) cx Qe env H:=Jh Z (RS W) rfl (bP X hc U O G hp) k Bv
theorem Zr(vs:List Value){K:Operand}{J:Array Operand}{B:Array TypeId}{f:FuncId}{first m args:Array Value}{I:Hp}{v:Value}
 (Z:∀a,ev a env K= .func (.func f) first m)(hc:∀(args:Array Value) (w:World),(callFunc f args).run P w= .ok (.enter f args) w)(W:∀a,J.toList.map (ev a env)=vs)(U:(first.toList++vs++m.toList).toArray=args)
 (G:BH P f args I v)(k:∀O H',O=v/\H'=H->Ops P ops l cx Qe (putE d O env) H')(hp:Ew I H R:=by repeat(first|exact Ew.nil _|(apply Ew.cons;(focus (repeat(first|exact One.here _ _|apply One.there))))))(hg:∀a,wantedE ops a env g=true:=by exact fun _=>rfl)(X:fits cx.N d=true:=by exact rfl):
 Ops P ops (⟨d,.call ⟨.value K,J,B⟩,ty,pos,af,g⟩::l) cx Qe env H:=ww (WZ Z hc W U G hp) hg rfl X k
theorem Xr(vs:List Value){K:Operand}{J:Array Operand}{B:Array TypeId}{f:FuncId}{first m args:Array Value}{I:Hp}{v:Value}
 (X:∀a,ev a env K= .func (.func f) first m)(hc:∀(args:Array Value) (w:World),(callFunc f args).run P w= .ok (.enter f args) w)(U:∀a,J.toList.map (ev a env)=vs)(O:(first.toList++vs++m.toList).toArray=args)
 (G:BH P f args I v)(k:Ops P ops l cx Qe (putE d v env) H)(hp:Ew I H R:=by repeat(first|exact Ew.nil _|(apply Ew.cons;(focus (repeat(first|exact One.here _ _|apply One.there))))))(Z:∀a,wantedE ops a env g=true:=by exact fun _=>rfl)(W:fits cx.N d=true:=by exact rfl):
 Ops P ops (⟨d,.call ⟨.value K,J,B⟩,ty,pos,af,g⟩::l) cx Qe env H:=ww (WZ X hc U O G hp) Z rfl W (by rintro _ _ ⟨rfl,rfl⟩;exact k)
theorem Zs{t:TypeId}{x y:Operand}{b i:Nat}{c c':Array Value}{T:TypeId}{z:Nat×Nat}{v:Value}(B:∀w:World,(Go.sizeOf t).run P w= .ok 1 w)(hx:∀a,ev a env x= .pointer (some ⟨b,i,none⟩))(hy:∀a,ev a env y=v)(m:v.oneCell'=true)
 (G:Upd b (.cells c T z) (.cells c' T z) H H':=by repeat(first|exact Upd.here _|apply Upd.there))(hc:c.setIfInBounds i v=c':=by rfl)(hi:i<c.size:=by first|decide|exact CM _|(simp;done)|(simp;omega))(hz:Ih z c.size:=by exact BB _):
 OpW P u ⟨d,.store t x y,ty,pos,af,g⟩ env H (fun I H1=>I=undef/\H1=H') (fun _ _=>False):=vv B hx hy m G hc hi hz
end
section
variable{P:Program}{ops:Array Oper}{A:List Nat}{F:Nat}{cx:Cx}{Q:Exit->Act->World->Prop}{n D:Nat}{T:List (Nat×AA)}{env:Env}{H:Hp}{ty:TypeId}{pos:String}{af:Array Edge}
theorem Yk{o:Oper}(D' i:Nat)(I:ops[i]?=some o)(k:Lin P ops A F cx Q n D' T (putE o.dst undef env) H)(G:∀a,wantedE ops a env o.guard=false:=by exact fun _=>rfl)(m:(!bit D i&&Ez (A.getD i 0) D)=true:=by exact rfl)(B:D|||(1<<<i)=D':=by exact rfl):Lin P ops A F cx Q (n+1) D T env H:=sK i I G m B k
theorem Zi{d:Nat}{B:Op}{v:Value}(D' i:Nat)(J:ops[i]?=some ⟨some d,B,ty,pos,af,none⟩)(m:OpP P ⟨some d,B,ty,pos,af,none⟩ env [] v)(k:Lin P ops A F cx Q n D' T ((d,v)::env) H)(G:(!bit F i&&!bit D i&&Ez (A.getD i 0) D)=true:=by exact rfl)(I:D|||(1<<<i)=D':=by exact rfl):Lin P ops A F cx Q (n+1) D T env H:=yf i J G I m k
theorem Zj{d:Nat}{t:TypeId}{x:Operand}{b j:Nat}{c:Array Value}{U:TypeId}{z:Nat×Nat}{v:Value}(D' i:Nat)(J:ops[i]?=some ⟨some d,.load t x,ty,pos,af,none⟩)(G:∀w:World,(isAgg t).run P w= .ok false w)(hx:∀a,ev a env x= .pointer (some ⟨b,j,none⟩))(k:Lin P ops A F cx Q n D' ((i,(b,.cells c U z))::T) ((d,v)::env) H)
 (I:Has b (.cells c U z) H:=by repeat(first|exact Has.here _|apply Has.there))(hv:c[j]?=some v:=by rfl)(m:(!bit F i&&!bit D i&&Ez (A.getD i 0) D)=true:=by exact rfl)(B:D|||(1<<<i)=D':=by exact rfl):Lin P ops A F cx Q (n+1) D T env H:=Cz i J m B I (BP G hx hv) k
theorem Zk{H:Hp}{i b:Nat}{x:Obj}{T:List (Nat×AA)}(m:∀p∈T,p.2∈H.flatten)(h:Has b x H:=by repeat(first|exact Has.here _|apply Has.there)):∀p∈((i,(b,x))::T),p.2∈H.flatten:=mG h m
theorem Zy{f:Nat}{l:List Nat}{o:Oper}{K:Value->Hp->Prop}{J:List PanicEntry->Hp->Prop}(m D':Nat)(is:List Nat)(bs:List Bool)(B:List (Nat×AA))(ho:ops[f]?=some o)(W:∀a,wantedE ops a env o.guard=true)(O:D|||(1<<<f)=D')(Z:A[f]?=some m)(G:T.map (·.1)=is)(U:sel bs T=B)(hw:OpW P cx.u o env H K J)
 (k:∀v H',K v H'->(∀p∈B,p.2∈H'.flatten)/\Lin P ops A F cx Q n D' B (putE o.dst v env) H')(kp:∀ch H',J ch H'->∀env,Nx cx (Q (.panic ch)) env H')(X:Xz P ops A F cx Q n D T env H l)(I:OX m bs is=true:=by kernel_rfl):Xz P ops A F cx Q n D T env H (f::l):=WB ho W O Z G I U hw k kp X
theorem Zz{l:List Nat}(h:Xz P ops A F cx Q n D T env H l)(m:mh ops A F D=true:=by kernel_rfl)(h2:Ko ops A F D=l:=by kernel_rfl):Lin P ops A F cx Q (n+1) D T env H:=XK m h2 h
theorem Yz(f:Nat){o:Oper}{J:Value->Hp->Prop}(m D':Nat)(is:List Nat)(bs:List Bool)(B:List (Nat×AA))(Z:ops[f]?=some o)(W:∀a,wantedE ops a env o.guard=true)(O:D|||(1<<<f)=D')(X:A[f]?=some m)(G:T.map (·.1)=is)(U:sel bs T=B)(hw:OpW P cx.u o env H J (fun _ _=>False))
 (k:∀v H',J v H'->(∀p∈B,p.2∈H'.flatten)/\Lin P ops A F cx Q n D' B (putE o.dst v env) H')(I:OX m bs is=true:=by kernel_rfl)(K:mh ops A F D=true:=by kernel_rfl)(h2:Ko ops A F D=[f]:=by kernel_rfl):Lin P ops A F cx Q (n+1) D T env H:=XK K h2 (WB Z W O X G I U hw k (fun _ _ h=>h.elim) Ai)
end
theorem Wh{b:Nat}{o:Obj}{H:Hp}(h:Has b o H:=by repeat(first|exact Has.here _|apply Has.there)):Has b o H:=h
theorem Wu{b:Nat}{x y:Obj}{H H':Hp}(h:Upd b x y H H':=by repeat(first|exact Upd.here _|apply Upd.there)):Upd b x y H H':=h
theorem Wo{s:List AA}{H R:Hp}(h:One s H R:=by repeat(first|exact One.here _ _|apply One.there)):One s H R:=h
theorem Wp{G H R:Hp}(h:Ew G H R:=by repeat(first|exact Ew.nil _|(apply Ew.cons;(focus (repeat(first|exact One.here _ _|apply One.there)))))):Ew G H R:=h
theorem Wb{p:Prop}(h:p:=by first|omega|decide|(simp;done)):p:=h
theorem Wn{p:Prop}(h:p:=by first|decide|exact CM _|(simp;done)|(simp;omega)):p:=h
theorem mL:maxLen=9223372036854775807:=rfl
theorem Se{P:Program}{f:FuncId}{m:Func}{c:Code}{args:Array Value}{N:Nat}{H:Hp}{Q:Value->Hp->Prop}{G:List PanicEntry->Hp->Prop}{e:Env}(O:P.funcs[f]?=some m)(I:m.ntmps=N)(B:List Nat)
 (h:∀u R,At P ⟨N,[],u,none⟩ c (bodyPost P m (GX u R Q G)) e (H++R))(J:m.body=some c:=by exact rfl)(U:Nat.ble args.size N=true:=by exact rfl)(hn:B.all (fun t=>Nat.blt t N)=true:=by exact rfl)
 (K:WM (FZ 0 args.toList) B e:=by repeat(first|exact Pm|(apply Nb;exact fun _=>rfl))):LH P f args H Q G:=Ka O J I U fun u R=>Zb B (h u R) hn K
section
variable{P:Program}{u:World}{env:Env}{H H' R:Hp}{d:Option Nat}{ty:TypeId}{pos:String}{af:Array Edge}{g:Option (Nat×Bool)}
theorem Xw{t:TypeId}{x y:Operand}{b i n:Nat}{c cs:Array Value}{T:TypeId}{z:Nat×Nat}(B:∀w:World,(Go.sizeOf t).run P w= .ok n w)(c':Array Value)(hx:∀a,ev a env x= .pointer (some ⟨b,i,none⟩):=by exact fun _=>rfl)(hy:∀a,ev a env y= .agg cs:=by exact fun _=>rfl)
 (m:∀v∈cs.toList,v.oneCell'=true:=by first|(simp [Value.oneCell'];done)|(simp [Value.oneCell',Value.cells];done))(G:Upd b (.cells c T z) (.cells c' T z) H H':=by repeat(first|exact Upd.here _|apply Upd.there))(hc:EL c i cs.toList=c':=by rfl)(hn:cs.size=n:=by first|rfl|(simp;done))
 (hi:i+n<=c.size:=by first|omega|decide|exact CM _|(simp;done)|(simp;omega))(hz:Ih z c.size:=by exact BB _):OpW P u ⟨d,.store t x y,ty,pos,af,g⟩ env H (fun I H1=>I=undef/\H1=H') (fun _ _=>False):=BL B hx hy m G hc hn hi hz
theorem Pa{d:Option Nat}{t:TypeId}{x:Operand}{b i n:Nat}{c:Array Value}{T:TypeId}{z:Nat×Nat}(cs:Array Value)(m:∀w:World,(isAgg t).run P w= .ok true w)(B:∀w:World,(Go.sizeOf t).run P w= .ok n w)(hx:∀a,ev a env x= .pointer (some ⟨b,i,none⟩))
 (hn:i+n<=c.size:=by first|omega|decide|exact CM _|(simp;done)|(simp;omega))(hv:c.extract i (i+n)=cs:=by rfl):OpP P ⟨d,.load t x,ty,pos,af,g⟩ env [(b,.cells c T z)] (.agg cs):=A9 m B hx hn hv
theorem Bx{t:TypeId}{x:Operand}{v:Value}(cs:Array Value)(hx:∀a,ev a env x=v:=by exact fun _=>rfl)(hc:v.cells=cs:=by first|rfl|(simp [Value.cells];done)):OpW P u ⟨d,.box t x,ty,pos,af,g⟩ env H (fun m H1=>∃b,m=I5 b/\H1=[(b,.cells cs t (0,0))]::H) (fun _ _=>False):=Eu hx hc
theorem Al{t:TypeId}{m:Value}(hz:∀w:World,(zeroValue t).run P w= .ok m w)(cs:Array Value)(hc:m.cells=cs:=by rfl):OpW P u ⟨d,.alloc t,ty,pos,af,g⟩ env H (fun B H1=>∃b,B=I5 b/\H1=[(b,.cells cs t (0,0))]::H) (fun _ _=>False):=Ea hz hc
end
section
variable{P:Program}{ops:Array Oper}{A:List Nat}{F:Nat}{cx:Cx}{Q:Exit->Act->World->Prop}{n D:Nat}{T:List (Nat×AA)}{env:Env}{H:Hp}{ty:TypeId}{pos:String}{af:Array Edge}
theorem Yw(f D':Nat){o:Oper}{J:Value->Hp->Prop}{m:Nat}(ho:ops[f]?=some o)(hw:OpW P cx.u o env H J (fun _ _=>False))(k:∀v H',J v H'->Lin P ops A F cx Q n D' [] (putE o.dst v env) H')(hg:∀a,wantedE ops a env o.guard=true:=by exact fun _=>rfl)(Z:D|||(1<<<f)=D':=by exact rfl)
 (hm:A[f]?=some m:=by exact rfl)(I:(T.all fun p=>bit m p.1)=true:=by kernel_rfl)(X:mh ops A F D=true:=by kernel_rfl)(h2:Ko ops A F D=[f]:=by kernel_rfl):Lin P ops A F cx Q (n+1) D T env H:=by
 have G:A.getD f 0=m:=by rw [My,hm];rfl
 subst Z;refine XK X h2 ⟨⟨o,[],ho,hg,fun p hp=> .inl (by rw [G];exact N0.1 I p hp),fun a w hs K W hK af=>hw a w hs K W (fun v H' U B O=>hK v H' U ⟨Aa,k v H' B⟩ O) (fun ch H' U B O=>B.elim)⟩,Ai⟩
end
section
variable{P:Program}{ops:Array Oper}{A:List Nat}{F:Nat}{cx:Cx}{Q:Exit->Act->World->Prop}{n D:Nat}{T:List (Nat×AA)}{env:Env}{H:Hp}{ty:TypeId}{pos:String}{af:Array Edge}
theorem A2{d:Nat}{B:Op}{v:Value}(i:Nat)(I:ops[i]?=some ⟨some d,B,ty,pos,af,none⟩)(m:OpP P ⟨some d,B,ty,pos,af,none⟩ env [] v)(k:Lin P ops A F cx Q n (D|||(1<<<i)) T ((d,v)::env) H)(G:(!bit F i&&!bit D i&&Ez (A.getD i 0) D)=true:=by exact rfl):Lin P ops A F cx Q (n+1) D T env H:=yf i I G rfl m k
theorem B2{d:Nat}{t:TypeId}{x:Operand}{b j:Nat}{c:Array Value}{U:TypeId}{z:Nat×Nat}{v:Value}(i:Nat)(I:ops[i]?=some ⟨some d,.load t x,ty,pos,af,none⟩)(B:∀w:World,(isAgg t).run P w= .ok false w)(hx:∀a,ev a env x= .pointer (some ⟨b,j,none⟩))(k:Lin P ops A F cx Q n (D|||(1<<<i)) ((i,(b,.cells c U z))::T) ((d,v)::env) H)
 (G:Has b (.cells c U z) H:=by repeat(first|exact Has.here _|apply Has.there))(hv:c[j]?=some v:=by rfl)(m:(!bit F i&&!bit D i&&Ez (A.getD i 0) D)=true:=by exact rfl):Lin P ops A F cx Q (n+1) D T env H:=Cz i I m rfl G (BP B hx hv) k
theorem AF{o:Oper}(i:Nat)(G:ops[i]?=some o)(k:Lin P ops A F cx Q n (D|||(1<<<i)) T (putE o.dst undef env) H)(B:∀a,wantedE ops a env o.guard=false:=by exact fun _=>rfl)(m:(!bit D i&&Ez (A.getD i 0) D)=true:=by exact rfl):Lin P ops A F cx Q (n+1) D T env H:=sK i G B m rfl k
theorem An{d:Nat}{B:Op}{g:Nat×Bool}{v:Value}(i:Nat)(J:ops[i]?=some ⟨some d,B,ty,pos,af,some g⟩)(m:OpP P ⟨some d,B,ty,pos,af,some g⟩ env [] v)(k:Lin P ops A F cx Q n (D|||(1<<<i)) T ((d,v)::env) H)(I:∀a,wantedE ops a env (some g)=true:=by exact fun _=>rfl)(G:(!bit F i&&!bit D i&&Ez (A.getD i 0) D)=true:=by exact rfl):Lin P ops A F cx Q (n+1) D T env H:=Ak i I J G rfl m k
theorem DH{d:Nat}{B:Op}{g:Nat×Bool}{v:Value}{b:Nat}{x:Obj}(i:Nat)(K:ops[i]?=some ⟨some d,B,ty,pos,af,some g⟩)(I:Has b x H)(m:OpP P ⟨some d,B,ty,pos,af,some g⟩ env [(b,x)] v)(k:Lin P ops A F cx Q n (D|||(1<<<i)) ((i,(b,x))::T) ((d,v)::env) H)(J:∀a,wantedE ops a env (some g)=true:=by exact fun _=>rfl)(G:(!bit F i&&!bit D i&&Ez (A.getD i 0) D)=true:=by exact rfl):Lin P ops A F cx Q (n+1) D T env H:=Bw i J K G rfl I m k
theorem E7{d:Nat}{B:Op}{v:Value}{b:Nat}{x:Obj}(i:Nat)(J:ops[i]?=some ⟨some d,B,ty,pos,af,none⟩)(I:Has b x H)(m:OpP P ⟨some d,B,ty,pos,af,none⟩ env [(b,x)] v)(k:Lin P ops A F cx Q n (D|||(1<<<i)) ((i,(b,x))::T) ((d,v)::env) H)(G:(!bit F i&&!bit D i&&Ez (A.getD i 0) D)=true:=by exact rfl):Lin P ops A F cx Q (n+1) D T env H:=Cz i J G rfl I m k
theorem B1{f:Nat}{l:List Nat}{o:Oper}{J:Value->Hp->Prop}{I:List PanicEntry->Hp->Prop}(bs:List Bool)(B:List (Nat×AA))(X:ops[f]?=some o)(K:sel bs T=B)(Z:OpW P cx.u o env H J I)
 (k:∀v H',J v H'->(∀p∈B,p.2∈H'.flatten)/\Lin P ops A F cx Q n (D|||(1<<<f)) B (putE o.dst v env) H')(kp:∀ch H',I ch H'->∀env,Nx cx (Q (.panic ch)) env H')(U:Xz P ops A F cx Q n D T env H l)(O:∀a,wantedE ops a env o.guard=true:=by exact fun _=>rfl){m:Nat}(W:A[f]?=some m:=by exact rfl)(G:OX m bs (T.map (·.1))=true:=by kernel_rfl):Xz P ops A F cx Q n D T env H (f::l):=WB X O rfl W rfl G K Z k kp U
end
theorem AE{α:Type}{f:α->Value}{g:α->Hp}{P:Value->Hp->Prop}(h:∀x,P (f x) (g x)):∀v H',(∃x,v=f x/\H'=g x)->P v H':=by rintro _ _ ⟨x,rfl,rfl⟩;exact h x
theorem CT{a:Value}{b:Hp}{P:Value->Hp->Prop}(h:P a b):∀v H',(v=a/\H'=b)->P v H':=by rintro _ _ ⟨rfl,rfl⟩;exact h
theorem B6{T:List (Nat×AA)}{H:Hp}{L:Prop}(h:L)(m:∀p∈T,p.2∈H.flatten:=by repeat(first|exact Aa|refine Zk ?_)):(∀p∈T,p.2∈H.flatten)/\L:=⟨m,h⟩
section
variable{P:Program}{ops:Array Oper}{l:List Oper}{cx:Cx}{Q:Exit->Act->World->Prop}{env:Env}{H:Hp}{ty:TypeId}{pos:String}{af:Array Edge}
theorem A0{x:Code}{id:Nat}(h:Ops P ops ops.toList cx (Exit.then (x.wpIn (Fx cx.r) 0 P Q) Q) env H):At P cx (.seq (.region id ops false) x) Q env H:=Zq (Zg h)
theorem A5{y:Code}(h:At P cx y Q env H):Ops P ops [] cx (Exit.then (y.wpIn (Fx cx.r) 0 P Q) Q) env H:=Z0 (Zx h)
theorem AG{d:Nat}{x:Operand}{v:Value}(hx:∀a,ev a env x=v)(k:Nx cx (Q .normal) ((d,v)::env) H)(m:Nat.blt d cx.N=true:=by exact rfl):Ops P ops [⟨some d,.assign x,ty,pos,af,none⟩] cx Q env H:=Za hx (Z0 k) m
theorem A3{d:Nat}{x:Operand}{v:Value}{y:Code}(hx:∀a,ev a env x=v)(k:At P cx y Q ((d,v)::env) H)(m:Nat.blt d cx.N=true:=by exact rfl):Ops P ops [⟨some d,.assign x,ty,pos,af,none⟩] cx (Exit.then (y.wpIn (Fx cx.r) 0 P Q) Q) env H:=Za hx (Z0 (Zx k)) m
end
end Gw
