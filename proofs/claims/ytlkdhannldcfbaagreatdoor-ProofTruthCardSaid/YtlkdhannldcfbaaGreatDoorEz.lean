/- Short forms of the laws of the chunk walk: what every step repeats is a default here. No function of the program is named. -/
import Derived.Test.YtlkdhannldcfbaaGreatDoorEx5
set_option linter.unusedVariables false
set_option linter.unusedSimpArgs false
namespace Gw
open Go Go.RowKit
theorem Y{α β:Type}{f:α->β}:∀a,f a=f a:=fun _=>rfl
def WL(env:Env)(sl:List Nat)(e:Env):Prop:=∀a,K6 a env sl=e
theorem Pz{env:Env}:WL env [] []:=fun _=>rfl
theorem O0{env:Env}{t:Nat}{v:A4}{l:List Nat}{e:Env}(h:∀a,FU a env t=v)(h2:WL env l e):WL env (t::l) ((t,v)::e):=fun a=>by
 simp only [K6];rw [h a,h2 a]
theorem Zb{P:Program}{cx:Cx}{c:Code}{Q:Exit->Act->A6->Prop}{env m:Env}{H:Hp}(y:List Nat)(h:At P cx c Q m H)(hn:y.all (fun t=>Nat.blt t cx.N)=true:=by exact rfl)(E:WL env y m:=by repeat(first|exact Pz|(apply O0;exact fun _=>rfl))):At P cx c Q env H:=rZ y hn E h
theorem Zn{cx:Cx}{Q:Act->A6->Prop}{env m:Env}{H:Hp}(y:List Nat)(h:Nx cx Q m H)(hn:y.all (fun t=>Nat.blt t cx.N)=true:=by exact rfl)(E:WL env y m:=by repeat(first|exact Pz|(apply O0;exact fun _=>rfl))):Nx cx Q env H:=oh y hn E h
section
variable{P:Program}{cx:Cx}{Q:Exit->Act->A6->Prop}{env:Env}{H:Hp}
theorem Zq{x y:Code}(h:At P cx x (Exit.then (y.wpIn (Fx cx.r) 0 P Q) Q) env H):At P cx (.seq x y) Q env H:=xk h
theorem Zx{y:Code}(h:At P cx y Q env H):Nx cx ((Exit.then (y.wpIn (Fx cx.r) 0 P Q) Q) .normal) env H:=uT h
theorem Zt{K:Act->A6->Prop}{e:Exit}(h:Nx cx (Q e) env H)(m:e≠ .normal:=by(intro h;cases h;done)):Nx cx (Exit.then K Q e) env H:=uS m h
theorem Zg{id:Nat}{ops:Array Oper}(h:Ops P ops ops.toList cx Q env H):At P cx (.region id ops false) Q env H:=lV h
end
section
variable{P:Program}{ops:Array Oper}{l:List Oper}{cx:Cx}{Q:Exit->Act->A6->Prop}{env:Env}{H:Hp}{ty:AM}{pos:String}{af:Array Edge}
theorem Z0(h:Nx cx (Q .normal) env H):Ops P ops [] cx Q env H:=uP h
theorem Zm{d:Nat}{x:Operand}{v:A4}(hx:∀a,ev a env x=v)(k:Ops P ops l cx Q ((d,v)::env) H)(m:Nat.blt d cx.N=true:=by exact rfl):Ops P ops (⟨some d,.move x,ty,pos,af,none⟩::l) cx Q env H:=KY (AJ hx) rfl m k
theorem Za{d:Nat}{x:Operand}{v:A4}(hx:∀a,ev a env x=v)(k:Ops P ops l cx Q ((d,v)::env) H)(m:Nat.blt d cx.N=true:=by exact rfl):Ops P ops (⟨some d,.assign x,ty,pos,af,none⟩::l) cx Q env H:=KY (BF hx) rfl m k
theorem Zp{d:Nat}{x:Operand}{v:A4}(hx:∀a,ev a env x=v)(hv:oo v=true)(k:Ops P ops l cx Q ((d,v)::env) H)(m:Nat.blt d cx.N=true:=by exact rfl):Ops P ops (⟨some d,.nilCheck x,ty,pos,af,none⟩::l) cx Q env H:=KY (EY hx hv) rfl m k
theorem Zd{d:Nat}{x:Operand}{i:Nat}{vs:AN}{v:A4}(hx:∀a,ev a env x= .tuple vs)(hv:vs[i]?=some v)(k:Ops P ops l cx Q ((d,v)::env) H)(m:Nat.blt d cx.N=true:=by exact rfl):Ops P ops (⟨some d,.extract x i,ty,pos,af,none⟩::l) cx Q env H:=KY (Ch hx hv) rfl m k
theorem Zv{d:Nat}{m:Op}{v:A4}(h:OpP P ⟨some d,m,ty,pos,af,none⟩ env [] v)(k:Ops P ops l cx Q ((d,v)::env) H)(hn:ED m=true:=by exact rfl)(y:Nat.blt d cx.N=true:=by exact rfl):Ops P ops (⟨some d,m,ty,pos,af,none⟩::l) cx Q env H:=KY h hn y k
theorem Zf{d:Nat}{g:Nat×Bool}{x:Operand}{v:A4}(y:∀a,wantedE ops a env (some g)=true)(hx:∀a,ev a env x=v)(k:Ops P ops l cx Q ((d,v)::env) H)(m:Nat.blt d cx.N=true:=by exact rfl):Ops P ops (⟨some d,.move x,ty,pos,af,some g⟩::l) cx Q env H:=DV y (AJ hx) rfl m k
theorem Zh{d:Nat}{fs:Array Field}{fl:Field}{t:AM}{x:Operand}{f b m:Nat}(off:Nat)(J:P.underlying t=some (.struct fs))(E:fs[f]?=some fl)(G:fl.offset=off)(I:∀w:A6,(Go.sizeOf fl.type).run P w= .ok (m+1) w)(hx:∀a,ev a env x=I5 b)(k:Ops P ops l cx Q ((d,.pointer (some ⟨b,off,none⟩))::env) H)(y:Nat.blt d cx.N=true:=by exact rfl):Ops P ops (⟨some d,.fieldAddr t x f,ty,pos,af,none⟩::l) cx Q env H:=KY (AV J E G I hx) rfl y k
theorem Zl{d:Nat}{t:AM}{x:Operand}{b i:Nat}{c:AN}{T:AM}{z:Nat×Nat}{v:A4}(m:∀w:A6,(isAgg t).run P w= .ok false w)(hx:∀a,ev a env x= .pointer (some ⟨b,i,none⟩))(k:Ops P ops l cx Q ((d,v)::env) H)(y:Has b (.cells c T z) H:=by(repeat(first|exact Has.here _|apply Has.there));done)(hv:c[i]?=some v:=by rfl)(E:Nat.blt d cx.N=true:=by exact rfl):Ops P ops (⟨some d,.load t x,ty,pos,af,none⟩::l) cx Q env H:=yP y (Bj m hx hv) rfl E k
theorem Yl{d:Nat}{g:Nat×Bool}{t:AM}{x:Operand}{b i:Nat}{c:AN}{T:AM}{z:Nat×Nat}{v:A4}(m:∀w:A6,(isAgg t).run P w= .ok false w)(hx:∀a,ev a env x= .pointer (some ⟨b,i,none⟩))(k:Ops P ops l cx Q ((d,v)::env) H)(y:Has b (.cells c T z) H:=by(repeat(first|exact Has.here _|apply Has.there));done)(hv:c[i]?=some v:=by rfl)(G:∀a,wantedE ops a env (some g)=true:=by exact fun _=>rfl)(E:Nat.blt d cx.N=true:=by exact rfl):Ops P ops (⟨some d,.load t x,ty,pos,af,some g⟩::l) cx Q env H:=DF G y (Bj m hx hv) rfl E k
theorem Yf{d:Nat}{g:Nat×Bool}{fs:Array Field}{fl:Field}{t:AM}{x:Operand}{f b m:Nat}(off:Nat)(K:P.underlying t=some (.struct fs))(E:fs[f]?=some fl)(I:fl.offset=off)(J:∀w:A6,(Go.sizeOf fl.type).run P w= .ok (m+1) w)(hx:∀a,ev a env x=I5 b)(k:Ops P ops l cx Q ((d,.pointer (some ⟨b,off,none⟩))::env) H)(G:∀a,wantedE ops a env (some g)=true:=by exact fun _=>rfl)(y:Nat.blt d cx.N=true:=by exact rfl):Ops P ops (⟨some d,.fieldAddr t x f,ty,pos,af,some g⟩::l) cx Q env H:=DV G (AV K E I J hx) rfl y k
theorem Yg{d:Nat}{g:Nat×Bool}{m:Op}{v:A4}(h:OpP P ⟨some d,m,ty,pos,af,some g⟩ env [] v)(k:Ops P ops l cx Q ((d,v)::env) H)(E:∀a,wantedE ops a env (some g)=true:=by exact fun _=>rfl)(hn:ED m=true:=by exact rfl)(y:Nat.blt d cx.N=true:=by exact rfl):Ops P ops (⟨some d,m,ty,pos,af,some g⟩::l) cx Q env H:=DV E h hn y k
theorem Ya{d:Nat}{t yt:AM}{x y:Operand}{m n:Nat}(hx:∀a,ev a env x=I4 (m:Int))(hy:∀a,ev a env y=I4 (n:Int))(k:Ops P ops l cx Q ((d,I4 ((m+n:Nat):Int))::env) H)(E:m+n<=9223372036854775807:=by omega)(G:Nat.blt d cx.N=true:=by exact rfl):Ops P ops (⟨some d,.binOp .add t x y yt,ty,pos,af,none⟩::l) cx Q env H:=KY (Bp hx hy E) rfl G k
theorem Yi{d:Nat}{t yt:AM}{x y:Operand}{m n:Int}(hx:∀a,ev a env x=I4 m)(hy:∀a,ev a env y=I4 n)(k:Ops P ops l cx Q ((d,I4 (m+n))::env) H)(E:-9223372036854775808<=m+n/\m+n<=9223372036854775807:=by omega)(G:Nat.blt d cx.N=true:=by exact rfl):Ops P ops (⟨some d,.binOp .add t x y yt,ty,pos,af,none⟩::l) cx Q env H:=KY (EU hx hy (IntWalk.i64_in _ E)) rfl G k
theorem Yb{d:Nat}{t yt:AM}{x y:Operand}{m n:Nat}(hx:∀a,ev a env x=I4 (m:Int))(hy:∀a,ev a env y=I4 (n:Int))(k:Ops P ops l cx Q ((d,I4 ((m -n:Nat):Int))::env) H)(E:n<=m:=by omega)(I:m<=9223372036854775807:=by omega)(G:Nat.blt d cx.N=true:=by exact rfl):Ops P ops (⟨some d,.binOp .sub t x y yt,ty,pos,af,none⟩::l) cx Q env H:=KY (Bo hx hy E I) rfl G k
theorem Zo{d:Nat}{m:Op}{v:A4}{b:Nat}{o:Obj}(y:Has b o H)(h:OpP P ⟨some d,m,ty,pos,af,none⟩ env [(b,o)] v)(k:Ops P ops l cx Q ((d,v)::env) H)(hn:ED m=true:=by exact rfl)(E:Nat.blt d cx.N=true:=by exact rfl):Ops P ops (⟨some d,m,ty,pos,af,none⟩::l) cx Q env H:=yP y h hn E k
end
section
variable{P:Program}{u:A6}{ops:Array Oper}{l:List Oper}{cx:Cx}{Qe:Exit->Act->A6->Prop}{env:Env}{H H' R:Hp}{d:Option Nat}{ty:AM}{pos:String}{af:Array Edge}{g:Option (Nat×Bool)}
theorem Ze{m:Op}{y:A4->Hp->Prop}(h:OpW P cx.u ⟨d,m,ty,pos,af,g⟩ env H y (fun _ _=>False))(k:∀v H',y v H'->Ops P ops l cx Qe (putE d v env) H')(G:∀a,wantedE ops a env g=true:=by exact fun _=>rfl)(hn:ED m=true:=by exact rfl)(E:UT cx.N d=true:=by exact rfl):Ops P ops (⟨d,m,ty,pos,af,g⟩::l) cx Qe env H:=uQ h G hn E k
theorem Xe{m:Op}{y:A4}{H0:Hp}(h:OpW P cx.u ⟨d,m,ty,pos,af,g⟩ env H (fun v H'=>v=y/\H'=H0) (fun _ _=>False))(k:Ops P ops l cx Qe (putE d y env) H0)(G:∀a,wantedE ops a env g=true:=by exact fun _=>rfl)(hn:ED m=true:=by exact rfl)(E:UT cx.N d=true:=by exact rfl):Ops P ops (⟨d,m,ty,pos,af,g⟩::l) cx Qe env H:=uQ h G hn E (by rintro _ _ ⟨rfl,rfl⟩;exact k)
theorem Zw(vs:List A4){K:Operand}{J:Array Operand}{y:Array AM}{f:FuncId}{first m args:AN}{G:Hp}{Q:A4->Hp->Prop}{I:List PanicEntry->Hp->Prop}
 (U:∀a,ev a env K= .func (.func f) first m)(hc:∀(args:AN) (w:A6),(callFunc f args).run P w= .ok (.enter f args) w)(O:∀a,J.toList.map (ev a env)=vs)(M:(first.toList++vs++m.toList).toArray=args)
 (E:Jv P f args G Q I)(W:FW G H R:=by repeat(first|exact FW.nil _|(apply FW.cons;(focus (repeat(first|exact One.here _ _|apply One.there)))))):
 OpW P u ⟨d,.call ⟨.value K,J,y⟩,ty,pos,af,g⟩ env H (fun v H'=>∃H1,Q v H1/\H'=H1++R) (fun ch H'=>∃H1,I ch H1/\H'=H1++R):=Jd U hc O M E W
theorem Zu(vs:List A4){J:Operand}{I:Array Operand}{y:Array AM}{f:FuncId}{first m args:AN}{G:Hp}{v:A4}
 (O:∀a,ev a env J= .func (.func f) first m)(hc:∀(args:AN) (w:A6),(callFunc f args).run P w= .ok (.enter f args) w)(M:∀a,I.toList.map (ev a env)=vs)(K:(first.toList++vs++m.toList).toArray=args)
 (E:BC P f args G v)(U:FW G H R:=by repeat(first|exact FW.nil _|(apply FW.cons;(focus (repeat(first|exact One.here _ _|apply One.there)))))):
 OpW P u ⟨d,.call ⟨.value J,I,y⟩,ty,pos,af,g⟩ env H (fun W H'=>W=v/\H'=H) (fun _ _=>False):=WU O hc M K E U
theorem Zc(vs:List A4){J:Operand}{I:Array Operand}{y:Array AM}{f:FuncId}{first m args:AN}{G:Hp}{Q:A4->Hp->Prop}
 (U:∀a,ev a env J= .func (.func f) first m)(hc:∀(args:AN) (w:A6),(callFunc f args).run P w= .ok (.enter f args) w)(M:∀a,I.toList.map (ev a env)=vs)(K:(first.toList++vs++m.toList).toArray=args)
 (E:Jv P f args G Q fun _ _=>False)(k:∀v H',(∃H1,Q v H1/\H'=H1++R)->Ops P ops l cx Qe (putE d v env) H')(X:FW G H R:=by repeat(first|exact FW.nil _|(apply FW.cons;(focus (repeat(first|exact One.here _ _|apply One.there))))))(W:∀a,wantedE ops a env g=true:=by exact fun _=>rfl)(O:UT cx.N d=true:=by exact rfl):
 Ops P ops (⟨d,.call ⟨.value J,I,y⟩,ty,pos,af,g⟩::l) cx Qe env H:=Gn W (Ga O) rfl (Jd U hc M K E X) k Co
theorem Zr(vs:List A4){J:Operand}{I:Array Operand}{y:Array AM}{f:FuncId}{first m args:AN}{G:Hp}{v:A4}
 (W:∀a,ev a env J= .func (.func f) first m)(hc:∀(args:AN) (w:A6),(callFunc f args).run P w= .ok (.enter f args) w)(O:∀a,I.toList.map (ev a env)=vs)(M:(first.toList++vs++m.toList).toArray=args)
 (E:BC P f args G v)(k:∀K H',K=v/\H'=H->Ops P ops l cx Qe (putE d K env) H')(Z:FW G H R:=by repeat(first|exact FW.nil _|(apply FW.cons;(focus (repeat(first|exact One.here _ _|apply One.there))))))(X:∀a,wantedE ops a env g=true:=by exact fun _=>rfl)(U:UT cx.N d=true:=by exact rfl):
 Ops P ops (⟨d,.call ⟨.value J,I,y⟩,ty,pos,af,g⟩::l) cx Qe env H:=uQ (WU W hc O M E Z) X rfl U k
theorem Xr(vs:List A4){J:Operand}{I:Array Operand}{y:Array AM}{f:FuncId}{first m args:AN}{G:Hp}{v:A4}
 (U:∀a,ev a env J= .func (.func f) first m)(hc:∀(args:AN) (w:A6),(callFunc f args).run P w= .ok (.enter f args) w)(M:∀a,I.toList.map (ev a env)=vs)(K:(first.toList++vs++m.toList).toArray=args)
 (E:BC P f args G v)(k:Ops P ops l cx Qe (putE d v env) H)(X:FW G H R:=by repeat(first|exact FW.nil _|(apply FW.cons;(focus (repeat(first|exact One.here _ _|apply One.there))))))(W:∀a,wantedE ops a env g=true:=by exact fun _=>rfl)(O:UT cx.N d=true:=by exact rfl):
 Ops P ops (⟨d,.call ⟨.value J,I,y⟩,ty,pos,af,g⟩::l) cx Qe env H:=uQ (WU U hc M K E X) W rfl O (by rintro _ _ ⟨rfl,rfl⟩;exact k)
theorem Zs{t:AM}{x y:Operand}{b i:Nat}{c c':AN}{T:AM}{z:Nat×Nat}{v:A4}(E:∀w:A6,(Go.sizeOf t).run P w= .ok 1 w)(hx:∀a,ev a env x= .pointer (some ⟨b,i,none⟩))(hy:∀a,ev a env y=v)(m:v.oneCell'=true)
 (G:Upd b (.cells c T z) (.cells c' T z) H H':=by repeat(first|exact Upd.here _|apply Upd.there))(hc:c.setIfInBounds i v=c':=by rfl)(hi:i<c.size:=by first|decide|exact B8 _|(simp;done)|(simp;omega))(hz:MH z c.size:=by exact BU _):
 OpW P u ⟨d,.store t x y,ty,pos,af,g⟩ env H (fun I H1=>I=undef/\H1=H') (fun _ _=>False):=sZ E hx hy m G hc hi hz
end
section
variable{P:Program}{ops:Array Oper}{A:List Nat}{F:Nat}{cx:Cx}{Q:Exit->Act->A6->Prop}{n D:Nat}{T:List (Nat×AU)}{env:Env}{H:Hp}{ty:AM}{pos:String}{af:Array Edge}
theorem Yk{o:Oper}(D' i:Nat)(G:ops[i]?=some o)(k:Lin P ops A F cx Q n D' T (putE o.dst undef env) H)(E:∀a,wantedE ops a env o.guard=false:=by exact fun _=>rfl)(m:(!bit D i&&FL (A.getD i 0) D)=true:=by exact rfl)(y:D|||(1<<<i)=D':=by exact rfl):Lin P ops A F cx Q (n+1) D T env H:=pM i G E m y k
theorem Zi{d:Nat}{y:Op}{v:A4}(D' i:Nat)(I:ops[i]?=some ⟨some d,y,ty,pos,af,none⟩)(m:OpP P ⟨some d,y,ty,pos,af,none⟩ env [] v)(k:Lin P ops A F cx Q n D' T ((d,v)::env) H)(E:(!bit F i&&!bit D i&&FL (A.getD i 0) D)=true:=by exact rfl)(G:D|||(1<<<i)=D':=by exact rfl):Lin P ops A F cx Q (n+1) D T env H:=wE i I E G m k
theorem Zj{d:Nat}{t:AM}{x:Operand}{b j:Nat}{c:AN}{U:AM}{z:Nat×Nat}{v:A4}(D' i:Nat)(I:ops[i]?=some ⟨some d,.load t x,ty,pos,af,none⟩)(E:∀w:A6,(isAgg t).run P w= .ok false w)(hx:∀a,ev a env x= .pointer (some ⟨b,j,none⟩))(k:Lin P ops A F cx Q n D' ((i,(b,.cells c U z))::T) ((d,v)::env) H)
 (G:Has b (.cells c U z) H:=by repeat(first|exact Has.here _|apply Has.there))(hv:c[j]?=some v:=by rfl)(m:(!bit F i&&!bit D i&&FL (A.getD i 0) D)=true:=by exact rfl)(y:D|||(1<<<i)=D':=by exact rfl):Lin P ops A F cx Q (n+1) D T env H:=DW i I m y G (Bj E hx hv) k
theorem Zk{H:Hp}{i b:Nat}{x:Obj}{T:List (Nat×AU)}(m:∀p∈T,p.2∈H.flatten)(h:Has b x H:=by repeat(first|exact Has.here _|apply Has.there)):∀p∈((i,(b,x))::T),p.2∈H.flatten:=kL h m
theorem Zy{f:Nat}{l:List Nat}{o:Oper}{J:A4->Hp->Prop}{I:List PanicEntry->Hp->Prop}(m D':Nat)(is:List Nat)(bs:List Bool)(y:List (Nat×AU))(X:ops[f]?=some o)(O:∀a,wantedE ops a env o.guard=true)(K:D|||(1<<<f)=D')(W:A[f]?=some m)(E:T.map (·.1)=is)(M:sel bs T=y)(Z:OpW P cx.u o env H J I)
 (k:∀v H',J v H'->(∀p∈y,p.2∈H'.flatten)/\Lin P ops A F cx Q n D' y (putE o.dst v env) H')(kp:∀ch H',I ch H'->∀env,Nx cx (Q (.panic ch)) env H')(U:Xl P ops A F cx Q n D T env H l)(G:Oo m bs is=true:=by kernel_rfl):Xl P ops A F cx Q n D T env H (f::l):=W9 X O K W E G M Z k kp U
theorem Zz{l:List Nat}(h:Xl P ops A F cx Q n D T env H l)(m:ko ops A F D=true:=by kernel_rfl)(h2:Lt ops A F D=l:=by kernel_rfl):Lin P ops A F cx Q (n+1) D T env H:=XC m h2 h
theorem Yz(f:Nat){o:Oper}{I:A4->Hp->Prop}(m D':Nat)(is:List Nat)(bs:List Bool)(y:List (Nat×AU))(W:ops[f]?=some o)(O:∀a,wantedE ops a env o.guard=true)(K:D|||(1<<<f)=D')(U:A[f]?=some m)(E:T.map (·.1)=is)(M:sel bs T=y)(X:OpW P cx.u o env H I (fun _ _=>False))
 (k:∀v H',I v H'->(∀p∈y,p.2∈H'.flatten)/\Lin P ops A F cx Q n D' y (putE o.dst v env) H')(G:Oo m bs is=true:=by kernel_rfl)(J:ko ops A F D=true:=by kernel_rfl)(h2:Lt ops A F D=[f]:=by kernel_rfl):Lin P ops A F cx Q (n+1) D T env H:=XC J h2 (W9 W O K U E G M X k (fun _ _ h=>h.elim) Ay)
end
theorem Wh{b:Nat}{o:Obj}{H:Hp}(h:Has b o H:=by repeat(first|exact Has.here _|apply Has.there)):Has b o H:=h
theorem Wu{b:Nat}{x y:Obj}{H H':Hp}(h:Upd b x y H H':=by repeat(first|exact Upd.here _|apply Upd.there)):Upd b x y H H':=h
theorem Wo{s:List AU}{H R:Hp}(h:One s H R:=by repeat(first|exact One.here _ _|apply One.there)):One s H R:=h
theorem Wp{G H R:Hp}(h:FW G H R:=by repeat(first|exact FW.nil _|(apply FW.cons;(focus (repeat(first|exact One.here _ _|apply One.there)))))):FW G H R:=h
theorem Wb{p:Prop}(h:p:=by first|omega|decide|(simp;done)):p:=h
theorem Wn{p:Prop}(h:p:=by first|decide|exact B8 _|(simp;done)|(simp;omega)):p:=h
theorem mL:maxLen=9223372036854775807:=rfl
theorem Se{P:Program}{f:FuncId}{m:Func}{c:Code}{args:AN}{N:Nat}{H:Hp}{Q:A4->Hp->Prop}{E:List PanicEntry->Hp->Prop}{e:Env}(K:P.funcs[f]?=some m)(G:m.ntmps=N)(y:List Nat)
 (h:∀u R,At P ⟨N,[],u,none⟩ c (bodyPost P m (Fe u R Q E)) e (H++R))(I:m.body=some c:=by exact rfl)(M:Nat.ble args.size N=true:=by exact rfl)(hn:y.all (fun t=>Nat.blt t N)=true:=by exact rfl)
 (J:WL (Fz 0 args.toList) y e:=by repeat(first|exact Pz|(apply O0;exact fun _=>rfl))):Jv P f args H Q E:=Jf K I G M fun u R=>Zb y (h u R) hn J
section
variable{P:Program}{u:A6}{env:Env}{H H' R:Hp}{d:Option Nat}{ty:AM}{pos:String}{af:Array Edge}{g:Option (Nat×Bool)}
theorem Xw{t:AM}{x y:Operand}{b i n:Nat}{c cs:AN}{T:AM}{z:Nat×Nat}(E:∀w:A6,(Go.sizeOf t).run P w= .ok n w)(c':AN)(hx:∀a,ev a env x= .pointer (some ⟨b,i,none⟩):=by exact fun _=>rfl)(hy:∀a,ev a env y= .agg cs:=by exact fun _=>rfl)
 (m:∀v∈cs.toList,v.oneCell'=true:=by first|(simp [Value.oneCell'];done)|(simp [Value.oneCell',Value.cells];done))(G:Upd b (.cells c T z) (.cells c' T z) H H':=by repeat(first|exact Upd.here _|apply Upd.there))(hc:FD c i cs.toList=c':=by rfl)(hn:cs.size=n:=by first|rfl|(simp;done))
 (hi:i+n<=c.size:=by first|omega|decide|exact B8 _|(simp;done)|(simp;omega))(hz:MH z c.size:=by exact BU _):OpW P u ⟨d,.store t x y,ty,pos,af,g⟩ env H (fun I H1=>I=undef/\H1=H') (fun _ _=>False):=BN E hx hy m G hc hn hi hz
theorem Pa{d:Option Nat}{t:AM}{x:Operand}{b i n:Nat}{c:AN}{T:AM}{z:Nat×Nat}(cs:AN)(m:∀w:A6,(isAgg t).run P w= .ok true w)(y:∀w:A6,(Go.sizeOf t).run P w= .ok n w)(hx:∀a,ev a env x= .pointer (some ⟨b,i,none⟩))
 (hn:i+n<=c.size:=by first|omega|decide|exact B8 _|(simp;done)|(simp;omega))(hv:c.extract i (i+n)=cs:=by rfl):OpP P ⟨d,.load t x,ty,pos,af,g⟩ env [(b,.cells c T z)] (.agg cs):=A9 m y hx hn hv
theorem Bx{t:AM}{x:Operand}{v:A4}(cs:AN)(hx:∀a,ev a env x=v:=by exact fun _=>rfl)(hc:v.cells=cs:=by first|rfl|(simp [Value.cells];done)):OpW P u ⟨d,.box t x,ty,pos,af,g⟩ env H (fun m H1=>∃b,m=I5 b/\H1=[(b,.cells cs t (0,0))]::H) (fun _ _=>False):=Ik hx hc
theorem Al{t:AM}{m:A4}(hz:∀w:A6,(zeroValue t).run P w= .ok m w)(cs:AN)(hc:m.cells=cs:=by rfl):OpW P u ⟨d,.alloc t,ty,pos,af,g⟩ env H (fun y H1=>∃b,y=I5 b/\H1=[(b,.cells cs t (0,0))]::H) (fun _ _=>False):=ND hz hc
end
section
variable{P:Program}{ops:Array Oper}{A:List Nat}{F:Nat}{cx:Cx}{Q:Exit->Act->A6->Prop}{n D:Nat}{T:List (Nat×AU)}{env:Env}{H:Hp}{ty:AM}{pos:String}{af:Array Edge}
theorem Yw(f D':Nat){o:Oper}{I:A4->Hp->Prop}{m:Nat}(ho:ops[f]?=some o)(hw:OpW P cx.u o env H I (fun _ _=>False))(k:∀v H',I v H'->Lin P ops A F cx Q n D' [] (putE o.dst v env) H')(hg:∀a,wantedE ops a env o.guard=true:=by exact fun _=>rfl)(W:D|||(1<<<f)=D':=by exact rfl)
 (hm:A[f]?=some m:=by exact rfl)(G:(T.all fun p=>bit m p.1)=true:=by kernel_rfl)(U:ko ops A F D=true:=by kernel_rfl)(h2:Lt ops A F D=[f]:=by kernel_rfl):Lin P ops A F cx Q (n+1) D T env H:=by
 have E:A.getD f 0=m:=by rw [Lw,hm];rfl
 subst W;refine XC U h2 ⟨⟨o,[],ho,hg,fun p hp=> .inl (by rw [E];exact Mp.1 G p hp),fun a w hs K O X Z=>hw a w hs K O (fun v H' M y J=>X v H' M ⟨Ae,k v H' y⟩ J) (fun ch H' M y J=>y.elim)⟩,Ay⟩
end
section
variable{P:Program}{ops:Array Oper}{A:List Nat}{F:Nat}{cx:Cx}{Q:Exit->Act->A6->Prop}{n D:Nat}{T:List (Nat×AU)}{env:Env}{H:Hp}{ty:AM}{pos:String}{af:Array Edge}
theorem A2{d:Nat}{y:Op}{v:A4}(i:Nat)(G:ops[i]?=some ⟨some d,y,ty,pos,af,none⟩)(m:OpP P ⟨some d,y,ty,pos,af,none⟩ env [] v)(k:Lin P ops A F cx Q n (D|||(1<<<i)) T ((d,v)::env) H)(E:(!bit F i&&!bit D i&&FL (A.getD i 0) D)=true:=by exact rfl):Lin P ops A F cx Q (n+1) D T env H:=wE i G E rfl m k
theorem B2{d:Nat}{t:AM}{x:Operand}{b j:Nat}{c:AN}{U:AM}{z:Nat×Nat}{v:A4}(i:Nat)(G:ops[i]?=some ⟨some d,.load t x,ty,pos,af,none⟩)(y:∀w:A6,(isAgg t).run P w= .ok false w)(hx:∀a,ev a env x= .pointer (some ⟨b,j,none⟩))(k:Lin P ops A F cx Q n (D|||(1<<<i)) ((i,(b,.cells c U z))::T) ((d,v)::env) H)
 (E:Has b (.cells c U z) H:=by repeat(first|exact Has.here _|apply Has.there))(hv:c[j]?=some v:=by rfl)(m:(!bit F i&&!bit D i&&FL (A.getD i 0) D)=true:=by exact rfl):Lin P ops A F cx Q (n+1) D T env H:=DW i G m rfl E (Bj y hx hv) k
theorem AW{o:Oper}(i:Nat)(E:ops[i]?=some o)(k:Lin P ops A F cx Q n (D|||(1<<<i)) T (putE o.dst undef env) H)(y:∀a,wantedE ops a env o.guard=false:=by exact fun _=>rfl)(m:(!bit D i&&FL (A.getD i 0) D)=true:=by exact rfl):Lin P ops A F cx Q (n+1) D T env H:=pM i E y m rfl k
theorem B1{d:Nat}{y:Op}{g:Nat×Bool}{v:A4}(i:Nat)(I:ops[i]?=some ⟨some d,y,ty,pos,af,some g⟩)(m:OpP P ⟨some d,y,ty,pos,af,some g⟩ env [] v)(k:Lin P ops A F cx Q n (D|||(1<<<i)) T ((d,v)::env) H)(G:∀a,wantedE ops a env (some g)=true:=by exact fun _=>rfl)(E:(!bit F i&&!bit D i&&FL (A.getD i 0) D)=true:=by exact rfl):Lin P ops A F cx Q (n+1) D T env H:=Am i G I E rfl m k
theorem D4{d:Nat}{y:Op}{g:Nat×Bool}{v:A4}{b:Nat}{x:Obj}(i:Nat)(J:ops[i]?=some ⟨some d,y,ty,pos,af,some g⟩)(G:Has b x H)(m:OpP P ⟨some d,y,ty,pos,af,some g⟩ env [(b,x)] v)(k:Lin P ops A F cx Q n (D|||(1<<<i)) ((i,(b,x))::T) ((d,v)::env) H)(I:∀a,wantedE ops a env (some g)=true:=by exact fun _=>rfl)(E:(!bit F i&&!bit D i&&FL (A.getD i 0) D)=true:=by exact rfl):Lin P ops A F cx Q (n+1) D T env H:=Bv i I J E rfl G m k
theorem Fc{d:Nat}{y:Op}{v:A4}{b:Nat}{x:Obj}(i:Nat)(I:ops[i]?=some ⟨some d,y,ty,pos,af,none⟩)(G:Has b x H)(m:OpP P ⟨some d,y,ty,pos,af,none⟩ env [(b,x)] v)(k:Lin P ops A F cx Q n (D|||(1<<<i)) ((i,(b,x))::T) ((d,v)::env) H)(E:(!bit F i&&!bit D i&&FL (A.getD i 0) D)=true:=by exact rfl):Lin P ops A F cx Q (n+1) D T env H:=DW i I E rfl G m k
theorem BE{f:Nat}{l:List Nat}{o:Oper}{I:A4->Hp->Prop}{G:List PanicEntry->Hp->Prop}(bs:List Bool)(y:List (Nat×AU))(U:ops[f]?=some o)(J:sel bs T=y)(W:OpW P cx.u o env H I G)
 (k:∀v H',I v H'->(∀p∈y,p.2∈H'.flatten)/\Lin P ops A F cx Q n (D|||(1<<<f)) y (putE o.dst v env) H')(X:∀ch H',G ch H'->∀env,Nx cx (Q (.panic ch)) env H')(M:Xl P ops A F cx Q n D T env H l)(K:∀a,wantedE ops a env o.guard=true:=by exact fun _=>rfl){m:Nat}(O:A[f]?=some m:=by exact rfl)(E:Oo m bs (T.map (·.1))=true:=by kernel_rfl):Xl P ops A F cx Q n D T env H (f::l):=W9 U K rfl O rfl E J W k X M
end
theorem AF{α:Type}{f:α->Value}{g:α->Hp}{P:Value->Hp->Prop}(h:∀x,P (f x) (g x)):∀v H',(∃x,v=f x/\H'=g x)->P v H':=by rintro _ _ ⟨x,rfl,rfl⟩;exact h x
theorem C3{a:Value}{b:Hp}{P:Value->Hp->Prop}(h:P a b):∀v H',(v=a/\H'=b)->P v H':=by rintro _ _ ⟨rfl,rfl⟩;exact h
theorem BT{T:List (Nat×AU)}{H:Hp}{L:Prop}(h:L)(m:∀p∈T,p.2∈H.flatten:=by repeat(first|exact Ae|refine Zk ?_)):(∀p∈T,p.2∈H.flatten)/\L:=⟨m,h⟩
section
variable{P:Program}{ops:Array Oper}{l:List Oper}{cx:Cx}{Q:Exit->Act->World->Prop}{env:Env}{H:Hp}{ty:TypeId}{pos:String}{af:Array Edge}
theorem A1{x:Code}{id:Nat}(h:Ops P ops ops.toList cx (Exit.then (x.wpIn (Fx cx.r) 0 P Q) Q) env H):At P cx (.seq (.region id ops false) x) Q env H:=Zq (Zg h)
theorem AD{y:Code}(h:At P cx y Q env H):Ops P ops [] cx (Exit.then (y.wpIn (Fx cx.r) 0 P Q) Q) env H:=Z0 (Zx h)
theorem AH{d:Nat}{x:Operand}{v:Value}(hx:∀a,ev a env x=v)(k:Nx cx (Q .normal) ((d,v)::env) H)(m:Nat.blt d cx.N=true:=by exact rfl):Ops P ops [⟨some d,.assign x,ty,pos,af,none⟩] cx Q env H:=Za hx (Z0 k) m
theorem A3{d:Nat}{x:Operand}{v:Value}{y:Code}(hx:∀a,ev a env x=v)(k:At P cx y Q ((d,v)::env) H)(m:Nat.blt d cx.N=true:=by exact rfl):Ops P ops [⟨some d,.assign x,ty,pos,af,none⟩] cx (Exit.then (y.wpIn (Fx cx.r) 0 P Q) Q) env H:=Za hx (Z0 (Zx k)) m
end
end Gw
