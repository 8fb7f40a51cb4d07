/- Short forms of the laws of the chunk walk: what every step repeats is a default here. No function of the program is named. -/
import Derived.Test.YtelliknjeemfoaaGreatDoorEx5
set_option linter.unusedVariables false
set_option linter.unusedSimpArgs false
namespace Gw
open Go Go.RowKit
theorem Y{α β:Type}{f:α->β}:∀a,f a=f a:=fun _=>rfl
def WA(env:Env)(sl:List Nat)(e:Env):Prop:=∀a,JO a env sl=e
theorem PU{env:Env}:WA env [] []:=fun _=>rfl
theorem NM{env:Env}{t:Nat}{v:A2}{l:List Nat}{e:Env}(h:∀a,GA a env t=v)(h2:WA env l e):WA env (t::l) ((t,v)::e):=fun a=>by
 simp only [JO];rw [h a,h2 a]
theorem Zb{P:Program}{cx:Cx}{c:Code}{Q:Exit->Act->A4->Prop}{env m:Env}{H:Hp}(G:List Nat)(h:At P cx c Q m H)(hn:G.all (fun t=>Nat.blt t cx.N)=true:=by exact rfl)(I:WA env G m:=by repeat(first|exact PU|(apply NM;exact fun _=>rfl))):At P cx c Q env H:=vH G hn I h
theorem Zn{cx:Cx}{Q:Act->A4->Prop}{env m:Env}{H:Hp}(G:List Nat)(h:Nx cx Q m H)(hn:G.all (fun t=>Nat.blt t cx.N)=true:=by exact rfl)(I:WA env G m:=by repeat(first|exact PU|(apply NM;exact fun _=>rfl))):Nx cx Q env H:=rX G hn I h
section
variable{P:Program}{cx:Cx}{Q:Exit->Act->A4->Prop}{env:Env}{H:Hp}
theorem Zq{x y:Code}(h:At P cx x (Exit.then (y.wpIn (Fx cx.r) 0 P Q) Q) env H):At P cx (.seq x y) Q env H:=vq h
theorem Zx{y:Code}(h:At P cx y Q env H):Nx cx ((Exit.then (y.wpIn (Fx cx.r) 0 P Q) Q) .normal) env H:=xO h
theorem Zt{K:Act->A4->Prop}{e:Exit}(h:Nx cx (Q e) env H)(m:e≠ .normal:=by(intro h;cases h;done)):Nx cx (Exit.then K Q e) env H:=xN m h
theorem Zg{id:Nat}{ops:Array Oper}(h:Ops P ops ops.toList cx Q env H):At P cx (.region id ops false) Q env H:=nz h
end
section
variable{P:Program}{ops:Array Oper}{l:List Oper}{cx:Cx}{Q:Exit->Act->A4->Prop}{env:Env}{H:Hp}{ty:AK}{pos:String}{af:Array Edge}
theorem Z0(h:Nx cx (Q .normal) env H):Ops P ops [] cx Q env H:=xK h
theorem Zm{d:Nat}{x:Operand}{v:A2}(hx:∀a,ev a env x=v)(k:Ops P ops l cx Q ((d,v)::env) H)(m:Nat.blt d cx.N=true:=by exact rfl):Ops P ops (⟨some d,.move x,ty,pos,af,none⟩::l) cx Q env H:=KY (AQ hx) rfl m k
theorem Za{d:Nat}{x:Operand}{v:A2}(hx:∀a,ev a env x=v)(k:Ops P ops l cx Q ((d,v)::env) H)(m:Nat.blt d cx.N=true:=by exact rfl):Ops P ops (⟨some d,.assign x,ty,pos,af,none⟩::l) cx Q env H:=KY (BI hx) rfl m k
theorem Zp{d:Nat}{x:Operand}{v:A2}(hx:∀a,ev a env x=v)(hv:ry v=true)(k:Ops P ops l cx Q ((d,v)::env) H)(m:Nat.blt d cx.N=true:=by exact rfl):Ops P ops (⟨some d,.nilCheck x,ty,pos,af,none⟩::l) cx Q env H:=KY (Aq hx hv) rfl m k
theorem Zd{d:Nat}{x:Operand}{i:Nat}{vs:AM}{v:A2}(hx:∀a,ev a env x= .tuple vs)(hv:vs[i]?=some v)(k:Ops P ops l cx Q ((d,v)::env) H)(m:Nat.blt d cx.N=true:=by exact rfl):Ops P ops (⟨some d,.extract x i,ty,pos,af,none⟩::l) cx Q env H:=KY (CV hx hv) rfl m k
theorem Zv{d:Nat}{m:Op}{v:A2}(h:OpP P ⟨some d,m,ty,pos,af,none⟩ env [] v)(k:Ops P ops l cx Q ((d,v)::env) H)(hn:E5 m=true:=by exact rfl)(G:Nat.blt d cx.N=true:=by exact rfl):Ops P ops (⟨some d,m,ty,pos,af,none⟩::l) cx Q env H:=KY h hn G k
theorem Zf{d:Nat}{g:Nat×Bool}{x:Operand}{v:A2}(G:∀a,wantedE ops a env (some g)=true)(hx:∀a,ev a env x=v)(k:Ops P ops l cx Q ((d,v)::env) H)(m:Nat.blt d cx.N=true:=by exact rfl):Ops P ops (⟨some d,.move x,ty,pos,af,some g⟩::l) cx Q env H:=HY G (AQ hx) rfl m k
theorem Zh{d:Nat}{fs:Array Field}{fl:Field}{t:AK}{x:Operand}{f b m:Nat}(off:Nat)(U:P.underlying t=some (.struct fs))(I:fs[f]?=some fl)(J:fl.offset=off)(O:∀w:A4,(Go.sizeOf fl.type).run P w= .ok (m+1) w)(hx:∀a,ev a env x=I1 b)(k:Ops P ops l cx Q ((d,.pointer (some ⟨b,off,none⟩))::env) H)(G:Nat.blt d cx.N=true:=by exact rfl):Ops P ops (⟨some d,.fieldAddr t x f,ty,pos,af,none⟩::l) cx Q env H:=KY (AB U I J O hx) rfl G k
theorem Zl{d:Nat}{t:AK}{x:Operand}{b i:Nat}{c:AM}{T:AK}{z:Nat×Nat}{v:A2}(m:∀w:A4,(isAgg t).run P w= .ok false w)(hx:∀a,ev a env x= .pointer (some ⟨b,i,none⟩))(k:Ops P ops l cx Q ((d,v)::env) H)(G:Has b (.cells c T z) H:=by(repeat(first|exact Has.here _|apply Has.there));done)(hv:c[i]?=some v:=by rfl)(I:Nat.blt d cx.N=true:=by exact rfl):Ops P ops (⟨some d,.load t x,ty,pos,af,none⟩::l) cx Q env H:=rh G (BL m hx hv) rfl I k
theorem Yl{d:Nat}{g:Nat×Bool}{t:AK}{x:Operand}{b i:Nat}{c:AM}{T:AK}{z:Nat×Nat}{v:A2}(m:∀w:A4,(isAgg t).run P w= .ok false w)(hx:∀a,ev a env x= .pointer (some ⟨b,i,none⟩))(k:Ops P ops l cx Q ((d,v)::env) H)(G:Has b (.cells c T z) H:=by(repeat(first|exact Has.here _|apply Has.there));done)(hv:c[i]?=some v:=by rfl)(J:∀a,wantedE ops a env (some g)=true:=by exact fun _=>rfl)(I:Nat.blt d cx.N=true:=by exact rfl):Ops P ops (⟨some d,.load t x,ty,pos,af,some g⟩::l) cx Q env H:=DY J G (BL m hx hv) rfl I k
theorem Yf{d:Nat}{g:Nat×Bool}{fs:Array Field}{fl:Field}{t:AK}{x:Operand}{f b m:Nat}(off:Nat)(W:P.underlying t=some (.struct fs))(I:fs[f]?=some fl)(O:fl.offset=off)(U:∀w:A4,(Go.sizeOf fl.type).run P w= .ok (m+1) w)(hx:∀a,ev a env x=I1 b)(k:Ops P ops l cx Q ((d,.pointer (some ⟨b,off,none⟩))::env) H)(J:∀a,wantedE ops a env (some g)=true:=by exact fun _=>rfl)(G:Nat.blt d cx.N=true:=by exact rfl):Ops P ops (⟨some d,.fieldAddr t x f,ty,pos,af,some g⟩::l) cx Q env H:=HY J (AB W I O U hx) rfl G k
theorem Yg{d:Nat}{g:Nat×Bool}{m:Op}{v:A2}(h:OpP P ⟨some d,m,ty,pos,af,some g⟩ env [] v)(k:Ops P ops l cx Q ((d,v)::env) H)(I:∀a,wantedE ops a env (some g)=true:=by exact fun _=>rfl)(hn:E5 m=true:=by exact rfl)(G:Nat.blt d cx.N=true:=by exact rfl):Ops P ops (⟨some d,m,ty,pos,af,some g⟩::l) cx Q env H:=HY I h hn G k
theorem Ya{d:Nat}{t yt:AK}{x y:Operand}{m n:Nat}(hx:∀a,ev a env x=I0 (m:Int))(hy:∀a,ev a env y=I0 (n:Int))(k:Ops P ops l cx Q ((d,I0 ((m+n:Nat):Int))::env) H)(G:m+n<=9223372036854775807:=by omega)(I:Nat.blt d cx.N=true:=by exact rfl):Ops P ops (⟨some d,.binOp .add t x y yt,ty,pos,af,none⟩::l) cx Q env H:=KY (EW hx hy G) rfl I k
theorem Yi{d:Nat}{t yt:AK}{x y:Operand}{m n:Int}(hx:∀a,ev a env x=I0 m)(hy:∀a,ev a env y=I0 n)(k:Ops P ops l cx Q ((d,I0 (m+n))::env) H)(G:-9223372036854775808<=m+n/\m+n<=9223372036854775807:=by omega)(I:Nat.blt d cx.N=true:=by exact rfl):Ops P ops (⟨some d,.binOp .add t x y yt,ty,pos,af,none⟩::l) cx Q env H:=KY (JX hx hy (IntWalk.i64_in _ G)) rfl I k
theorem Yb{d:Nat}{t yt:AK}{x y:Operand}{m n:Nat}(hx:∀a,ev a env x=I0 (m:Int))(hy:∀a,ev a env y=I0 (n:Int))(k:Ops P ops l cx Q ((d,I0 ((m -n:Nat):Int))::env) H)(G:n<=m:=by omega)(J:m<=9223372036854775807:=by omega)(I:Nat.blt d cx.N=true:=by exact rfl):Ops P ops (⟨some d,.binOp .sub t x y yt,ty,pos,af,none⟩::l) cx Q env H:=KY (CQ hx hy G J) rfl I k
theorem Zo{d:Nat}{m:Op}{v:A2}{b:Nat}{o:Obj}(G:Has b o H)(h:OpP P ⟨some d,m,ty,pos,af,none⟩ env [(b,o)] v)(k:Ops P ops l cx Q ((d,v)::env) H)(hn:E5 m=true:=by exact rfl)(I:Nat.blt d cx.N=true:=by exact rfl):Ops P ops (⟨some d,m,ty,pos,af,none⟩::l) cx Q env H:=rh G h hn I k
end
section
variable{P:Program}{u:A4}{ops:Array Oper}{l:List Oper}{cx:Cx}{Qe:Exit->Act->A4->Prop}{env:Env}{H H' R:Hp}{d:Option Nat}{ty:AK}{pos:String}{af:Array Edge}{g:Option (Nat×Bool)}
theorem Ze{m:Op}{G:A2->Hp->Prop}(h:OpW P cx.u ⟨d,m,ty,pos,af,g⟩ env H G (fun _ _=>False))(k:∀v H',G v H'->Ops P ops l cx Qe (putE d v env) H')(J:∀a,wantedE ops a env g=true:=by exact fun _=>rfl)(hn:E5 m=true:=by exact rfl)(I:fits cx.N d=true:=by exact rfl):Ops P ops (⟨d,m,ty,pos,af,g⟩::l) cx Qe env H:=xL h J hn I k
theorem Xe{m:Op}{v0:A2}{H0:Hp}(h:OpW P cx.u ⟨d,m,ty,pos,af,g⟩ env H (fun v H'=>v=v0/\H'=H0) (fun _ _=>False))(k:Ops P ops l cx Qe (putE d v0 env) H0)(I:∀a,wantedE ops a env g=true:=by exact fun _=>rfl)(hn:E5 m=true:=by exact rfl)(G:fits cx.N d=true:=by exact rfl):Ops P ops (⟨d,m,ty,pos,af,g⟩::l) cx Qe env H:=xL h I hn G (by rintro _ _ ⟨rfl,rfl⟩;exact k)
theorem Zw(vs:List A2){W:Operand}{U:Array Operand}{G:Array AK}{f:FuncId}{first m args:AM}{J:Hp}{Q:A2->Hp->Prop}{O:List PanicEntry->Hp->Prop}
 (hf:∀a,ev a env W= .func (.func f) first m)(hc:∀(args:AM) (w:A4),(callFunc f args).run P w= .ok (.enter f args) w)(Z:∀a,U.toList.map (ev a env)=vs)(X:(first.toList++vs++m.toList).toArray=args)
 (I:Ky P f args J Q O)(hp:Ey J H R:=by repeat(first|exact Ey.nil _|(apply Ey.cons;(focus (repeat(first|exact One.here _ _|apply One.there)))))):
 OpW P u ⟨d,.call ⟨.value W,U,G⟩,ty,pos,af,g⟩ env H (fun v H'=>∃H1,Q v H1/\H'=H1++R) (fun ch H'=>∃H1,O ch H1/\H'=H1++R):=bH hf hc Z X I hp
theorem Zu(vs:List A2){U:Operand}{O:Array Operand}{G:Array AK}{f:FuncId}{first m args:AM}{J:Hp}{v:A2}
 (Z:∀a,ev a env U= .func (.func f) first m)(hc:∀(args:AM) (w:A4),(callFunc f args).run P w= .ok (.enter f args) w)(X:∀a,O.toList.map (ev a env)=vs)(W:(first.toList++vs++m.toList).toArray=args)
 (I:Az P f args J v)(hp:Ey J H R:=by repeat(first|exact Ey.nil _|(apply Ey.cons;(focus (repeat(first|exact One.here _ _|apply One.there)))))):
 OpW P u ⟨d,.call ⟨.value U,O,G⟩,ty,pos,af,g⟩ env H (fun v' H'=>v'=v/\H'=H) (fun _ _=>False):=WP Z hc X W I hp
theorem Zc(vs:List A2){U:Operand}{O:Array Operand}{G:Array AK}{f:FuncId}{first m args:AM}{J:Hp}{Q:A2->Hp->Prop}
 (hf:∀a,ev a env U= .func (.func f) first m)(hc:∀(args:AM) (w:A4),(callFunc f args).run P w= .ok (.enter f args) w)(X:∀a,O.toList.map (ev a env)=vs)(W:(first.toList++vs++m.toList).toArray=args)
 (I:Ky P f args J Q fun _ _=>False)(k:∀v H',(∃H1,Q v H1/\H'=H1++R)->Ops P ops l cx Qe (putE d v env) H')(hp:Ey J H R:=by repeat(first|exact Ey.nil _|(apply Ey.cons;(focus (repeat(first|exact One.here _ _|apply One.there))))))(hg:∀a,wantedE ops a env g=true:=by exact fun _=>rfl)(Z:fits cx.N d=true:=by exact rfl):
 Ops P ops (⟨d,.call ⟨.value U,O,G⟩,ty,pos,af,g⟩::l) cx Qe env H:=JY hg (R9 Z) rfl (bH hf hc X W I hp) k Bz
theorem Zr(vs:List A2){U:Operand}{O:Array Operand}{G:Array AK}{f:FuncId}{first m args:AM}{J:Hp}{v:A2}
 (hf:∀a,ev a env U= .func (.func f) first m)(hc:∀(args:AM) (w:A4),(callFunc f args).run P w= .ok (.enter f args) w)(Z:∀a,O.toList.map (ev a env)=vs)(X:(first.toList++vs++m.toList).toArray=args)
 (I:Az P f args J v)(k:∀W H',W=v/\H'=H->Ops P ops l cx Qe (putE d W env) H')(hp:Ey J H R:=by repeat(first|exact Ey.nil _|(apply Ey.cons;(focus (repeat(first|exact One.here _ _|apply One.there))))))(hg:∀a,wantedE ops a env g=true:=by exact fun _=>rfl)(hd:fits cx.N d=true:=by exact rfl):
 Ops P ops (⟨d,.call ⟨.value U,O,G⟩,ty,pos,af,g⟩::l) cx Qe env H:=xL (WP hf hc Z X I hp) hg rfl hd k
theorem Xr(vs:List A2){U:Operand}{O:Array Operand}{G:Array AK}{f:FuncId}{first m args:AM}{J:Hp}{v:A2}
 (hf:∀a,ev a env U= .func (.func f) first m)(hc:∀(args:AM) (w:A4),(callFunc f args).run P w= .ok (.enter f args) w)(X:∀a,O.toList.map (ev a env)=vs)(W:(first.toList++vs++m.toList).toArray=args)
 (I:Az P f args J v)(k:Ops P ops l cx Qe (putE d v env) H)(hp:Ey J H R:=by repeat(first|exact Ey.nil _|(apply Ey.cons;(focus (repeat(first|exact One.here _ _|apply One.there))))))(hg:∀a,wantedE ops a env g=true:=by exact fun _=>rfl)(Z:fits cx.N d=true:=by exact rfl):
 Ops P ops (⟨d,.call ⟨.value U,O,G⟩,ty,pos,af,g⟩::l) cx Qe env H:=xL (WP hf hc X W I hp) hg rfl Z (by rintro _ _ ⟨rfl,rfl⟩;exact k)
theorem Zs{t:AK}{x y:Operand}{b i:Nat}{c c':AM}{T:AK}{z:Nat×Nat}{v:A2}(G:∀w:A4,(Go.sizeOf t).run P w= .ok 1 w)(hx:∀a,ev a env x= .pointer (some ⟨b,i,none⟩))(hy:∀a,ev a env y=v)(m:v.oneCell'=true)
 (I:Upd b (.cells c T z) (.cells c' T z) H H':=by repeat(first|exact Upd.here _|apply Upd.there))(hc:c.setIfInBounds i v=c':=by rfl)(hi:i<c.size:=by first|decide|exact CT _|(simp;done)|(simp;omega))(hz:Gc z c.size:=by exact BA _):
 OpW P u ⟨d,.store t x y,ty,pos,af,g⟩ env H (fun J H1=>J=undef/\H1=H') (fun _ _=>False):=wI G hx hy m I hc hi hz
end
section
variable{P:Program}{ops:Array Oper}{A:List Nat}{F:Nat}{cx:Cx}{Q:Exit->Act->A4->Prop}{n D:Nat}{T:List (Nat×A8)}{env:Env}{H:Hp}{ty:AK}{pos:String}{af:Array Edge}
theorem Yk{o:Oper}(D' i:Nat)(J:ops[i]?=some o)(k:Lin P ops A F cx Q n D' T (putE o.dst undef env) H)(I:∀a,wantedE ops a env o.guard=false:=by exact fun _=>rfl)(m:(!bit D i&&F4 (A.getD i 0) D)=true:=by exact rfl)(G:D|||(1<<<i)=D':=by exact rfl):Lin P ops A F cx Q (n+1) D T env H:=tC i J I m G k
theorem Zi{d:Nat}{G:Op}{v:A2}(D' i:Nat)(O:ops[i]?=some ⟨some d,G,ty,pos,af,none⟩)(m:OpP P ⟨some d,G,ty,pos,af,none⟩ env [] v)(k:Lin P ops A F cx Q n D' T ((d,v)::env) H)(I:(!bit F i&&!bit D i&&F4 (A.getD i 0) D)=true:=by exact rfl)(J:D|||(1<<<i)=D':=by exact rfl):Lin P ops A F cx Q (n+1) D T env H:=zL i O I J m k
theorem Zj{d:Nat}{t:AK}{x:Operand}{b j:Nat}{c:AM}{U:AK}{z:Nat×Nat}{v:A2}(D' i:Nat)(O:ops[i]?=some ⟨some d,.load t x,ty,pos,af,none⟩)(I:∀w:A4,(isAgg t).run P w= .ok false w)(hx:∀a,ev a env x= .pointer (some ⟨b,j,none⟩))(k:Lin P ops A F cx Q n D' ((i,(b,.cells c U z))::T) ((d,v)::env) H)
 (J:Has b (.cells c U z) H:=by repeat(first|exact Has.here _|apply Has.there))(hv:c[j]?=some v:=by rfl)(m:(!bit F i&&!bit D i&&F4 (A.getD i 0) D)=true:=by exact rfl)(G:D|||(1<<<i)=D':=by exact rfl):Lin P ops A F cx Q (n+1) D T env H:=D5 i O m G J (BL I hx hv) k
theorem Zk{H:Hp}{i b:Nat}{x:Obj}{T:List (Nat×A8)}(m:∀p∈T,p.2∈H.flatten)(h:Has b x H:=by repeat(first|exact Has.here _|apply Has.there)):∀p∈((i,(b,x))::T),p.2∈H.flatten:=mE h m
theorem Zy{f:Nat}{l:List Nat}{o:Oper}{U:A2->Hp->Prop}{O:List PanicEntry->Hp->Prop}(m D':Nat)(is:List Nat)(bs:List Bool)(G:List (Nat×A8))(ho:ops[f]?=some o)(Z:∀a,wantedE ops a env o.guard=true)(W:D|||(1<<<f)=D')(hm:A[f]?=some m)(I:T.map (·.1)=is)(X:sel bs T=G)(hw:OpW P cx.u o env H U O)
 (k:∀v H',U v H'->(∀p∈G,p.2∈H'.flatten)/\Lin P ops A F cx Q n D' G (putE o.dst v env) H')(kp:∀ch H',O ch H'->∀env,Nx cx (Q (.panic ch)) env H')(hl:Xj P ops A F cx Q n D T env H l)(J:OH m bs is=true:=by kernel_rfl):Xj P ops A F cx Q n D T env H (f::l):=Vu ho Z W hm I J X hw k kp hl
theorem Zz{l:List Nat}(h:Xj P ops A F cx Q n D T env H l)(m:mZ ops A F D=true:=by kernel_rfl)(h2:Ka ops A F D=l:=by kernel_rfl):Lin P ops A F cx Q (n+1) D T env H:=XC m h2 h
theorem Yz(f:Nat){o:Oper}{O:A2->Hp->Prop}(m D':Nat)(is:List Nat)(bs:List Bool)(G:List (Nat×A8))(ho:ops[f]?=some o)(Z:∀a,wantedE ops a env o.guard=true)(W:D|||(1<<<f)=D')(hm:A[f]?=some m)(I:T.map (·.1)=is)(X:sel bs T=G)(hw:OpW P cx.u o env H O (fun _ _=>False))
 (k:∀v H',O v H'->(∀p∈G,p.2∈H'.flatten)/\Lin P ops A F cx Q n D' G (putE o.dst v env) H')(J:OH m bs is=true:=by kernel_rfl)(U:mZ ops A F D=true:=by kernel_rfl)(h2:Ka ops A F D=[f]:=by kernel_rfl):Lin P ops A F cx Q (n+1) D T env H:=XC U h2 (Vu ho Z W hm I J X hw k (fun _ _ h=>h.elim) Am)
end
theorem Wh{b:Nat}{o:Obj}{H:Hp}(h:Has b o H:=by repeat(first|exact Has.here _|apply Has.there)):Has b o H:=h
theorem Wu{b:Nat}{x y:Obj}{H H':Hp}(h:Upd b x y H H':=by repeat(first|exact Upd.here _|apply Upd.there)):Upd b x y H H':=h
theorem Wo{s:List A8}{H R:Hp}(h:One s H R:=by repeat(first|exact One.here _ _|apply One.there)):One s H R:=h
theorem Wp{G H R:Hp}(h:Ey G H R:=by repeat(first|exact Ey.nil _|(apply Ey.cons;(focus (repeat(first|exact One.here _ _|apply One.there)))))):Ey G H R:=h
theorem Wb{p:Prop}(h:p:=by first|omega|decide|(simp;done)):p:=h
theorem Wn{p:Prop}(h:p:=by first|decide|exact CT _|(simp;done)|(simp;omega)):p:=h
theorem mL:maxLen=9223372036854775807:=rfl
theorem Se{P:Program}{f:FuncId}{m:Func}{c:Code}{args:AM}{N:Nat}{H:Hp}{Q:A2->Hp->Prop}{I:List PanicEntry->Hp->Prop}{e:Env}(W:P.funcs[f]?=some m)(J:m.ntmps=N)(G:List Nat)
 (h:∀u R,At P ⟨N,[],u,none⟩ c (bodyPost P m (GV u R Q I)) e (H++R))(O:m.body=some c:=by exact rfl)(X:Nat.ble args.size N=true:=by exact rfl)(hn:G.all (fun t=>Nat.blt t N)=true:=by exact rfl)
 (U:WA (FZ 0 args.toList) G e:=by repeat(first|exact PU|(apply NM;exact fun _=>rfl))):Ky P f args H Q I:=KS W O J X fun u R=>Zb G (h u R) hn U
section
variable{P:Program}{u:A4}{env:Env}{H H' R:Hp}{d:Option Nat}{ty:AK}{pos:String}{af:Array Edge}{g:Option (Nat×Bool)}
theorem Xw{t:AK}{x y:Operand}{b i n:Nat}{c cs:AM}{T:AK}{z:Nat×Nat}(G:∀w:A4,(Go.sizeOf t).run P w= .ok n w)(c':AM)(hx:∀a,ev a env x= .pointer (some ⟨b,i,none⟩):=by exact fun _=>rfl)(hy:∀a,ev a env y= .agg cs:=by exact fun _=>rfl)
 (m:∀v∈cs.toList,v.oneCell'=true:=by first|(simp [Value.oneCell'];done)|(simp [Value.oneCell',Value.cells];done))(I:Upd b (.cells c T z) (.cells c' T z) H H':=by repeat(first|exact Upd.here _|apply Upd.there))(hc:EP c i cs.toList=c':=by rfl)(hn:cs.size=n:=by first|rfl|(simp;done))
 (hi:i+n<=c.size:=by first|omega|decide|exact CT _|(simp;done)|(simp;omega))(hz:Gc z c.size:=by exact BA _):OpW P u ⟨d,.store t x y,ty,pos,af,g⟩ env H (fun J H1=>J=undef/\H1=H') (fun _ _=>False):=BF G hx hy m I hc hn hi hz
theorem Pa{d:Option Nat}{t:AK}{x:Operand}{b i n:Nat}{c:AM}{T:AK}{z:Nat×Nat}(cs:AM)(m:∀w:A4,(isAgg t).run P w= .ok true w)(G:∀w:A4,(Go.sizeOf t).run P w= .ok n w)(hx:∀a,ev a env x= .pointer (some ⟨b,i,none⟩))
 (hn:i+n<=c.size:=by first|omega|decide|exact CT _|(simp;done)|(simp;omega))(hv:c.extract i (i+n)=cs:=by rfl):OpP P ⟨d,.load t x,ty,pos,af,g⟩ env [(b,.cells c T z)] (.agg cs):=AA m G hx hn hv
theorem Bx{t:AK}{x:Operand}{v:A2}(cs:AM)(hx:∀a,ev a env x=v:=by exact fun _=>rfl)(hc:v.cells=cs:=by first|rfl|(simp [Value.cells];done)):OpW P u ⟨d,.box t x,ty,pos,af,g⟩ env H (fun m H1=>∃b,m=I1 b/\H1=[(b,.cells cs t (0,0))]::H) (fun _ _=>False):=FN hx hc
theorem Al{t:AK}{m:A2}(hz:∀w:A4,(zeroValue t).run P w= .ok m w)(cs:AM)(hc:m.cells=cs:=by rfl):OpW P u ⟨d,.alloc t,ty,pos,af,g⟩ env H (fun G H1=>∃b,G=I1 b/\H1=[(b,.cells cs t (0,0))]::H) (fun _ _=>False):=Dm hz hc
end
section
variable{P:Program}{ops:Array Oper}{A:List Nat}{F:Nat}{cx:Cx}{Q:Exit->Act->A4->Prop}{n D:Nat}{T:List (Nat×A8)}{env:Env}{H:Hp}{ty:AK}{pos:String}{af:Array Edge}
theorem Yw(f D':Nat){o:Oper}{O:A2->Hp->Prop}{m:Nat}(ho:ops[f]?=some o)(hw:OpW P cx.u o env H O (fun _ _=>False))(k:∀v H',O v H'->Lin P ops A F cx Q n D' [] (putE o.dst v env) H')(hg:∀a,wantedE ops a env o.guard=true:=by exact fun _=>rfl)(hD:D|||(1<<<f)=D':=by exact rfl)
 (hm:A[f]?=some m:=by exact rfl)(J:(T.all fun p=>bit m p.1)=true:=by kernel_rfl)(Z:mZ ops A F D=true:=by kernel_rfl)(h2:Ka ops A F D=[f]:=by kernel_rfl):Lin P ops A F cx Q (n+1) D T env H:=by
 have I:A.getD f 0=m:=by rw [Q2,hm];rfl
 subst hD;refine XC Z h2 ⟨⟨o,[],ho,hg,fun p hp=> .inl (by rw [I];exact Pc.1 J p hp),fun a w hs K X hK af=>hw a w hs K X (fun v H' W G U=>hK v H' W ⟨Ac,k v H' G⟩ U) (fun ch H' W G U=>G.elim)⟩,Am⟩
end
section
variable{P:Program}{ops:Array Oper}{A:List Nat}{F:Nat}{cx:Cx}{Q:Exit->Act->A4->Prop}{n D:Nat}{T:List (Nat×A8)}{env:Env}{H:Hp}{ty:AK}{pos:String}{af:Array Edge}
theorem A1{d:Nat}{G:Op}{v:A2}(i:Nat)(J:ops[i]?=some ⟨some d,G,ty,pos,af,none⟩)(m:OpP P ⟨some d,G,ty,pos,af,none⟩ env [] v)(k:Lin P ops A F cx Q n (D|||(1<<<i)) T ((d,v)::env) H)(I:(!bit F i&&!bit D i&&F4 (A.getD i 0) D)=true:=by exact rfl):Lin P ops A F cx Q (n+1) D T env H:=zL i J I rfl m k
theorem Bk{d:Nat}{t:AK}{x:Operand}{b j:Nat}{c:AM}{U:AK}{z:Nat×Nat}{v:A2}(i:Nat)(J:ops[i]?=some ⟨some d,.load t x,ty,pos,af,none⟩)(G:∀w:A4,(isAgg t).run P w= .ok false w)(hx:∀a,ev a env x= .pointer (some ⟨b,j,none⟩))(k:Lin P ops A F cx Q n (D|||(1<<<i)) ((i,(b,.cells c U z))::T) ((d,v)::env) H)
 (I:Has b (.cells c U z) H:=by repeat(first|exact Has.here _|apply Has.there))(hv:c[j]?=some v:=by rfl)(m:(!bit F i&&!bit D i&&F4 (A.getD i 0) D)=true:=by exact rfl):Lin P ops A F cx Q (n+1) D T env H:=D5 i J m rfl I (BL G hx hv) k
theorem AW{o:Oper}(i:Nat)(I:ops[i]?=some o)(k:Lin P ops A F cx Q n (D|||(1<<<i)) T (putE o.dst undef env) H)(G:∀a,wantedE ops a env o.guard=false:=by exact fun _=>rfl)(m:(!bit D i&&F4 (A.getD i 0) D)=true:=by exact rfl):Lin P ops A F cx Q (n+1) D T env H:=tC i I G m rfl k
theorem B5{d:Nat}{G:Op}{g:Nat×Bool}{v:A2}(i:Nat)(O:ops[i]?=some ⟨some d,G,ty,pos,af,some g⟩)(m:OpP P ⟨some d,G,ty,pos,af,some g⟩ env [] v)(k:Lin P ops A F cx Q n (D|||(1<<<i)) T ((d,v)::env) H)(J:∀a,wantedE ops a env (some g)=true:=by exact fun _=>rfl)(I:(!bit F i&&!bit D i&&F4 (A.getD i 0) D)=true:=by exact rfl):Lin P ops A F cx Q (n+1) D T env H:=Aj i J O I rfl m k
theorem Fk{d:Nat}{G:Op}{g:Nat×Bool}{v:A2}{b:Nat}{x:Obj}(i:Nat)(U:ops[i]?=some ⟨some d,G,ty,pos,af,some g⟩)(J:Has b x H)(m:OpP P ⟨some d,G,ty,pos,af,some g⟩ env [(b,x)] v)(k:Lin P ops A F cx Q n (D|||(1<<<i)) ((i,(b,x))::T) ((d,v)::env) H)(O:∀a,wantedE ops a env (some g)=true:=by exact fun _=>rfl)(I:(!bit F i&&!bit D i&&F4 (A.getD i 0) D)=true:=by exact rfl):Lin P ops A F cx Q (n+1) D T env H:=CF i O U I rfl J m k
theorem GB{d:Nat}{G:Op}{v:A2}{b:Nat}{x:Obj}(i:Nat)(O:ops[i]?=some ⟨some d,G,ty,pos,af,none⟩)(J:Has b x H)(m:OpP P ⟨some d,G,ty,pos,af,none⟩ env [(b,x)] v)(k:Lin P ops A F cx Q n (D|||(1<<<i)) ((i,(b,x))::T) ((d,v)::env) H)(I:(!bit F i&&!bit D i&&F4 (A.getD i 0) D)=true:=by exact rfl):Lin P ops A F cx Q (n+1) D T env H:=D5 i O I rfl J m k
theorem C0{f:Nat}{l:List Nat}{o:Oper}{O:A2->Hp->Prop}{J:List PanicEntry->Hp->Prop}(bs:List Bool)(G:List (Nat×A8))(ho:ops[f]?=some o)(U:sel bs T=G)(hw:OpW P cx.u o env H O J)
 (k:∀v H',O v H'->(∀p∈G,p.2∈H'.flatten)/\Lin P ops A F cx Q n (D|||(1<<<f)) G (putE o.dst v env) H')(kp:∀ch H',J ch H'->∀env,Nx cx (Q (.panic ch)) env H')(X:Xj P ops A F cx Q n D T env H l)(W:∀a,wantedE ops a env o.guard=true:=by exact fun _=>rfl){m:Nat}(Z:A[f]?=some m:=by exact rfl)(I:OH m bs (T.map (·.1))=true:=by kernel_rfl):Xj P ops A F cx Q n D T env H (f::l):=Vu ho W rfl Z rfl I U hw k kp X
end
theorem AF{α:Type}{f:α->Value}{g:α->Hp}{P:Value->Hp->Prop}(h:∀x,P (f x) (g x)):∀v H',(∃x,v=f x/\H'=g x)->P v H':=by rintro _ _ ⟨x,rfl,rfl⟩;exact h x
theorem F1{a:Value}{b:Hp}{P:Value->Hp->Prop}(h:P a b):∀v H',(v=a/\H'=b)->P v H':=by rintro _ _ ⟨rfl,rfl⟩;exact h
theorem CA{T:List (Nat×A8)}{H:Hp}{L:Prop}(h:L)(m:∀p∈T,p.2∈H.flatten:=by repeat(first|exact Ac|refine Zk ?_)):(∀p∈T,p.2∈H.flatten)/\L:=⟨m,h⟩
section
variable{P:Program}{ops:Array Oper}{l:List Oper}{cx:Cx}{Q:Exit->Act->World->Prop}{env:Env}{H:Hp}{ty:TypeId}{pos:String}{af:Array Edge}
theorem A3{x:Code}{id:Nat}(h:Ops P ops ops.toList cx (Exit.then (x.wpIn (Fx cx.r) 0 P Q) Q) env H):At P cx (.seq (.region id ops false) x) Q env H:=Zq (Zg h)
theorem A5{y:Code}(h:At P cx y Q env H):Ops P ops [] cx (Exit.then (y.wpIn (Fx cx.r) 0 P Q) Q) env H:=Z0 (Zx h)
theorem B1{d:Nat}{x:Operand}{v:Value}(hx:∀a,ev a env x=v)(k:Nx cx (Q .normal) ((d,v)::env) H)(m:Nat.blt d cx.N=true:=by exact rfl):Ops P ops [⟨some d,.assign x,ty,pos,af,none⟩] cx Q env H:=Za hx (Z0 k) m
theorem AH{d:Nat}{x:Operand}{v:Value}{y:Code}(hx:∀a,ev a env x=v)(k:At P cx y Q ((d,v)::env) H)(m:Nat.blt d cx.N=true:=by exact rfl):Ops P ops [⟨some d,.assign x,ty,pos,af,none⟩] cx (Exit.then (y.wpIn (Fx cx.r) 0 P Q) Q) env H:=Za hx (Z0 (Zx k)) m
end
section
variable{P:Program}{ops:Array Oper}{l:List Oper}{cx:Cx}{Q:Exit->Act->World->Prop}{env:Env}{H:Hp}{ty ty2:TypeId}{pos pos2:String}{af af2:Array Edge}
theorem C5{d:Option Nat}{I:Op}{g:Nat×Bool}(k:Ops P ops l cx Q (putE d undef env) H)(G:∀a,wantedE ops a env (some g)=false:=by exact fun _=>rfl)(m:fits cx.N d=true:=by exact rfl):Ops P ops (⟨d,I,ty,pos,af,some g⟩::l) cx Q env H:=A7 G m k
theorem AG{d d2:Option Nat}{W m:Op}{g G:Nat×Bool}(k:Ops P ops l cx Q (putE d2 undef (putE d undef env)) H)(U:∀a,wantedE ops a env (some g)=false:=by exact fun _=>rfl)(I:fits cx.N d=true:=by exact rfl)(O:∀a,wantedE ops a (putE d undef env) (some G)=false:=by exact fun _=>rfl)(J:fits cx.N d2=true:=by exact rfl):Ops P ops (⟨d,W,ty,pos,af,some g⟩::⟨d2,m,ty2,pos2,af2,some G⟩::l) cx Q env H:=A7 U I (A7 O J k)
theorem AN{x:Code}{id d:Nat}{y:Operand}{v:Value}(hx:∀a,ev a env y=v)(k:Ops P ((⟨some d,.move y,ty,pos,af,none⟩:Oper)::l).toArray l cx (Exit.then (x.wpIn (Fx cx.r) 0 P Q) Q) ((d,v)::env) H)(m:Nat.blt d cx.N=true:=by exact rfl):At P cx (.seq (.region id ((⟨some d,.move y,ty,pos,af,none⟩:Oper)::l).toArray false) x) Q env H:=A3 (Zm hx k m)
theorem Ax{d:Nat}{x:Operand}{v:Value}(hx:∀a,ev a env x=v)(k:Nx cx (Q .ret) ((d,v)::env) H)(m:Nat.blt d cx.N=true:=by exact rfl):Ops P ops [⟨some d,.assign x,ty,pos,af,none⟩] cx (Exit.then (Code.ret.wpIn (Fx cx.r) 0 P Q) Q) env H:=AH hx (AJ k) m
theorem BW{d:Nat}{c x y:Operand}{v:Value}(hc:∀a,ev a env c= .bool false)(h:∀a,ev a env y=v)(k:Ops P ops l cx Q ((d,v)::env) H)(m:Nat.blt d cx.N=true:=by exact rfl):Ops P ops (⟨some d,.pick c x y,ty,pos,af,none⟩::l) cx Q env H:=Zv (AO hc h) k rfl m
theorem BT{d:Nat}{c x y:Operand}{v:Value}(hc:∀a,ev a env c= .bool true)(h:∀a,ev a env x=v)(k:Ops P ops l cx Q ((d,v)::env) H)(m:Nat.blt d cx.N=true:=by exact rfl):Ops P ops (⟨some d,.pick c x y,ty,pos,af,none⟩::l) cx Q env H:=Zv (AL hc h) k rfl m
theorem CD{x:Code}{id:Nat}(h:Ops P ops ops.toList cx (Exit.then (x.wpIn (Fx cx.r) 0 P Q) Q) env H):Nx cx ((Exit.then ((Code.seq (.region id ops false) x).wpIn (Fx cx.r) 0 P Q) Q) .normal) env H:=Zx (A3 h)
theorem B4{y:Code}(h:At P cx y Q env H):At P cx .skip (Exit.then (y.wpIn (Fx cx.r) 0 P Q) Q) env H:=AC (Zx h)
theorem E6{id d e:Nat}{t yt:TypeId}{x y z:Operand}{m:Nat}{v:Value}(hx:∀a,ev a env x= .int .i64 (m:Int))(hy:∀a,ev a env y= .int .i64 ((1:Nat):Int))(hz:∀a,ev a ((d,.int .i64 ((m+1:Nat):Int))::env) z=v)(k:Nx cx (Q .normal) ((e,v)::((d,.int .i64 ((m+1:Nat):Int))::env)) H)(G:m+1≤9223372036854775807:=by omega)(I:Nat.blt d cx.N=true:=by exact rfl)(J:Nat.blt e cx.N=true:=by exact rfl):At P cx (.region id #[⟨some d,.binOp .add t x y yt,ty,pos,af,none⟩,⟨some e,.move z,ty2,pos2,af2,none⟩] false) Q env H:=Zg (Ya hx hy (Zm hz (Z0 k) J) G I)
theorem B7{x z:Code}{id d:Nat}{y:Operand}{v:Value}(hx:∀a,ev a env y=v)(k:Ops P ((⟨some d,.move y,ty,pos,af,none⟩:Oper)::l).toArray l cx (Exit.then (x.wpIn (Fx cx.r) 0 P (Exit.then (z.wpIn (Fx cx.r) 0 P Q) Q)) (Exit.then (z.wpIn (Fx cx.r) 0 P Q) Q)) ((d,v)::env) H)(m:Nat.blt d cx.N=true:=by exact rfl):At P cx (.seq (.seq (.region id ((⟨some d,.move y,ty,pos,af,none⟩:Oper)::l).toArray false) x) z) Q env H:=Zq (AN hx k m)
theorem D2{d:Nat}{x:Operand}{v:Value}{y z:Code}(hx:∀a,ev a env x=v)(k:At P cx y (Exit.then (z.wpIn (Fx cx.r) 0 P Q) Q) ((d,v)::env) H)(m:Nat.blt d cx.N=true:=by exact rfl):Ops P ops [⟨some d,.assign x,ty,pos,af,none⟩] cx (Exit.then ((Code.seq y z).wpIn (Fx cx.r) 0 P Q) Q) env H:=AH hx (Zq k) m
end
def fN(env e:Env):Prop:=∀a,JO a env (e.map Prod.fst)=e
theorem oX{env:Env}:fN env []:=fun _=>rfl
theorem oY{env:Env}{t:Nat}{v:Value}{e:Env}(h:∀a,GA a env t=v)(h2:fN env e):fN env ((t,v)::e):=fun a=>by
 simp only [List.map_cons,JO];rw [h a,h2 a]
section
variable{cx:Cx}{Q:Exit->Act->World->Prop}{env B e:Env}{R K H:Hp}
theorem HB{I:Nat->Env->Hp->Prop}{n m:Nat}(h:I m e K)(J:m<n:=by omega)(hn:(e++B).all (fun p=>Nat.blt p.1 cx.N)=true:=by exact rfl)(G:fN env (e++B):=by repeat(first|exact oX|(apply oY;exact fun _=>rfl)))(O:Sub (K++R) H:=by repeat(first|exact Sub.refl _|exact Sub.nil _|(apply Sub.cons;(focus (repeat(first|exact One.here _ _|apply One.there))))|refine Sub.drop _ ?_)):Nx cx ((Exit.then (vg cx I B R n) Q) .normal) env H:=rX ((e++B).map Prod.fst) (by rw [List.all_map];exact hn) G (Af h J O)
theorem Hx{I:Env->Hp->Prop}(h:I e K)(hn:(e++B).all (fun p=>Nat.blt p.1 cx.N)=true:=by exact rfl)(m:fN env (e++B):=by repeat(first|exact oX|(apply oY;exact fun _=>rfl)))(G:Sub (K++R) H:=by repeat(first|exact Sub.refl _|exact Sub.nil _|(apply Sub.cons;(focus (repeat(first|exact One.here _ _|apply One.there))))|refine Sub.drop _ ?_)):Nx cx ((Exit.then (fun a w=>∃e H1 a0,I e H1/\St cx (e++B) (H1++R) a0 w/\a=C9 (e++B) a0) Q) .normal) env H:=rX ((e++B).map Prod.fst) (by rw [List.all_map];exact hn) m (BU h G)
theorem DM{I:Nat->Env->Hp->Prop}{n m:Nat}(G:fN env (e++B):=by repeat(first|exact oX|(apply oY;exact fun _=>rfl)))(h:I m e K)(J:m<n:=by omega)(hn:(e++B).all (fun p=>Nat.blt p.1 cx.N)=true:=by exact rfl)(O:Sub (K++R) H:=by repeat(first|exact Sub.refl _|exact Sub.nil _|(apply Sub.cons;(focus (repeat(first|exact One.here _ _|apply One.there))))|refine Sub.drop _ ?_)):Nx cx ((Exit.then (vg cx I B R n) Q) .normal) env H:=rX ((e++B).map Prod.fst) (by rw [List.all_map];exact hn) G (Af h J O)
theorem HM{I:Env->Hp->Prop}(m:fN env (e++B):=by repeat(first|exact oX|(apply oY;exact fun _=>rfl)))(h:I e K)(hn:(e++B).all (fun p=>Nat.blt p.1 cx.N)=true:=by exact rfl)(G:Sub (K++R) H:=by repeat(first|exact Sub.refl _|exact Sub.nil _|(apply Sub.cons;(focus (repeat(first|exact One.here _ _|apply One.there))))|refine Sub.drop _ ?_)):Nx cx ((Exit.then (fun a w=>∃e H1 a0,I e H1/\St cx (e++B) (H1++R) a0 w/\a=C9 (e++B) a0) Q) .normal) env H:=rX ((e++B).map Prod.fst) (by rw [List.all_map];exact hn) m (BU h G)
end
end Gw
