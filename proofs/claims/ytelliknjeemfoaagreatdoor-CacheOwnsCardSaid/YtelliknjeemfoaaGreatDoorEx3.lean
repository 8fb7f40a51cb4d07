/- Walking by chunks: writes, new memory, calls, a function's entry and end. No function of the program is named. -/
import Derived.Test.YtelliknjeemfoaaGreatDoorEx2
set_option linter.unusedVariables false
set_option linter.unusedSimpArgs false
namespace Gw
open Go Go.RowKit
def FZ:Nat->List A2->Env
 |_,[]=>[]
 |i,v::l=>(i,v)::FZ (i+1) l
def Gc(z:Nat×Nat)(n:Nat):Prop:=∀i,i<n->¬(z.1<=i/\i<z.2)
theorem BA(n:Nat):Gc (0,0) n:=fun i _ h=>by simp only at h;omega
theorem ZV(n m:Nat)(h:n<=m)(k:Nat):Gc (m,k) n:=fun i hi B=>by simp only at B;omega
theorem Om{w:A4}{b i:Nat}{c:AM}{T:AK}{z:Nat×Nat}(v:A2)(h:w.heap[b]?=some (.cells c T z)):
 (w.setCell ⟨b,i,none⟩ v).heap[b]?=some (.cells (c.setIfInBounds i v) T z):=by
 simp [World.setCell,V0,h]
theorem Kw{w:A4}{k:Nat}{a:Addr}(v:A2)(hn:k≠a.block):(w.setCell a v).heap[k]?=w.heap[k]?:=by
 simp [World.setCell,V0,en hn]
theorem Ji{P:Program}{w:A4}{b i:Nat}{c:AM}{T:AK}{z:Nat×Nat}{v:A2}(h:w.heap[b]?=some (.cells c T z))(hi:i<c.size)(hz:Gc z c.size)(m:v.oneCell'=true):
 (store ⟨b,i,none⟩ v).run P w= .ok () (w.setCell ⟨b,i,none⟩ v):=by
 have hc:w.cell? ⟨b,i,none⟩=some c[i]:=Cn h (I3 hi);have B:w.frozen? ⟨b,i,none⟩=false:=by
  simp only [World.frozen?,h];have:=hz i hi
  obtain ⟨lo,G⟩:=z;simp only at this⊢;simpa using this
 rw [run_store P w _ v _ m,hc];simp [B]
theorem Ci{P:Program}(g o:Nat)(t:AK)(z:Nat×Nat):∀(vs:List A2) (i:Nat) (cur:AM) (w:A4),w.heap[g]?=some (.cells cur t z)->Gc z cur.size->o+i+vs.length<=cur.size->(∀v∈vs,v.oneCell'=true)->
 (storeCells ⟨g,o,none⟩ vs i).run P w= .ok () (w.setRow g (cur.toList.take (o+i)++vs++cur.toList.drop (o+i+vs.length)).toArray)
 |[],i,cur,w,hg,_,_,_=>by
  simp only [storeCells,DQ,Mp,Pu,MA,Array.toArray_toList];rw [setRow_self w g cur t z hg];rfl
 |v::rest,i,cur,w,hg,hz,hl,h1=>by
  have hi:o+i<cur.size:=by simp at hl;omega
  have m:(store ((⟨g,o,none⟩:Addr).add i) v).run P w= .ok () (w.setRow g (cur.setIfInBounds (o+i) v)):=by
   rw [CW,Ji hg hi hz (h1 v B6),setCell_eq_setRow w g (o+i) cur t z v hg]
  have B:=Ci (P:=P) g o t z rest (i+1) (cur.setIfInBounds (o+i) v) (w.setRow g (cur.setIfInBounds (o+i) v)) (setRow_heap w g cur _ t _ hg) (by simpa using hz) (by simp at hl⊢;omega) (fun x hx=>h1 x (by simp [hx]));simp only [storeCells,Sem.run_bind,m,Result.andThen_ok,B,setRow_setRow];congr 3;have e:=list_seg_step cur.toList (o+i) v rest (by simp at hl⊢;omega)
  simpa [jz,l3]using e
theorem JB{α β:Type}(f:α->β)(ps:Array α):ps.map f=(ps.toList.map f).toArray:=by
 apply Array.ext';simp only [Array.toList_map]
def EP(c:AM)(i:Nat)(vs:List A2):AM:=(c.toList.take i++vs++c.toList.drop (i+vs.length)).toArray
section
variable{P:Program}{u:A4}{env:Env}{H H' R:Hp}{d:Option Nat}{ty:AK}{pos:String}{af:Array Edge}{g:Option (Nat×Bool)}
theorem wI{t:AK}{x y:Operand}{b i:Nat}{c c':AM}{T:AK}{z:Nat×Nat}{v:A2}(X:∀w:A4,(Go.sizeOf t).run P w= .ok 1 w)(hx:∀a,ev a env x= .pointer (some ⟨b,i,none⟩))(hy:∀a,ev a env y=v)(I:v.oneCell'=true)
 (O:Upd b (.cells c T z) (.cells c' T z) H H')(hc:c.setIfInBounds i v=c')(hi:i<c.size)(hz:Gc z c.size):
 OpW P u ⟨d,.store t x y,ty,pos,af,g⟩ env H (fun Z H1=>Z=undef/\H1=H') (fun _ _=>False):=fun a w B K Kp U _=>by
 have J:=B.get _ O.has.mem;have m:v.cells=#[v]:=by cases v<;>first|rfl|simp [Value.oneCell']at I
 have G:=Ji (P:=P) J hi hz I;have:(execOp (ev a env) ⟨d,.store t x y,ty,pos,af,g⟩).run P w= .ok .skip (w.setCell ⟨b,i,none⟩ v):=by
  simp [R3,hx a,hy a,Instr.storeAt,Instr.sureAddr,storeVar,X,m,storeCells,Addr.add_zero',G]
 rw [this];exact U _ _ _ ⟨rfl,rfl⟩ (B.upd O rfl rfl rfl (by rw [Om v J,hc]) fun k W=>Kw v W)
theorem BF{t:AK}{x y:Operand}{b i n:Nat}{c cs:AM}{T:AK}{z:Nat×Nat}{c':AM}(W:∀w:A4,(Go.sizeOf t).run P w= .ok n w)(hx:∀a,ev a env x= .pointer (some ⟨b,i,none⟩))(hy:∀a,ev a env y= .agg cs)(J:∀v∈cs.toList,v.oneCell'=true)
 (I:Upd b (.cells c T z) (.cells c' T z) H H')(hc:EP c i cs.toList=c')(hn:cs.size=n)(hi:i+n<=c.size)(hz:Gc z c.size):
 OpW P u ⟨d,.store t x y,ty,pos,af,g⟩ env H (fun X H1=>X=undef/\H1=H') (fun _ _=>False):=fun a w m K Z O _=>by
 have G:=m.get _ I.has.mem;have B:=Ci (P:=P) b i T z cs.toList 0 c w G hz (by simp;omega) J
 simp only [Pu]at B;have:(execOp (ev a env) ⟨d,.store t x y,ty,pos,af,g⟩).run P w= .ok .skip (w.setRow b (EP c i cs.toList)):=by
  simp [R3,hx a,hy a,Instr.storeAt,Instr.sureAddr,storeVar,W,Value.cells,hn,B,EP]
 rw [this];exact O _ _ _ ⟨rfl,rfl⟩ (m.upd I rfl rfl rfl (by rw [setRow_heap w b c _ T z G,hc]) fun k U=>setRow_other w b k _ U)
theorem Dm{t:AK}{m:A2}(hz:∀w:A4,(zeroValue t).run P w= .ok m w){cs:AM}(hc:m.cells=cs):
 OpW P u ⟨d,.alloc t,ty,pos,af,g⟩ env H (fun I H1=>∃b,I=I1 b/\H1=[(b,.cells cs t (0,0))]::H) (fun _ _=>False):=fun a w G K J B _=>by
 have:(execOp (ev a env) ⟨d,.alloc t,ty,pos,af,g⟩).run P w= .ok (.value (.pointer (some ⟨w.heap.size,0,none⟩))) {w with heap:=w.heap.push (.cells cs t)}:=by
  simp [wG,Instr.alloc,hz,newVar,newRow,hc]
 rw [this];exact B _ _ _ ⟨_,V,V⟩ (G.alloc _)
theorem FN{t:AK}{x:Operand}{v:A2}(hx:∀a,ev a env x=v){cs:AM}(hc:v.cells=cs):
 OpW P u ⟨d,.box t x,ty,pos,af,g⟩ env H (fun G H1=>∃b,G=I1 b/\H1=[(b,.cells cs t (0,0))]::H) (fun _ _=>False):=fun a w B K I m _=>by
 have:(execOp (ev a env) ⟨d,.box t x,ty,pos,af,g⟩).run P w= .ok (.value (.pointer (some ⟨w.heap.size,0,none⟩))) {w with heap:=w.heap.push (.cells cs t)}:=by
  simp [wa,Instr.box,hx a,newVar,newRow,hc]
 rw [this];exact m _ _ _ ⟨_,V,V⟩ (B.alloc _)
theorem IQ(c:AM)(n:Nat)(h:c.size=n):c.extract 0 (0+n)=c:=by subst h;simp
theorem rQ(c:AM):EP c 0 c.toList=c:=by
 unfold EP;rw [Up B6];simp
theorem Ye(c:AM)(cs:List A2)(h:cs.length=c.toList.length):EP c 0 cs=cs.toArray:=by
 unfold EP;rw [Up A0];simp
theorem wC(cs:List A2):∀(l:List A2) (k off:Nat) (c:AM),c.toList=cs->off+k+l.length<=cs.length->
 ((l.zipIdx k).foldl (fun(a:AM) (p:A2×Nat)=>a.setIfInBounds (off+p.2) p.1) c).toList=cs.take (off+k)++l++cs.drop (off+k+l.length):=by
 intro l;induction l generalizing cs with
 |nil=>intro k off c hc m;simp [hc]
 |cons v l ih=>
  intro k off c hc m;simp only [List.zipIdx_cons,W8];have B:off+k+(l.length+1)<=cs.length:=by simpa using m
  rw [ih (cs.set (off+k) v) (k+1) off (c.setIfInBounds (off+k) v) (by rw [jz,hc]) LO];have:=list_seg_step cs (off+k) v l A0
  simpa [l3]using this
theorem aB(s:Nat):∀(vs:List A2) (k:Nat) (c:AM),(∀v∈vs,v.cells.size=s)->c.size=(k+vs.length)*s->
 Instr.fill (fun i=>some (i*s,s)) c (FZ k vs)=some (c.toList.take (k*s)++vs.flatMap fun v=>v.cells.toList).toArray
 |[],k,c,_,hc=>by
  simp only [FZ,Instr.fill,List.flatMap_nil,DQ];rw [LS (by simp at hc⊢;omega)]
 |v::vs,k,c,hv,hc=>by
  have B:=hv v (Fo ..);have G:k*s+s<=c.size:=by rw [hc];simp only [EV];rw [show(k+(vs.length+1))*s=k*s+s+vs.length*s by rw [N0,N0];omega];omega
  simp only [FZ,Instr.fill];rw [As (by simp [B];omega)];have hz:=wC c.toList v.cells.toList 0 (k*s) c rfl (by simp [B];omega)
  have m:(v.cells.zipIdx.foldl (fun cs (x:A2×Nat)=>cs.setIfInBounds (k*s+x.2) x.1) c)=(c.toList.take (k*s)++v.cells.toList++c.toList.drop (k*s+s)).toArray:=by
   apply Array.ext';rw [<-qT,Array.toList_zipIdx];simpa [B]using hz
  have e:(v.cells.zipIdx.foldl (fun cs x=>match x with|(c,j)=>cs.setIfInBounds (k*s+j) c) c)=(c.toList.take (k*s)++v.cells.toList++c.toList.drop (k*s+s)).toArray:=m;rw [e,aB s vs (k+1) _ (fun x hx=>hv x (G3 _ hx)) (by
   simp only [Hb,C2,Cl,D0,V1,B];simp only [EV]at hc;rw [show k+1+vs.length=k+(vs.length+1) by omega,<-hc];omega)]
  congr 2;simp only [IH];rw [<-DG];congr 1;rw [N0,Nat.one_mul];rw [de (by simp [B];omega)];rw [LS (by simp [B];omega)]
theorem Ah{t e n s:Nat}{ps:Array (Nat×Operand)}{vs:List A2}{z:A2}{cs:List A2}(hu:P.underlying t=some (.slice e))(hs:∀w:A4,(Go.sizeOf e).run P w= .ok s w)(hz:∀w:A4,(zeroValue e).run P w= .ok z w)
 (hv:∀a,ps.toList.map (fun p=>(p.1,ev a env p.2))=FZ 0 vs)(W:Nat.ble (n*s) 16777216=true)(hn:Nat.blt 0 (n*s)=true)(Z:vs.length=n)(U:(vs.all fun v=>Nat.beq v.cells.size s)=true)(X:(vs.flatMap fun v=>v.cells.toList)=cs):
 OpW P u ⟨d,.buildSlice t n ps,ty,pos,af,g⟩ env H (fun v' H1=>∃b,v'=I2 b n n/\H1=[(b,.cells cs.toArray e (0,0))]::H) (fun _ _=>False):=fun a w B K Kp O _=>by
 have I:(ps.map fun(i,x)=>(i,ev a env x)).toList=FZ 0 vs:=by rw [<-hv a];simp
 have J:¬(16777216<n*s):=by have:=eS W;omega
 have h2:¬(n*s=0):=by have:0<n*s:=by simpa using hn
                      omega
 have m:Instr.fill (fun i=>some (i*s,s)) ((Array.range (n*s)).map (z.cells[·%z.cells.size]!)) (FZ 0 vs)=some cs.toArray:=by
  rw [aB s vs 0 _ (fun v hv=>pT (Pc.1 U v hv)) (by simp [Z])];simp [X]
 have G:(Instr.buildSlice t n (ps.map fun(i,x)=>(i,ev a env x))).run P w= .ok (.slice (some ⟨w.heap.size,0,none⟩) n n) {w with heap:=w.heap.push (.cells cs.toArray e)}:=by
  unfold Instr.buildSlice;simp only [Sem.run_bind,run_underlying hu,Result.andThen_ok,hs,I,Nat.reducePow,gt_iff_lt,J,h2,Hi,pure_bind,hz,Sem.run_pure,m];simp [newRow]
 have:(execOp (ev a env) ⟨d,.buildSlice t n ps,ty,pos,af,g⟩).run P w= .ok (.value (.slice (some ⟨w.heap.size,0,none⟩) n n)) {w with heap:=w.heap.push (.cells cs.toArray e)}:=by
  rw [Ny,Sem.run_bind,G];rfl
 rw [this];exact O _ _ _ ⟨_,V,V⟩ (B.alloc _)
theorem BM{t:AK}{ps:Array (Nat×Operand)}{vs:List (Nat×A2)}{cs:AM}(hv:∀a,ps.toList.map (fun p=>(p.1,ev a env p.2))=vs)(B:∀w:A4,(Instr.build t vs.toArray).run P w= .ok (.agg cs) w):
 OpP P ⟨d,.build t ps,ty,pos,af,g⟩ env [] (.agg cs):=fun a w _=>by
 have m:(ps.map fun(i,x)=>(i,ev a env x))=vs.toArray:=by rw [<-hv a];exact JB _ ps
 rw [wF,Sem.run_bind,m,B];rfl
theorem Aa{t:AK}{fs:Array Field}{z cs:AM}{pl:Array (Nat×Nat)}{vs:List (Nat×A2)}(hz:∀w:A4,(zeroValue t).run P w= .ok (.agg z) w)(I:P.underlying t=some (.struct fs))
 (G:∀w:A4,(fs.mapM (m:=Sem) fun f=>do pure (f.offset,<-Go.sizeOf f.type)).run P w= .ok pl w)(B:Instr.fill (pl[·]?) z vs=some cs)(w:A4):(Instr.build t vs.toArray).run P w= .ok (.agg cs) w:=by
 unfold Instr.build;simp only [Sem.run_bind,hz,Result.andThen_ok,run_underlying I,Value.cells,G,B];rfl
theorem Dt{t e n s:Nat}{z cs:AM}{vs:List (Nat×A2)}(hz:∀w:A4,(zeroValue t).run P w= .ok (.agg z) w)(G:P.underlying t=some (.array n e))
 (B:∀w:A4,(Go.sizeOf e).run P w= .ok s w)(m:Instr.fill (fun i=>some (i*s,s)) z vs=some cs)(w:A4):(Instr.build t vs.toArray).run P w= .ok (.agg cs) w:=by
 unfold Instr.build;simp only [Sem.run_bind,hz,Result.andThen_ok,run_underlying G,Value.cells,B,m];rfl
theorem Bg{fn:Fn}{ps qs:Array Operand}{vs us:List A2}(B:∀a,ps.toList.map (ev a env)=vs)(G:∀a,qs.toList.map (ev a env)=us):OpP P ⟨d,.makeFunc fn ps qs,ty,pos,af,g⟩ env [] (.func fn vs.toArray us.toArray):=fun a w _=>by
 have m:ps.map (ev a env)=vs.toArray:=by rw [<-B a];exact JB _ ps
 have h2:qs.map (ev a env)=us.toArray:=by rw [<-G a];exact JB _ qs
 simp [bB,Instr.makeFunc,m,h2]
theorem Pf(z:A2)(n:Nat):((Array.range n).map ((#[z]:AM)[·%(#[z]:AM).size]!))=(List.replicate n z).toArray:=by
 apply lO;· simp
 · intro i m h2
   simp [Nat.mod_one]
theorem Gd{t e l c by_:Nat}{x y:Operand}{z:A2}{i:TypeInfo}{k k':IntKind}(hu:P.underlying t=some (.slice e))(hi:P.info? e=some i)(hs:i.size=1)(U:i.bytes=by_)(J:i.zero=some z)(Z:z.oneCell'=true)
 (hx:∀a,ev a env x= .int k (l:Int))(hy:∀a,ev a env y= .int k' (c:Int))(ax:l<=c)(hc:c<=9223372036854775807)(hb:by_*c<=281474976710656):
 OpW P u ⟨d,.makeSlice t x y,ty,pos,af,g⟩ env H (fun v' H1=>∃b,v'=I2 b l c/\H1=[(b,.cells (List.replicate c z).toArray e (0,0))]::H) (fun _ _=>False):=fun a w I K Kp hK _=>by
 have m:z.cells=#[z]:=by cases z<;>first|rfl|simp [Value.oneCell']at Z
 have w1:IntKind.i64.wrap (l:Int)=(l:Int):=EE _ (by omega);have w2:IntKind.i64.wrap (c:Int)=(c:Int):=EE _ hc
 have O:¬((281474976710656:Int)<(by_:Int)*(c:Int)):=by
  rw [<-nw];omega
 have h3:¬((c:Int)<0):=by omega
 have h4:¬((l:Int)<0):=by omega
 have h5:¬((c:Int)<(l:Int)):=by omega
 have B:(if c=0 then(pure #[]:Sem (AM))else do pure (<-zeroValue e).cells).run P w= .ok (if c=0 then#[]else#[z]) w:=by
  by_cases h0:c=0
  · simp [h0]
  · simp [h0,zeroValue,typeInfo,hi,J,m]
 have W:(Instr.makeSlice t (ev a env x) (ev a env y)).run P w= .ok (.slice (some ⟨w.heap.size,0,none⟩) l c) {w with heap:=w.heap.push (.cells (List.replicate c z).toArray e)}:=by
  rw [hx a,hy a];unfold Instr.makeSlice;simp only [Sem.run_bind,run_underlying hu,Result.andThen_ok,asInt,asIntOf,Sem.run_pure,typeInfo,run_program,hi,U,w1,w2];simp only [h3,h4,h5,O,gt_iff_lt,Nat.reducePow,dd,gx,Of,Hi,Int.reducePow,Int.cast_ofNat_Int];simp only [Sem.run_bind,run_askRoom,Result.andThen_ok,Go.sizeOf,typeInfo,run_program,hi,Sem.run_pure,hs,Z2,P0,B];by_cases h0:c=0;· subst h0;simp [newRow,Array.range_zero']
  · have X:(zeroValue e).run P w= .ok z w:=by simp [zeroValue,typeInfo,hi,J]
    have G:(Array.range c).map (fun x=>(#[z]:AM)[x%(#[z]:AM).size]!)=(List.replicate c z).toArray:=Pf z c;simp only [h0,Hi,Sem.run_bind,X,Result.andThen_ok,m,Sem.run_pure,newRow,run_newObj,G]
 have:(execOp (ev a env) ⟨d,.makeSlice t x y,ty,pos,af,g⟩).run P w= .ok (.value (.slice (some ⟨w.heap.size,0,none⟩) l c)) {w with heap:=w.heap.push (.cells (List.replicate c z).toArray e)}:=by
  rw [QE,Sem.run_bind,W];rfl
 rw [this];exact hK _ _ _ ⟨_,V,V⟩ (I.alloc _)
end
def Ky(P:Program)(f:FuncId)(args:AM)(H:Hp)(Q:A2->Hp->Prop)(Pn:List PanicEntry->Hp->Prop):Prop:=
 ∀(u:A4) (R:Hp) (w:A4),Sat u (H++R) w->Calls P f args w fun e w'=>(∃v H',e= .returned v/\Q v H'/\Sat u (H'++R) w')\/(∃ch H',e= .panicked ch/\Pn ch H'/\Sat u (H'++R) w')
def BQ(P:Program)(f:FuncId)(args:AM)(H:Hp)(Q:A2->Hp->Prop):Prop:=Ky P f args H Q (fun _ _=>False)
def Az(P:Program)(f:FuncId)(args:AM)(H:Hp)(v:A2):Prop:=BQ P f args H (fun v' H'=>v'=v/\H'=H)
theorem Ky.mono{P:Program}{f:FuncId}{args:AM}{H:Hp}{Q I:A2->Hp->Prop}{Pn m:List PanicEntry->Hp->Prop}(h:Ky P f args H Q Pn)(O:∀v H',Q v H'->I v H')(K:∀ch H',Pn ch H'->m ch H'):Ky P f args H I m:=fun u R w U=>
 Calls.mono (h u R w U) fun e W J=>by
  rcases J with⟨v,H',B,h2,G⟩|⟨ch,H',B,h2,G⟩
  · exact .inl ⟨v,H',B,O _ _ h2,G⟩
  · exact .inr ⟨ch,H',B,K _ _ h2,G⟩
theorem BQ.mono{P:Program}{f:FuncId}{args:AM}{H:Hp}{Q m:A2->Hp->Prop}(h:BQ P f args H Q)(B:∀v H',Q v H'->m v H'):BQ P f args H m:=Ky.mono h B (fun _ _ h=>h)
theorem Rc{P:Program}{f:FuncId}{args:AM}{H:Hp}{Q:A2->Hp->Prop}{Rl:A2->Prop}(h:∀w:A4,(∀p∈H.flatten,w.heap[p.1]?=some p.2)->Calls P f args w fun e B=>∃v,e= .returned v/\Rl v/\Below w.heap.size w B)(O:∀v,Rl v->Q v H):BQ P f args H Q:=fun u R w m=>
 Calls.mono (h w fun p K=>m.get p (by simp only [HR,CI];exact .inl K)) fun e B J=>by
  obtain ⟨v,G,h2,I⟩:=J;exact .inl ⟨v,H,G,O v h2,m.below I⟩
section
variable{P:Program}{u:A4}{env:Env}{H R:Hp}{d:Option Nat}{ty:AK}{pos:String}{af:Array Edge}{g:Option (Nat×Bool)}
theorem gX{f:FuncId}{args:AM}{J:Hp}{Q:A2->Hp->Prop}{Pn:List PanicEntry->Hp->Prop}(I:Ky P f args J Q Pn)(X:Ey J H R){w:A4}(Z:Sat u H w){K:A2->A4->Prop}{O:List PanicEntry->A4->Prop}
 (U:∀v H' m,(∃H1,Q v H1/\H'=H1++R)->Sat u H' m->K v m)(G:∀ch H' m,(∃H1,Pn ch H1/\H'=H1++R)->Sat u H' m->O ch m):Ui P K O (.ok (.enter f args) w):=
 Calls.mono (I u R w (Z.perm X.perm)) fun e m W=>by
  rcases W with⟨v,H',rfl,h2,B⟩|⟨ch,H',rfl,h2,B⟩
  · exact U v _ m ⟨H',h2,rfl⟩ B
  · exact G ch _ m ⟨H',h2,rfl⟩ B
theorem bH{I:Operand}{B:Array Operand}{G:Array AK}{f:FuncId}{first m args:AM}{vs:List A2}{U:Hp}{Q:A2->Hp->Prop}{Pn:List PanicEntry->Hp->Prop}
 (hf:∀a,ev a env I= .func (.func f) first m)(hc:∀(args:AM) (w:A4),(callFunc f args).run P w= .ok (.enter f args) w)(ha:∀a,B.toList.map (ev a env)=vs)(X:(first.toList++vs++m.toList).toArray=args)
 (O:Ky P f args U Q Pn)(hp:Ey U H R):
 OpW P u ⟨d,.call ⟨.value I,B,G⟩,ty,pos,af,g⟩ env H (fun v H'=>∃H1,Q v H1/\H'=H1++R) (fun ch H'=>∃H1,Pn ch H1/\H'=H1++R):=fun a w hs K Kp Z J=>by
 have W:B.map (ev a env)=vs.toArray:=by rw [<-ha a];exact JB _ B
 have:(execOp (ev a env) ⟨d,.call ⟨.value I,B,G⟩,ty,pos,af,g⟩).run P w= .ok (.enter f args) w:=by
  simp [E8,resolve,hf a,Deferred.ofValue,invoke,W,hc,<-X]
 rw [this];exact gX O hp hs Z J
end
section
variable{P:Program}{ops:Array Oper}{l:List Oper}{cx:Cx}{Qe:Exit->Act->A4->Prop}{env:Env}{H R:Hp}{d:Option Nat}{ty:AK}{pos:String}{af:Array Edge}{g:Option (Nat×Bool)}
theorem xL{m:Op}{B:A2->Hp->Prop}(h:OpW P cx.u ⟨d,m,ty,pos,af,g⟩ env H B (fun _ _=>False))(I:∀a,wantedE ops a env g=true)(hn:E5 m=true)(G:fits cx.N d=true)
 (k:∀v H',B v H'->Ops P ops l cx Qe (putE d v env) H'):Ops P ops (⟨d,m,ty,pos,af,g⟩::l) cx Qe env H:=
 JY I (R9 G) hn h k (fun _ _ h=>h.elim)
theorem WP{u:A4}{O:Operand}{J:Array Operand}{B:Array AK}{f:FuncId}{first m args:AM}{vs:List A2}{I:Hp}{v:A2}
 (hf:∀a,ev a env O= .func (.func f) first m)(hc:∀(args:AM) (w:A4),(callFunc f args).run P w= .ok (.enter f args) w)(ha:∀a,J.toList.map (ev a env)=vs)(Z:(first.toList++vs++m.toList).toArray=args)
 (G:Az P f args I v)(U:Ey I H R):
 OpW P u ⟨d,.call ⟨.value O,J,B⟩,ty,pos,af,g⟩ env H (fun W H'=>W=v/\H'=H) (fun _ _=>False):=fun a w hs K X hK ax=>
 bH hf hc ha Z G U a w hs K X (by rintro W _ w' ⟨H1,⟨rfl,rfl⟩,rfl⟩ h;exact hK _ _ w' ⟨rfl,rfl⟩ (h.perm U.perm.symm)) (by rintro _ _ _ ⟨_,h,_⟩;exact h.elim)
end
theorem Bz{R:Hp}{A:List PanicEntry->Hp->Prop}:∀ch H',(∃H1,(fun(_:List PanicEntry) (_:Hp)=>False) ch H1/\H'=H1++R)->A ch H':=by rintro _ _ ⟨_,h,_⟩;exact h.elim
def GV(u:A4)(R:Hp)(Q:A2->Hp->Prop)(Pn:List PanicEntry->Hp->Prop)(e:Ending)(w':A4):Prop:=
 (∃v H',e= .returned v/\Q v H'/\Sat u (H'++R) w')\/(∃ch H',e= .panicked ch/\Pn ch H'/\Sat u (H'++R) w')
theorem FK:∀(l:List A2) (i:Nat) (p:Nat×A2),p∈FZ i l->i<=p.1/\l[p.1 -i]?=some p.2
 |[],_,_,h=>by cases h
 |v::l,i,p,h=>by
  simp only [FZ,Dg]at h;rcases h with rfl|h
  · simp
  · obtain ⟨m,h2⟩:=FK l (i+1) p h
    refine ⟨by omega,?_⟩;rw [show p.1 -i=(p.1 -(i+1))+1 by omega,dj];exact h2
theorem Jz{a:Act}:∀(sl:Env),(∀p∈sl,a.tmps[p.1]?=some p.2)->C9 sl a=a
 |[],_=>rfl
 |(d,v)::sl,h=>by
  simp only [C9];rw [Jz sl fun p G=>h p (G3 _ G)];have B:=h (d,v) (Fo ..)
  refine Iw (by rw [EJ]) (by rw [JU]) fun t m=>?_;rw [EJ]at m;rw [Im _ _ _ _ m];split;· rename_i e;cases e;exact B.symm
  · rfl
theorem KS{P:Program}{f:FuncId}{fn:Func}{c:Code}{args:AM}{N:Nat}{H:Hp}{Q:A2->Hp->Prop}{Pn:List PanicEntry->Hp->Prop}(U:P.funcs[f]?=some fn)(O:fn.body=some c)(K:fn.ntmps=N)(W:Nat.ble args.size N=true)
 (h:∀u R,At P ⟨N,[],u,none⟩ c (bodyPost P fn (GV u R Q Pn)) (FZ 0 args.toList) (H++R)):Ky P f args H Q Pn:=fun u R w B=>by
 have G:args.size<=N:=eS W;refine calls_of_wp U O ?_;refine (wpIn_wide (n:=0)).1 ?_;have m:C9 (FZ 0 args.toList) {tmps:=args++Array.replicate (fn.ntmps -args.size) undef,defers:=[]}={tmps:=args++Array.replicate (fn.ntmps -args.size) undef,defers:=[]}:=by
  refine Jz _ fun p J=>?_;obtain ⟨_,h2⟩:=FK _ _ _ J;simp only [W0,Hs]at h2;have I:p.1<args.size:=by
   rcases Ft p.1 args.size with h|h
   · exact h
   · simp [LR h]at h2
  rw [ft I];exact h2
 rw [<-m];refine h u R _ w ⟨by simp [K];omega,V,fun p J=>?_,B⟩;obtain ⟨_,h2⟩:=FK _ _ _ J;simp only [W0,Hs]at h2;rcases Ft p.1 args.size with h|h
 · exact nh h G
 · simp [LR h]at h2
section
variable{P:Program}{N:Nat}{u:A4}{r:Option Nat}{fn:Func}{R H H':Hp}{Q:A2->Hp->Prop}{Pn:List PanicEntry->Hp->Prop}{env:Env}{e:Exit}
theorem QL{t:Nat}(m:fn.results=#[.tmp t])(w:A4)(tmps:AM):(results fn tmps).run P w= .ok (tmps.getD t undef) w:=by simp [results,m]
theorem OT(m:fn.results=#[])(w:A4)(tmps:AM):(results fn tmps).run P w= .ok (.tuple #[]) w:=by simp [results,m]
theorem QK{t s:Nat}(m:fn.results=#[.tmp t,.tmp s])(w:A4)(tmps:AM):(results fn tmps).run P w= .ok (.tuple #[tmps.getD t undef,tmps.getD s undef]) w:=by simp [results,m]
theorem UC{t s q:Nat}(m:fn.results=#[.tmp t,.tmp s,.tmp q])(w:A4)(tmps:AM):(results fn tmps).run P w= .ok (.tuple #[tmps.getD t undef,tmps.getD s undef,tmps.getD q undef]) w:=by simp [results,m]
def Fa:Exit->Bool
 | .normal| .ret=>true
 |_=>false
theorem Li{v:A2}(I:Fa e=true)(O:∀a w,St ⟨N,[],u,r⟩ env H a w->(results fn (C9 env a).tmps).run P w= .ok v w)(K:Q v H')(J:Sub (H'++R) H:=by repeat(first|exact Sub.refl _|exact Sub.nil _|(apply Sub.cons;(focus (repeat(first|exact One.here _ _|apply One.there))))|refine Sub.drop _ ?_)):Nx ⟨N,[],u,r⟩ (bodyPost P fn (GV u R Q Pn) e) env H:=fun a w m=>by
 have B:(C9 env a).defers=[]:=by rw [Fh];exact m.defers
 have h2:=O a w m;have G:GV u R Q Pn (.returned v) w:= .inl ⟨v,H',rfl,K,m.sat.sub J.amid⟩
 cases e<;>first|exact ⟨B,v,h2,G⟩|simp [Fa]at I
theorem AX{t:Nat}{v:A2}(B:Fa e=true)(J:fn.results=#[.tmp t])(hv:∀a,GA a env t=v)(I:Q v H')(G:Sub (H'++R) H:=by repeat(first|exact Sub.refl _|exact Sub.nil _|(apply Sub.cons;(focus (repeat(first|exact One.here _ _|apply One.there))))|refine Sub.drop _ ?_)):Nx ⟨N,[],u,r⟩ (bodyPost P fn (GV u R Q Pn) e) env H:=
 Li B (fun a w m=>by rw [QL J,Ca a env (by rw [m.size];exact m.fit),hv a]) I G
theorem D6(m:Fa e=true)(I:fn.results=#[])(G:Q (.tuple #[]) H')(B:Sub (H'++R) H:=by repeat(first|exact Sub.refl _|exact Sub.nil _|(apply Sub.cons;(focus (repeat(first|exact One.here _ _|apply One.there))))|refine Sub.drop _ ?_)):Nx ⟨N,[],u,r⟩ (bodyPost P fn (GV u R Q Pn) e) env H:=
 Li m (fun a w J=>OT I w _) G B
theorem Di{t s:Nat}{v x:A2}(B:Fa e=true)(J:fn.results=#[.tmp t,.tmp s])(hv:∀a,GA a env t=v)(hx:∀a,GA a env s=x)(I:Q (.tuple #[v,x]) H')(G:Sub (H'++R) H:=by repeat(first|exact Sub.refl _|exact Sub.nil _|(apply Sub.cons;(focus (repeat(first|exact One.here _ _|apply One.there))))|refine Sub.drop _ ?_)):Nx ⟨N,[],u,r⟩ (bodyPost P fn (GV u R Q Pn) e) env H:=
 Li B (fun a w m=>by rw [QK J,Ca a env (by rw [m.size];exact m.fit),Ca a env (by rw [m.size];exact m.fit),hv a,hx a]) I G
theorem X6{t s q:Nat}{v x y:A2}(B:Fa e=true)(J:fn.results=#[.tmp t,.tmp s,.tmp q])(hv:∀a,GA a env t=v)(hx:∀a,GA a env s=x)(hy:∀a,GA a env q=y)(I:Q (.tuple #[v,x,y]) H')(G:Sub (H'++R) H:=by repeat(first|exact Sub.refl _|exact Sub.nil _|(apply Sub.cons;(focus (repeat(first|exact One.here _ _|apply One.there))))|refine Sub.drop _ ?_)):Nx ⟨N,[],u,r⟩ (bodyPost P fn (GV u R Q Pn) e) env H:=
 Li B (fun a w m=>by rw [UC J,Ca a env (by rw [m.size];exact m.fit),Ca a env (by rw [m.size];exact m.fit),Ca a env (by rw [m.size];exact m.fit),hv a,hx a,hy a]) I G
theorem Wt{t ty b i:Nat}{v:A2}(B:fn.results=#[.cell t ty]){w:A4}{tmps:AM}(hx:tmps.getD t undef= .pointer (some ⟨b,i,none⟩))(m:(loadVar ty ⟨b,i,none⟩).run P w= .ok v w):(results fn tmps).run P w= .ok v w:=by
 rw [NX]at hx;simp [results,B,hx,asAddr,m]
theorem UD{t ty b i s m c j:Nat}{v x:A2}(I:fn.results=#[.cell t ty,.cell s m]){w:A4}{tmps:AM}(hx:tmps.getD t undef= .pointer (some ⟨b,i,none⟩))(B:(loadVar ty ⟨b,i,none⟩).run P w= .ok v w)
 (hy:tmps.getD s undef= .pointer (some ⟨c,j,none⟩))(G:(loadVar m ⟨c,j,none⟩).run P w= .ok x w):(results fn tmps).run P w= .ok (.tuple #[v,x]) w:=by
 rw [NX]at hx hy;simp [results,I,hx,hy,asAddr,B,G]
theorem Av{t b i n:Nat}{c:AM}{T:AK}{z:Nat×Nat}{cs:AM}(ha:∀w:A4,(isAgg t).run P w= .ok true w)(hs:∀w:A4,(Go.sizeOf t).run P w= .ok n w)(hn:i+n<=c.size)(hv:c.extract i (i+n)=cs)(w:A4)(hb:w.heap[b]?=some (.cells c T z)):(loadVar t ⟨b,i,none⟩).run P w= .ok (.agg cs) w:=by
 have:=AA (P:=P) (env:=[]) (d:=none) (ty:=0) (pos:= "") (af:=#[]) (g:=none) (x:= .const (.pointer (some ⟨b,i,none⟩))) (T:=T) (z:=z) ha hs (fun _=>rfl) hn hv ⟨#[],[]⟩ w (by simpa using hb);rw [bC]at this;simp only [Sem.run_bind,ev,Instr.loadAt,Instr.sureAddr,Sem.run_pure,Result.andThen_ok]at this;cases hr:(loadVar t ⟨b,i,none⟩).run P w with
 |ok v w'=>rw [hr]at this;simp only [Result.andThen_ok]at this;cases this;rfl
 |halt h w'=>rw [hr]at this;simp only [Result.andThen_halt]at this;cases this
theorem Yt{t b i:Nat}{c:AM}{T:AK}{z:Nat×Nat}{v:A2}(m:∀w:A4,(isAgg t).run P w= .ok false w)(hv:c[i]?=some v)(w:A4)(B:w.heap[b]?=some (.cells c T z)):(loadVar t ⟨b,i,none⟩).run P w= .ok v w:=by
 simp [loadVar,m,Cn B hv]
theorem Cv{t ty b i:Nat}{v:A2}{o:Obj}(G:Fa e=true)(O:fn.results=#[.cell t ty])(hv:∀a,GA a env t= .pointer (some ⟨b,i,none⟩))(B:Has b o H)(I:∀w:A4,w.heap[b]?=some o->(loadVar ty ⟨b,i,none⟩).run P w= .ok v w)(K:Q v H')(J:Sub (H'++R) H:=by repeat(first|exact Sub.refl _|exact Sub.nil _|(apply Sub.cons;(focus (repeat(first|exact One.here _ _|apply One.there))))|refine Sub.drop _ ?_)):Nx ⟨N,[],u,r⟩ (bodyPost P fn (GV u R Q Pn) e) env H:=
 Li G (fun a w m=>Wt O (by rw [Ca a env (by rw [m.size];exact m.fit),hv a]) (I w (m.sat.get _ B.mem))) K J
end
end Gw
