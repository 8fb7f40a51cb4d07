/- SHA-256 over lists of bytes, in words of 32 bits. No function of the program is named. -/
namespace Gw
def qE(x n:UInt32):UInt32:=(x<<<(32 -n))|||(x>>>n)
def Ec:List UInt32:=[
 0x428a2f98,0x71374491,0xb5c0fbcf,0xe9b5dba5,0x3956c25b,0x59f111f1,0x923f82a4,0xab1c5ed5,
 0xd807aa98,0x12835b01,0x243185be,0x550c7dc3,0x72be5d74,0x80deb1fe,0x9bdc06a7,0xc19bf174,
 0xe49b69c1,0xefbe4786,0x0fc19dc6,0x240ca1cc,0x2de92c6f,0x4a7484aa,0x5cb0a9dc,0x76f988da,
 0x983e5152,0xa831c66d,0xb00327c8,0xbf597fc7,0xc6e00bf3,0xd5a79147,0x06ca6351,0x14292967,
 0x27b70a85,0x2e1b2138,0x4d2c6dfc,0x53380d13,0x650a7354,0x766a0abb,0x81c2c92e,0x92722c85,
 0xa2bfe8a1,0xa81a664b,0xc24b8b70,0xc76c51a3,0xd192e819,0xd6990624,0xf40e3585,0x106aa070,
 0x19a4c116,0x1e376c08,0x2748774c,0x34b0bcb5,0x391c0cb3,0x4ed8aa4a,0x5b9cca4f,0x682e6ff3,
 0x748f82ee,0x78a5636f,0x84c87814,0x8cc70208,0x90befffa,0xa4506ceb,0xbef9a3f7,0xc67178f2]
theorem tT:Ec.length=64:=rfl
def X9(x:UInt32)(l:List UInt32):UInt32:=l.foldl (fun a n=>a^^^qE x n) 0
def ze(a b c d:UInt8):UInt32:=a.toUInt32<<<24|||b.toUInt32<<<16|||c.toUInt32<<<8|||d.toUInt32
def bE(b:List UInt8)(i:Nat):UInt32:=ze (b.getD (4*i) 0) (b.getD (4*i+1) 0) (b.getD (4*i+2) 0) (b.getD (4*i+3) 0)
def rz(w:List UInt32)(i:Nat):UInt32:=
 w.getD (i -16) 0+(X9 (w.getD (i -15) 0) [7,18]^^^(w.getD (i -15) 0)>>>3)+w.getD (i -7) 0+(X9 (w.getD (i -2) 0) [17,19]^^^(w.getD (i -2) 0)>>>10)
def GI(b:List UInt8):Nat->List UInt32
 |0=>[]
 |n+1=>GI b n++[if n<16 then bE b n else rz (GI b n) n]
theorem Co(b:List UInt8):∀n,(GI b n).length=n
 |0=>rfl
 |n+1=>by simp [GI,Co b n]
def iR(b:List UInt8):List UInt32:=GI b 64
structure V8 where
 (a b c d e f g h:UInt32)
def V8.list(v:V8):List UInt32:=[v.a,v.b,v.c,v.d,v.e,v.f,v.g,v.h]
def DX(v:V8)(k w:UInt32):UInt32:=v.h+X9 v.e [6,11,25]+(v.e&&&v.f^^^~~~v.e&&&v.g)+k+w
def z8(v:V8):UInt32:=X9 v.a [2,13,22]+(v.a&&&v.b^^^v.a&&&v.c^^^v.b&&&v.c)
def wx(v:V8)(k w:UInt32):V8:=⟨DX v k w+z8 v,v.a,v.b,v.c,v.d+DX v k w,v.e,v.f,v.g⟩
def LY(w:List UInt32)(v:V8):Nat->V8
 |0=>v
 |n+1=>wx (LY w v n) (Ec.getD n 0) (w.getD n 0)
def yg(x y:V8):V8:=⟨x.a+y.a,x.b+y.b,x.c+y.c,x.d+y.d,x.e+y.e,x.f+y.f,x.g+y.g,x.h+y.h⟩
def XZ(h:V8)(b:List UInt8):V8:=yg h (LY (iR b) h 64)
def h0:V8:=⟨0x6a09e667,0xbb67ae85,0x3c6ef372,0xa54ff53a,0x510e527f,0x9b05688c,0x1f83d9ab,0x5be0cd19⟩
def Kz(n:Nat):Nat:=(119 -n%64)%64
def Qq(n:Nat):List UInt8:=(List.range 8).map fun i=>UInt8.ofNat (8*n/2^(8*(7 -i)))
def Gt(s:List UInt8):List UInt8:=s++[128]++List.replicate (Kz s.length) 0++Qq s.length
def JE:Nat->V8->List UInt8->V8
 |0,h,_=>h
 |n+1,h,b=>JE n (XZ h (b.take 64)) (b.drop 64)
def Ob(x:UInt32):List UInt8:=[(x>>>24).toUInt8,(x>>>16).toUInt8,(x>>>8).toUInt8,x.toUInt8]
def rR(v:V8):List UInt8:=v.list.flatMap Ob
def sha(s:List UInt8):List UInt8:=rR (JE ((Gt s).length/64) h0 (Gt s))
theorem WX(s:List UInt8):(sha s).length=32:=by simp [sha,rR,V8.list,Ob]
theorem iH(n:Nat):(n+1+Kz n)%64=56:=by unfold Kz;omega
theorem Sa(s:List UInt8):(Gt s).length=s.length+9+Kz s.length:=by simp [Gt,Qq];omega
theorem dw(s:List UInt8):(Gt s).length%64=0:=by rw [Sa];have:=iH s.length;omega
end Gw
