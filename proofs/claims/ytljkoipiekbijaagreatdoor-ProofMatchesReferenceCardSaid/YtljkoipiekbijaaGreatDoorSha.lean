/- SHA-256 over lists of bytes, in words of 32 bits. No function of the program is named. -/
namespace Gw
def JM(x n:UInt32):UInt32:=(x<<<(32 -n))|||(x>>>n)
def Dj:List UInt32:=[
 0x428a2f98,0x71374491,0xb5c0fbcf,0xe9b5dba5,0x3956c25b,0x59f111f1,0x923f82a4,0xab1c5ed5,
 0xd807aa98,0x12835b01,0x243185be,0x550c7dc3,0x72be5d74,0x80deb1fe,0x9bdc06a7,0xc19bf174,
 0xe49b69c1,0xefbe4786,0x0fc19dc6,0x240ca1cc,0x2de92c6f,0x4a7484aa,0x5cb0a9dc,0x76f988da,
 0x983e5152,0xa831c66d,0xb00327c8,0xbf597fc7,0xc6e00bf3,0xd5a79147,0x06ca6351,0x14292967,
 0x27b70a85,0x2e1b2138,0x4d2c6dfc,0x53380d13,0x650a7354,0x766a0abb,0x81c2c92e,0x92722c85,
 0xa2bfe8a1,0xa81a664b,0xc24b8b70,0xc76c51a3,0xd192e819,0xd6990624,0xf40e3585,0x106aa070,
 0x19a4c116,0x1e376c08,0x2748774c,0x34b0bcb5,0x391c0cb3,0x4ed8aa4a,0x5b9cca4f,0x682e6ff3,
 0x748f82ee,0x78a5636f,0x84c87814,0x8cc70208,0x90befffa,0xa4506ceb,0xbef9a3f7,0xc67178f2]
theorem ZB:Dj.length=64:=rfl
def QR(x:UInt32)(l:List UInt32):UInt32:=l.foldl (fun a n=>a^^^JM x n) 0
def rm(a b c d:UInt8):UInt32:=a.toUInt32<<<24|||b.toUInt32<<<16|||c.toUInt32<<<8|||d.toUInt32
def av(b:List UInt8)(i:Nat):UInt32:=rm (b.getD (4*i) 0) (b.getD (4*i+1) 0) (b.getD (4*i+2) 0) (b.getD (4*i+3) 0)
def Yv(w:List UInt32)(i:Nat):UInt32:=
 w.getD (i -16) 0+(QR (w.getD (i -15) 0) [7,18]^^^(w.getD (i -15) 0)>>>3)+w.getD (i -7) 0+(QR (w.getD (i -2) 0) [17,19]^^^(w.getD (i -2) 0)>>>10)
def EO(b:List UInt8):Nat->List UInt32
 |0=>[]
 |n+1=>EO b n++[if n<16 then av b n else Yv (EO b n) n]
theorem Bc(b:List UInt8):∀n,(EO b n).length=n
 |0=>rfl
 |n+1=>by simp [EO,Bc b n]
def E9(b:List UInt8):List UInt32:=EO b 64
structure V8 where
 (a b c d e f g h:UInt32)
def V8.list(v:V8):List UInt32:=[v.a,v.b,v.c,v.d,v.e,v.f,v.g,v.h]
def Ch(v:V8)(k w:UInt32):UInt32:=v.h+QR v.e [6,11,25]+(v.e&&&v.f^^^~~~v.e&&&v.g)+k+w
def nR(v:V8):UInt32:=QR v.a [2,13,22]+(v.a&&&v.b^^^v.a&&&v.c^^^v.b&&&v.c)
def nS(v:V8)(k w:UInt32):V8:=⟨Ch v k w+nR v,v.a,v.b,v.c,v.d+Ch v k w,v.e,v.f,v.g⟩
def Cu(w:List UInt32)(v:V8):Nat->V8
 |0=>v
 |n+1=>nS (Cu w v n) (Dj.getD n 0) (w.getD n 0)
def tJ(x y:V8):V8:=⟨x.a+y.a,x.b+y.b,x.c+y.c,x.d+y.d,x.e+y.e,x.f+y.f,x.g+y.g,x.h+y.h⟩
def M5(h:V8)(b:List UInt8):V8:=tJ h (Cu (E9 b) h 64)
def h0:V8:=⟨0x6a09e667,0xbb67ae85,0x3c6ef372,0xa54ff53a,0x510e527f,0x9b05688c,0x1f83d9ab,0x5be0cd19⟩
def JU(n:Nat):Nat:=(119 -n%64)%64
def RI(n:Nat):List UInt8:=(List.range 8).map fun i=>UInt8.ofNat (8*n/2^(8*(7 -i)))
def Ed(s:List UInt8):List UInt8:=s++[128]++List.replicate (JU s.length) 0++RI s.length
def Ga:Nat->V8->List UInt8->V8
 |0,h,_=>h
 |n+1,h,b=>Ga n (M5 h (b.take 64)) (b.drop 64)
def KW(x:UInt32):List UInt8:=[(x>>>24).toUInt8,(x>>>16).toUInt8,(x>>>8).toUInt8,x.toUInt8]
def pK(v:V8):List UInt8:=v.list.flatMap KW
def sha(s:List UInt8):List UInt8:=pK (Ga ((Ed s).length/64) h0 (Ed s))
theorem JY(s:List UInt8):(sha s).length=32:=by simp [sha,pK,V8.list,KW]
theorem gD(n:Nat):(n+1+JU n)%64=56:=by unfold JU;omega
theorem O7(s:List UInt8):(Ed s).length=s.length+9+JU s.length:=by simp [Ed,RI];omega
theorem Su(s:List UInt8):(Ed s).length%64=0:=by rw [O7];have:=gD s.length;omega
end Gw
