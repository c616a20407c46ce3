/- P. Its conditions: none. -/
import Derived.Test.YtbccffnofdnpoaaGreatAG22
import Derived.Test.YtbccffnofdnpoaaGreatAG23
import Derived.Test.YtbccffnofdnpoaaGreatAG24
import Derived.Test.YtbccffnofdnpoaaGreatAX16
import Derived.Test.YtbccffnofdnpoaaGreatAX17
import Derived.Test.YtbccffnofdnpoaaGreatAG29
import Derived.Test.YtbccffnofdnpoaaGreatAJn
import Derived.Test.YtbccffnofdnpoaaGreatAG28
import Derived.Test.YtbccffnofdnpoaaGreatAX18
import Derived.Test.YtbccffnofdnpoaaGreatAG32
import Derived.Test.YtbccffnofdnpoaaGreatAVMap
import Derived.ProofKit
import Derived.SizedLaws
import Derived.Carry
import Derived.OpenShut
set_option linter.all false
set_option maxRecDepth 100000
namespace Go.Proofs.YtbccffnofdnpoaaGreat
open Go.V Go.RowKit Go.X
def U0:∀c∈([]:List (Sm en.D)),N0 en c:=fun _ h=>absurd h List.not_mem_nil
def I0 {c:Sm en.D}{r:List (Sm en.D)}(h:N0 en c)(a:∀c∈r,N0 en c):∀d∈c :: r,N0 en d:=List.forall_mem_cons.2 ⟨h,a⟩
def V0 {C:P3 en}{c:Sm en.D}(hm:∀x,T0 en C c.f c.ins c.res c.back x=c.m x)(hs:∀d∈C.sm,N0 en d):N0 en c:=h0U b0j (C:=C) (i0i b0j hs) fun x y h=>(hm x).trans h
def D0n (F:Nat):N0 en (o01 F):=V0 (K0k F) U0
def N0s (F:Nat):N0 en (p0j F):=V0 (E0m F) U0
def C0z (F:Nat):N0 en (o0I F):=V0 (E0M F) (I0 (N0s F) U0)
def I0U (F:Nat):N0 en (r0D F):=V0 (O0n F) (I0 (C0z F) U0)
def M0y (F:Nat):N0 en (q0N F):=V0 (C0S F) U0
def B0h (F:Nat):N0 en (s01 F):=V0 (D0O F) U0
def B0T (F:Nat):N0 en (s0N F):=V0 (F0e F) U0
def r0U (F:Nat):N0 en (h0w F):=V0 (A01 F) (I0 (M0y F) (I0 (B0h F) (I0 (B0T F) U0)))
def b0Q (F:Nat):N0 en (a03 F):=V0 (H03 F) (I0 (r0U F) U0)
def y0q (F:Nat):N0 en (l0z F):=V0 (A0W F) (I0 (r0U F) U0)
def G0E (F:Nat):N0 en (o0V F):=V0 (C08 F) (I0 (y0q F) U0)
def m0q (F:Nat):N0 en (g0M F):=V0 (K0d F) (I0 (b0Q F) (I0 (G0E F) U0))
def q0w (F:Nat):N0 en (j0V F):=V0 (N0N F) (I0 (b0Q F) U0)
def v0B (F:Nat):∀n,N0 en (m0Y F n)
 |0=>fun w S us pl x y h=>by cases h
 |n+1=>V0 (K0m F n) (I0 (v0B F n) U0)
def t0r (F:Nat):N0 en (k0u F):=V0 (D0L F) (I0 (q0w F) (I0 (v0B F F) U0))
def g0W (F:Nat):N0 en (d0X F):=V0 (H0n F) (I0 (b0Q F) U0)
def o0Z (F:Nat):N0 en (h0y F):=V0 (E0B F) (I0 (b0Q F) U0)
def y0w (F:Nat):N0 en (l07 F):=V0 (A0v F) (I0 (o0Z F) U0)
def G0O (F:Nat):N0 en (q0q F):=V0 (C0a F) (I0 (b0Q F) (I0 (g0W F) U0))
def t06 (F:Nat):N0 en (m00 F):=V0 (G04 F) (I0 (b0Q F) (I0 (q0w F) (I0 (o0Z F) (I0 (y0w F) (I0 (G0O F) U0)))))
def y0y (F:Nat):N0 en (l0W F):=V0 (D0N F) (I0 (g0W F) (I0 (t06 F) U0))
def x0U (F:Nat):N0 en (k0H F):=V0 (J0j F) U0
def r01 (F:Nat):∀n,N0 en (h0X F n)
 |0=>fun w S us pl x y h=>by cases h
 |n+1=>V0 (O0E F n) (I0 (t0r F) (I0 (x0U F) (I0 (r01 F n) U0)))
def C01 (F:Nat):N0 en (s0R F):=V0 (N05 F) (I0 (r01 F F) U0)
def v0f (F:Nat):N0 en (o0h F):=V0 (G0e F) (I0 (t0r F) (I0 (C01 F) (I0 (x0U F) U0)))
def o0M (F:Nat):N0 en (j03 F):=V0 (K0P F) (I0 (t0r F) (I0 (y0y F) (I0 (v0f F) U0)))
def N0U (F:Nat):N0 en (s0O F):=V0 (N0y F) (I0 (y0q F) U0)
def l0l (F:Nat):N0 en (g0A F):=V0 (H04 F) (I0 (b0Q F) (I0 (N0U F) U0))
def E0Y (F:Nat):N0 en (x0I F):=h0U b0j (C:=y0M F) (i0i b0j (fun _ h=>absurd h List.not_mem_nil)) fun(x:List D0) y h=>(show T0 en (y0M F) 118 [.d (.list (.st 0))] (.own 116 (.st 0)) [] x=(if List.isEmpty (α:=D0) x then same (some []) (if J0 64 ([]:List D0) x then some ([]++x)else none)else if J0 64 ([]:List D0) x then some ([]++x)else none) from Y').trans (m01 h)
def M0L (F:Nat):N0 en (r0y F):=V0 (B0t F) (I0 (l0l F) U0)
def v0v (F:Nat):N0 en (l0h F):=V0 (L04 F) U0
def v0C (F:Nat):N0 en (l0T F):=V0 (N0W F) (I0 (t06 F) (I0 (v0v F) (I0 (r01 F F) U0)))
def G0Z (F:Nat):N0 en (t0W F):=B05 (E:=en) (i:=15) (key:=fun x:B0=>x.To) Go.Proofs.Tryz.K0H rfl Go.Proofs.Tryz.I0N Go.Proofs.Tryz.L0d Go.Proofs.Tryz.N0c Go.Proofs.Tryz.E0k (fun H S cs x h=>by
 obtain⟨c1,c2,rfl,h1,c3,c4,rfl,a,c5,b,rfl,⟨A,c,rfl,_⟩,rfl⟩:=(r0J 15 _ _ _ _).1 h;have h1:c1=[_]:=h1;have a:c3=[_]:=a;subst h1;subst a;exact⟨_,_,rfl⟩) Y'
def u05 (F:Nat):N0 en (l0J F):=V0 (M0j F) (I0 (y0y F) (I0 (v0f F) (I0 (v0v F) (I0 (G0Z F) U0))))
def E0I (F:Nat):N0 en (s0n F):=V0 (L03 F) (I0 (m0q F) (I0 (o0M F) (I0 (l0l F) (I0 (g0W F) (I0 (E0Y F) (I0 (M0L F) (I0 (v0C F) (I0 (u05 F) U0))))))))
def G0J (F:Nat):N0 en (t0F F):=V0 (D0i F) (I0 (b0Q F) (I0 (E0I F) U0))
def k0E (F:Nat):N0 en (f0t F):=h0U b0j (C:=w0R F) (i0i b0j (fun _ h=>absurd h List.not_mem_nil)) fun(x:List Int) y h=>(show T0 en (w0R F) 27 [.d (.list (.int .i64))] (.own 3 (.int .i64)) [] x=(if List.isEmpty (α:=Int) x then same (some []) (if J0 8 ([]:List Int) x then some ([]++x)else none)else if J0 8 ([]:List Int) x then some ([]++x)else none) from Y').trans (m01 h)
def i0w (F:Nat):N0 en (e08 F):=J0p F (k0E F)
def t0S (F:Nat):N0 en (p0u F):=J0q fun w S b A c v k hk a=>Wr.H0E 2000 b a (Wr.G0X hk O')
def x0w (F:Nat):N0 en (k0P F):=V0 (A0C F) (I0 (t0S F) U0)
def z0w (F:Nat):N0 en (k04 F):=V0 (H0L F) (I0 (x0w F) U0)
def K0R (F:Nat):N0 en (s0M F):=V0 (D0x F) (I0 (i0w F) (I0 (z0w F) U0))
def J0f (F:Nat):N0 en (r0p F):=V0 (H0T F) (I0 (G0J F) (I0 (K0R F) U0))
def x0O (F:Nat):N0 en (n0e F):=V0 (C03 F) (I0 (J0f F) U0)
def q0d (F:Nat):N0 en (i0v F):=V0 (F0g F) U0
def r0Z (F:Nat):N0 en (i0B F):=V0 (C0L F) (I0 (q0d F) U0)
def K0Z (F:Nat):N0 en (r07 F):=V0 (C0c F) U0
def H0p (F:Nat):N0 en (t0a F):=V0 (G06 F) (I0 (r0Z F) (I0 (q0d F) (I0 (K0Z F) U0)))
def E0r (F:Nat):N0 en (t0O F):=h0U b0j (C:=x0l F) (i0i b0j (fun _ h=>absurd h List.not_mem_nil)) fun(x:List P1) y h=>(show T0 en (x0l F) 83 [.d (.list (.st 5))] (.own 187 (.st 5)) [] x=(if List.isEmpty (α:=P1) x then same (some []) (if J0 16 ([]:List P1) x then some ([]++x)else none)else if J0 16 ([]:List P1) x then some ([]++x)else none) from Y').trans (m01 h)
def B0N (F:Nat):N0 en (r0B F):=V0 (I05 F) (I0 (k0E F) (I0 (E0r F) U0))
def I0W (F:Nat):N0 en (r0X F):=V0 (G0W F) U0
def x0g (F:Nat):N0 en (l06 F):=V0 (N0M F) U0
def w0g (F:Nat):N0 en (n01 F):=V0 (D0y F) (I0 (I0W F) (I0 (x0g F) U0))
def H0b (F:Nat):N0 en (q0t F):=V0 (G0s F) (I0 (H0p F) (I0 (B0N F) (I0 (w0g F) U0)))
def w0Q (F:Nat):N0 en (n0l F):=V0 (C02 F) (I0 (H0b F) U0)
def z0N (F:Nat):N0 en (m0o F):=V0 (L0j F) U0
def N0w (F:Nat):N0 en (s06 F):=V0 (E0q F) (I0 (z0N F) U0)
def v0z (F:Nat):N0 en (l0y F):=V0 (I0A F) U0
def I0a (F:Nat):N0 en (q0m F):=V0 (G0B F) (I0 (k0E F) U0)
def D03 (F:Nat):N0 en (o0K F):=V0 (L0V F) (I0 (I0a F) U0)
def D0Q (F:Nat):N0 en (s0E F):=V0 (H0S F) (I0 (v0z F) (I0 (D03 F) U0))
def w0V (F:Nat):N0 en (n08 F):=V0 (I0Y F) (I0 (D0Q F) U0)
def O0q (F:Nat):N0 en (p0P F):=V0 (M0s F) U0
def u0S (F:Nat):N0 en (m0J F):=V0 (F0A F) (I0 (O0q F) U0)
def w0d (F:Nat):N0 en (o0H F):=V0 (N0Q F) (I0 (N0w F) (I0 (w0V F) U0))
def I0Z (F:Nat):N0 en (t0y F):=V0 (K0l F) U0
def v0F (F:Nat):N0 en (l0a F):=V0 (D0V F) (I0 (I0Z F) U0)
def m04 (F:Nat):N0 en (h0g F):=V0 (O0X F) (I0 (v0F F) U0)
def q0y (F:Nat):N0 en (i0F F):=V0 (B0v F) U0
def z0E (F:Nat):N0 en (l0n F):=V0 (B0q F) U0
def x0q (F:Nat):N0 en (k0Q F):=V0 (E0E F) (I0 (z0E F) U0)
def y0x (F:Nat):N0 en (l0k F):=V0 (C0M F) (I0 (m04 F) (I0 (q0y F) (I0 (x0q F) U0)))
def x0b (F:Nat):N0 en (n0T F):=V0 (N0A F) U0
def M01 (F:Nat):N0 en (r0R F):=C0x F (o0Z F) (r0U F)
def v02 (F:Nat):∀n,N0 en (n0X F n)
 |0=>fun w S us pl x y h=>by cases h
 |n+1=>V0 (O0i F n) (I0 (g0W F) (I0 (v02 F n) (I0 (y0w F) (I0 (M01 F) U0))))
def y03 (F:Nat):N0 en (l0g F):=V0 (A0U F) (I0 (m04 F) (I0 (q0y F) (I0 (x0q F) (I0 (x0b F) (I0 (v02 F F) (I0 (z0E F) U0))))))
def v0h (F:Nat):N0 en (n0w F):=V0 (I0L F) (I0 (m04 F) (I0 (x0b F) U0))
def L0v (F:Nat):N0 en (v03 F):=h0U b0j (C:=v0g F) (i0i b0j (fun _ h=>absurd h List.not_mem_nil)) fun(x:List (List Int)) y h=>(show T0 en (v0g F) 227 [.d (.list (.list (.int .i64)))] (.own 27 (.list (.int .i64))) [] x=(if List.isEmpty (α:=(List Int)) x then same (some []) (if J0 24 ([]:List (List Int)) x then some ([]++x)else none)else if J0 24 ([]:List (List Int)) x then some ([]++x)else none) from Y').trans (m01 h)
def G0F (F:Nat):N0 en (s0w F):=V0 (G0d F) (I0 (z0w F) (I0 (v0h F) (I0 (L0v F) U0)))
def q0u (F:Nat):N0 en (c06 F):=V0 (E0v F) U0
def E0d (F:Nat):N0 en (q0e F):=V0 (K04 F) (I0 (q0u F) U0)
def I0O (F:Nat):N0 en (r0L F):=V0 (L0X F) (I0 (i0w F) (I0 (y0x F) (I0 (y03 F) (I0 (G0F F) (I0 (E0d F) U0)))))
def A0c (F:Nat):N0 en (k0C F):=V0 (L0r F) (I0 (m04 F) (I0 (q0y F) U0))
def B0z (F:Nat):N0 en (p0D F):=V0 (G0Y F) (I0 (i0w F) (I0 (A0c F) U0))
def I0R (F:Nat):N0 en (s0S F):=V0 (M0c F) U0
def H0y (F:Nat):N0 en (t0e F):=V0 (O0v F) U0
def M0q (F:Nat):N0 en (r0m F):=V0 (H0D F) (I0 (I0R F) (I0 (H0y F) U0))
def B0H (F:Nat):N0 en (q0W F):=V0 (G07 F) (I0 (v0z F) (I0 (I0O F) (I0 (B0z F) (I0 (M0q F) U0))))
def G0M (F:Nat):N0 en (t0z F):=V0 (C0R F) (I0 (w0g F) (I0 (x0g F) U0))
def t0R (F:Nat):N0 en (m0A F):=V0 (K0T F) (I0 (w0d F) (I0 (B0H F) (I0 (w0V F) U0)))
def z07 (F:Nat):N0 en (n0Y F):=V0 (N0L F) (I0 (w0d F) U0)
def L0o (F:Nat):N0 en (q0O F):=V0 (M0h F) U0
def z0r (F:Nat):N0 en (n02 F):=V0 (F0u F) U0
def x0y (F:Nat):N0 en (n00 F):=V0 (B0u F) (I0 (z0N F) (I0 (u0S F) U0))
def B03 (F:Nat):N0 en (p0O F):=V0 (M0T F) (I0 (G0M F) (I0 (u0S F) (I0 (x0y F) U0)))
def B0n (F:Nat):N0 en (s0K F):=V0 (D02 F) (I0 (x0y F) U0)
def F0P (F:Nat):N0 en (r0P F):=V0 (I0h F) (I0 (x0O F) (I0 (w0Q F) (I0 (t0R F) (I0 (z07 F) (I0 (L0o F) (I0 (z0r F) U0))))))
def v0T (F:Nat):N0 en (n0R F):=V0 (I0c F) U0
def K0q (F:Nat):N0 en (p09 F):=V0 (N0p F) (I0 (b0Q F) (I0 (v0T F) (I0 (q0w F) U0)))
def M0R (F:Nat):N0 en (t0n F):=F0D F (q0u F)
def B0c (F:Nat):N0 en (s0u F):=V0 (O0P F) (I0 (b0Q F) (I0 (M0R F) U0))
def t02 (F:Nat):N0 en (n0j F):=V0 (E0b F) U0
def N0q (F:Nat):N0 en (r0c F):=V0 (J0B F) U0
def E0W (F:Nat):N0 en (o0R F):=V0 (O0g F) (I0 (t02 F) U0)
def A0G (F:Nat):N0 en (r0o F):=V0 (M0N F) (I0 (N0q F) (I0 (E0W F) (I0 (t02 F) U0)))
def O0O (F:Nat):N0 en (s0z F):=V0 (O0u F) U0
def B0J (F:Nat):N0 en (p0a F):=V0 (I02 F) U0
def L0q (F:Nat):N0 en (p0h F):=V0 (B0L F) U0
def w0X (F:Nat):N0 en (k0V F):=V0 (I0K F) (I0 (m0q F) (I0 (b0Q F) (I0 (B0J F) (I0 (g0W F) (I0 (L0q F) (I0 (v0F F) U0))))))
def t00 (F:Nat):N0 en (l02 F):=V0 (A00 F) (I0 (o0M F) (I0 (A0c F) U0))
def t03 (F:Nat):N0 en (m0L F):=V0 (J0W F) (I0 (m0q F) (I0 (x0w F) U0))
def B02 (F:Nat):N0 en (s03 F):=V0 (D0u F) (I0 (w0X F) (I0 (t00 F) (I0 (o0M F) (I0 (i0w F) (I0 (l0l F) (I0 (t03 F) U0))))))
def A0Q (F:Nat):N0 en (s0b F):=V0 (A0J F) (I0 (t03 F) (I0 (v0C F) (I0 (u05 F) (I0 (v0h F) U0))))
def D0w (F:Nat):N0 en (q0C F):=V0 (H0O F) U0
def A0b (F:Nat):N0 en (n0v F):=V0 (A0z F) U0
def G08 (F:Nat):N0 en (r03 F):=I0p F
def J0c (F:Nat):N0 en (t0o F):=V0 (E05 F) U0
def E0N (F:Nat):N0 en (p0c F):=V0 (N0F F) (I0 (A0b F) (I0 (J0c F) U0))
def J09 (F:Nat):N0 en (r09 F):=V0 (J0x F) (I0 (t00 F) (I0 (A0b F) (I0 (G08 F) (I0 (E0N F) U0))))
def G0V (F:Nat):N0 en (q0E F):=V0 (F0y F) U0
def M0C (F:Nat):N0 en (p0g F):=V0 (N0z F) (I0 (v0T F) (I0 (w0X F) (I0 (i0w F) (I0 (l0l F) (I0 (q0u F) (I0 (g0W F) (I0 (A0Q F) (I0 (D0w F) (I0 (y0x F) (I0 (y03 F) (I0 (J09 F) (I0 (G0V F) U0))))))))))))
def C0v (F:Nat):N0 en (r0I F):=V0 (A0N F) (I0 (A0G F) (I0 (M0C F) U0))
def K0a (F:Nat):N0 en (q00 F):=V0 (N00 F) (I0 (O0O F) (I0 (B02 F) (I0 (C0v F) U0)))
def B0A (F:Nat):N0 en (s0P F):=V0 (D08 F) (I0 (K0q F) (I0 (B0c F) (I0 (r0Z F) (I0 (m0q F) (I0 (K0a F) U0)))))
def y0Q (F:Nat):N0 en (n0f F):=V0 (J0o F) U0
def M02 (F:Nat):N0 en (q0b F):=V0 (L0b F) (I0 (y0Q F) U0)
def M08 (F:Nat):N0 en (p0t F):=V0 (E0R F) (I0 (y0Q F) U0)
def C0h (F:Nat):N0 en (s0Z F):=V0 (H01 F) (I0 (r0Z F) (I0 (q0d F) (I0 (M02 F) (I0 (M08 F) U0))))
def x0Z (F:Nat):N0 en (k0D F):=V0 (J0k F) U0
def N0T (F:Nat):N0 en (o00 F):=V0 (C05 F) (I0 (x0Z F) U0)
def C0P (F:Nat):N0 en (p05 F):=V0 (O0N F) (I0 (t0S F) (I0 (x0Z F) (I0 (N0T F) U0)))
def K0z (F:Nat):N0 en (r02 F):=V0 (G00 F) U0
def C0X (F:Nat):N0 en (s05 F):=V0 (L05 F) (I0 (C0h F) (I0 (C0P F) (I0 (K0z F) U0)))
def y0B (F:Nat):N0 en (m0Q F):=V0 (M0Q F) U0
def E0X (F:Nat):N0 en (r0Q F):=V0 (G0z F) U0
def M0i (F:Nat):N0 en (u0N F):=D0G (E:=en) Go.Proofs.Tryz.M0d rfl
def K06 (F:Nat):N0 en (p0W F):=V0 (I0t F) (I0 (M0i F) U0)
def L0G (F:Nat):N0 en (q0a F):=V0 (D0e F) U0
def M0Z (F:Nat):N0 en (p02 F):=V0 (B0Z F) U0
def N0R (F:Nat):N0 en (p08 F):=V0 (M0S F) (I0 (L0G F) (I0 (M0Z F) U0))
def N0G (F:Nat):N0 en (s0g F):=V0 (N04 F) (I0 (E0X F) (I0 (K06 F) (I0 (N0R F) U0)))
def M0P (F:Nat):N0 en (s0i F):=V0 (L0h F) (I0 (y0B F) (I0 (N0G F) U0))
def J0g (F:Nat):N0 en (p0m F):=V0 (L0p F) (I0 (y0B F) (I0 (M0P F) U0))
def C0s (F:Nat):N0 en (o0L F):=V0 (H0g F) (I0 (C0X F) (I0 (k0E F) (I0 (J0g F) U0)))
def J0u (F:Nat):N0 en (t0A F):=V0 (A0u F) (I0 (z0r F) U0)
def G0A (F:Nat):N0 en (w0L F):=V0 (J0l F) (I0 (D0n F) (I0 (I0U F) (I0 (F0P F) (I0 (B0A F) (I0 (C0s F) (I0 (x0O F) (I0 (w0Q F) (I0 (t0R F) (I0 (J0u F) (I0 (z07 F) (I0 (B03 F) (I0 (B0n F) U0))))))))))))
end Go.Proofs.YtbccffnofdnpoaaGreat
namespace Go.V
open Go.RowKit Go.ChangeShapes Go.WideShapes Go.ChangeAt
def J4 (k:IntKind)(x:Int):Prop:=k.min<=x/\x<=k.max
structure Rd (P:Program)(t:TypeId){α:Type}(T:Ty α)(wf:α->Prop):Prop where
 get:∀{H:Type} {enc:TypeId×Value->H} {W:World} {sp:Nat->Bool} {held:Bool} {fuel:Nat} {cs:List Value} {d:DataW H} {ps:List MemPlace},
  DataW.trod enc P W 0 sp held fuel t cs=some (d,ps)->(∀p∈ps,p.block<W.heap.size)->∃x,T.R W.heap C6 cs x/\wf x
section
variable {P:Program}{t e:TypeId}
def Rd.int {k:IntKind}(a:P.underlying t=some (.int k)):Rd P t (Z1 k) (J4 k):=⟨by
 intro H enc W sp held fuel cs d ps h _;cases fuel with
 |zero=>simp[DataW.trod]at h
 |succ f=>
  simp only[DataW.trod,a]at h;split at h<;>simp_all
  obtain⟨⟨rfl,hw⟩,_⟩:=h;simp only[Lit.wf,Bool.and_eq_true,decide_eq_true_eq]at hw;exact⟨_,rfl,hw⟩⟩
def Rd.bool (a:P.underlying t=some .bool):Rd P t b0h (fun _=>True):=⟨fun h _=>by
 obtain⟨b,rfl,_⟩:=DataW.trod_bool a h;exact⟨b,rfl,trivial⟩⟩
theorem x04 {α β:Type}{f:α->Option β}:∀{l:List α} {r:List β},l.mapM f=some r->l.length=r.length/\∀(i:Nat) (x:α),l[i]?=some x->∃y,r[i]?=some y/\f x=some y
 |[],r,h=>by simp_all
 |x :: xs,r,h=>by
  cases b:f x with
  |none=>simp_all
  |some y=>
   cases a:xs.mapM f with
   |none=>simp_all
   |some ys=>
    simp[b,a]at h;obtain⟨h1,c⟩:=x04 a
    grind
theorem cells?_get {W:World}{base:Nat}{a:Addr}{n:Nat}{cs:List Value}(h:W.cells? base a n=some cs):cs.length=n/\∀(j:Nat) (v:Value),cs[j]?=some v->W.cell? (a.add j)=some v:=by
 unfold World.cells? at h;split at h
 ·obtain⟨h1,b⟩:=x04 h;simp at h1;refine⟨h1.symm,fun j v f=>?_⟩;obtain⟨y,c,d⟩:=b j j (by grind)
  simp_all
 grind
theorem t0t {α:Type}{Q:Nat->α->Prop}:∀(n:Nat),(∀i,i<n->∃x,Q i x)->∃xs:List α,xs.length=n/\∀(i:Nat) (x:α),xs[i]?=some x->Q i x
 |0,_=>⟨[],rfl,fun i x h=>by grind⟩
 |n+1,h=>by
  obtain⟨xs,hl,a⟩:=t0t n (fun i hi=>h i O');obtain⟨y,b⟩:=h n O';refine⟨xs++[y],by grind,fun i x hi=>?_⟩
  grind
theorem Rd.slice {α:Type}{T:Ty α}{wf:α->Prop}(ht:P.underlying t=some (.slice e))(hE:P.cellsOf e=T.sz)(J:0<T.sz)(R:Rd P e T wf):Rd P t (I3 T) (fun l=>∀x∈l,wf x):=⟨by
 intro H enc W sp held fuel cs d ps h hp;rcases DataW.trod_slice ht h with⟨rfl,_⟩|⟨a,len,cap,elems,rest,f,rfl,rfl,m,_,hle,_,hel,hget,_,_⟩
 ·exact⟨[],⟨none,0,rfl,Sl.nil⟩,V'⟩
 ·cases m;have k:∀j,j<len*P.cellsOf e->MemPlace.cell a.block (a.off+j)∈MemPlace.row a ((elems.length+rest.length)*P.cellsOf e):=fun j w=>MemPlace.mem_row.2 ⟨j,Nat.lt_of_lt_of_le w (Nat.mul_le_mul_right _ O'),rfl⟩;have key:∀i,i<len->∃x,(∃cs,T.R W.heap C6 cs x/\∀j v,cs[j]?=some v->W.cell? ((a.add (i*P.cellsOf e)).add j)=some v)/\wf x:=fun i hi=>by
   have n:=hget i hi;rw[List.getElem?_eq_getElem O']at n;simp only[Option.bind_eq_some_iff]at n;obtain⟨cs,I,q⟩:=n;obtain⟨x,m,hw⟩:=R.get q (fun p C=>hp p (by
    grind))
   grind [cells?_get]
  obtain⟨xs,r,s⟩:=t0t len key;have c:xs≠[]->∃b o,a=⟨b,o,none⟩/\b<W.heap.size:=fun g=>by
   have y:0<len:=by
    grind
   obtain⟨x,⟨⟨cs,hR,z⟩,_⟩⟩:=key 0 y;have U:=T.len hR;have h1:=z 0 cs[0] V';obtain⟨b,o,spot⟩:=a;have:spot=none:=by
    have:=World.cell?_spot h1
    simp_all[Addr.add]
   subst this;refine⟨b,o,rfl,?_⟩;have:=hp (.cell b (o+0)) (by
    simp only[List.mem_append];exact .inl (k 0 (Nat.mul_pos y O')))
   exact this
  subst r;refine⟨xs,⟨some a,cap,rfl,hle,fun g=>?_,fun i x m=>?_⟩,fun x m=>?_⟩
  ·obtain⟨b,o,rfl,u⟩:=c g;exact⟨b,o,rfl,u,fun h=>h⟩
  ·have g:xs≠[]:=by grind
   obtain⟨b,o,rfl,u⟩:=c g;obtain⟨⟨cs,hR,z⟩,_⟩:=s i x m;refine⟨b,o,cs,rfl,hR,fun j v w=>?_⟩
   simp_all[H0h]
  grind [List.getElem?_of_mem]⟩
theorem J0m {H:Type}{enc:TypeId×Value->H}{W:World}{sp:Nat->Bool}{held:Bool}{fuel:Nat}{cs:List Value}{d:DataW H}{ps:List MemPlace}{fs:Array Field}(j:P.underlying t=some (.struct fs))
  (h:DataW.trod enc P W 0 sp held fuel t cs=some (d,ps)) (hp:∀p∈ps,p.block<W.heap.size):
  cs.length=P.cellsOf t/\∀(i:Nat) (f:Field),fs[i]?=some f->∃n k b,DataW.trod enc P W 0 sp held n f.type ((cs.drop f.offset).take (P.cellsOf f.type))=some (k,b)/\∀p∈b,p.block<W.heap.size:=by
 obtain⟨xs,n,rfl,l,hl,g,a⟩:=DataW.trod_struct j h;refine⟨hl,fun i f c=>?_⟩;have:=a i f c
 grind [List.getElem_mem]
def Rd.field {α:Type}{T:Ty α}{wf:α->Prop}{f:Field}{H:Type}{enc:TypeId×Value->H}{W:World}{sp:Nat->Bool}{held:Bool}{cs:List Value}(R:Rd P f.type T wf)
  (h:∃n b a,DataW.trod enc P W 0 sp held n f.type ((cs.drop f.offset).take (P.cellsOf f.type))=some (b,a)/\∀p∈a,p.block<W.heap.size):
  ∃x,T.R W.heap C6 ((cs.drop f.offset).take (P.cellsOf f.type)) x/\wf x:=by
 obtain⟨n,b,a,h1,c⟩:=h;exact R.get h1 c
def w0s {H:Type}{enc:TypeId×Value->H}(hl:laidOutB P=true){W f:World}(g:Below W.heap.size W f):∀{ts:List TypeId} {vs:List Value} {c:List (DataW H)} {ps:List MemPlace},
  (ts.all fun t=>P.readableRec t&&decide (t<P.types.size))=true->DataW.TrodAll enc P W 0 (fun _=>true) true ts vs c ps->(∀x∈ps,x.block<W.heap.size)->DataW.TrodAll enc P f 0 (fun b=>decide (b<W.heap.size)) true ts vs c ps
 |[],[],[],_,_,h,_=>h
 |[],[],_ :: _,_,_,h,_=>h.elim
 |[],_ :: _,_,_,_,h,_=>h.elim
 |_ :: _,[],_,_,_,h,_=>h.elim
 |_ :: _,_ :: _,[],_,_,h,_=>h.elim
 |t :: ts,v :: vs,d :: c,ps,hr,⟨p,q,h1,h2,e⟩,hp=>by
  simp only[List.all_cons,Bool.and_eq_true,decide_eq_true_eq]at hr;subst e;exact⟨p,q,Below.trod hl hr.1.1 hr.1.2 h1 g (fun x a=>hp x (List.mem_append_left _ a)),w0s hl g hr.2 h2 (fun x a=>hp x (List.mem_append_right _ a)),rfl⟩
def H0W {C:Checked}{os:Os}{f:FuncId}{fn:Func}{s:ChangeSpec}{tb:TypeId}{H:Type}{enc:TypeId×Value->H}(own:ownKnob C.prog.godebug=none)(started:os.Started)(b:C.prog.inits.idxOf? f=none)(u:C.prog.funcs[f]?=some fn)(hl:laidOutB C.prog=true)
  (g:fn.resultTypes=#[tb]) (o:C.prog.underlying tb=some .bool) (c:s.vars=[]) (y:(fn.params.toList.all fun t=>C.prog.readableRec t&&decide (t<C.prog.types.size))=true)
  (witness:∃(w:World) (tape:Tape) (i:Input),w.os=os/\(w.forCall tape i).Shaped C.prog/\i.vars=[]/\Input.okWide C.prog (w.forCall tape i) .any w.heap.size f i/\
   s.pre6 enc C.prog fn [] false (w.forCall tape i).memory i.args/\({}:Assume).holds C.prog (lone (Frame.enter C.prog f i.args .normal) [] (w.forCall tape i)))
  (d:∀(W:World) (args:Array Value) (a:List (DataW H)) (p:List MemPlace),DataW.TrodAll enc C.prog W 0 (fun _=>true) true fn.params.toList args.toList a p->(s.fn H (a++[])).results=[.lit (.bool true)]/\(s.fn H (a++[])).args=a/\(s.fn H (a++[])).vars=[])
  (body:∀(W:World) (base:Nat) (args:Array Value) (a:List (DataW H)) (p:List MemPlace),(∀(j:Nat) t v,fn.params[j]?=some t->args[j]?=some v->Value.okWide C.prog W .any base t v)->
   DataW.TrodAll enc C.prog W 0 (fun _=>true) true fn.params.toList args.toList a p->(∀x∈p,x.block<W.heap.size)->(DataW.weightsEach C.prog fn.params.toList a).all (·<=reachBytes)=true->
   Calls C.prog f args W fun e z=>e=.returned (.bool true)/\Below W.heap.size W z):
  ReturnsInHanded {} C os f .any (s.pre6 enc C.prog fn [] false) (s.post enc C.prog fn false true false false):=by
 refine returnsInHanded_of_change_sized own started b u witness ?_;intro W base args a gs before k R _ l _;have m:=R;obtain⟨p,q,I,J,rfl,_,_⟩:=R;rw[c]at J;obtain⟨rfl,rfl⟩:=trodVars_none J;have n:∀x∈p,x.block<W.heap.size:=fun x U=>by simpa using m.lt x (List.mem_append_left _ U)
 have r:s.plain.varTypes C.prog=[]:=by unfold ChangeSpec.plain;simp[DataSpec.varTypes,c]
 rw[r,List.append_nil,List.append_nil]at l;refine(body W base args a p k I n l).mono fun e z ⟨he,hb⟩=>?_;subst he;obtain⟨s1,s2,s3⟩:=d W args a p I;refine⟨_,rfl,a,[],p++[],[],p,[],m,?_,?_,?_,hb.frame _,fun h=>by cases h⟩
 ·rw[s1,g];exact trodAll_cons_mk (shut_bool o _) trodAll_mk0
 ·simp_all[w0s]
 ·rw[s3,c];rfl
def A0R {H:Type}{enc:TypeId×Value->H}{W:World}{fuel n c:Nat}{A:Option Addr}{d:DataW H}{ps:List MemPlace}{ts:List TypeId}{i:List (DataW H)}{j:Nat}(g:P.underlying t=some (.slice e))
  (h:DataW.trod enc P W 0 (fun _=>true) true fuel t (Value.slice A n c).cells.toList=some (d,ps)) (b:(DataW.weightsEach P ts i).all (·<=reachBytes)=true) (k:ts[j]?=some t) (hd:i[j]?=some d):n*P.bytesOf e<=140737488351232:=by
 rcases DataW.trod_slice g h with⟨he,_⟩|⟨a,len,cap,elems,rest,f,rfl,he,hx,_,hle,_,hel,hget,_,_⟩
 ·simp_all[Value.cells]
 ·cases hx;simp[Value.cells]at he;have:=sized_slice b k hd g;simp only[List.length_map,hel]at this;have m:n*P.bytesOf e<=(len+rest.length)*P.bytesOf e:=Nat.mul_le_mul_right _ O';have l:reachBytes=140737488351232:=rfl;omega
end
