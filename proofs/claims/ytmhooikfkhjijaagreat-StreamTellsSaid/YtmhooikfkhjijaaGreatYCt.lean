/- P. Its conditions: none. -/
import Derived.Test.YtmhooikfkhjijaaGreatYG22
import Derived.Test.YtmhooikfkhjijaaGreatYG23
import Derived.Test.YtmhooikfkhjijaaGreatYG24
import Derived.Test.YtmhooikfkhjijaaGreatYX16
import Derived.Test.YtmhooikfkhjijaaGreatYX17
import Derived.Test.YtmhooikfkhjijaaGreatYG32
import Derived.Test.YtmhooikfkhjijaaGreatYJn
import Derived.Test.YtmhooikfkhjijaaGreatYG26
set_option linter.all false
set_option maxRecDepth 100000
namespace Go.Proofs.YtmhooikfkhjijaaGreat
open Go.V Go.RowKit Go.X
def N0:∀c∈([]:List (Sm en.D)),G0 en c:=fun _ h=>absurd h List.not_mem_nil
def E0 {c:Sm en.D}{r:List (Sm en.D)}(h:G0 en c)(hr:∀c∈r,G0 en c):∀d∈c :: r,G0 en d:=List.forall_mem_cons.2 ⟨h,hr⟩
def O0 {C:X1 en}{c:Sm en.D}(hm:∀x,L0 en C c.f c.ins c.res c.back x=c.m x)(hs:∀d∈C.sm,G0 en d):G0 en c:=n0t K9 (C:=C) (k08 K9 hs) fun x y h=>(hm x).trans h
def M0f (F:Nat):G0 en (G08 F):=O0 (V0c F) N0
def x0n (F:Nat):G0 en (j0m F):=O0 (x0s F) N0
def y0e (F:Nat):G0 en (g0I F):=O0 (s0T F) N0
def q0g (F:Nat):G0 en (h0t F):=O0 (x06 F) N0
def h06 (F:Nat):G0 en (b0B F):=O0 (z0O F) (E0 (x0n F) (E0 (y0e F) (E0 (q0g F) N0)))
def H8 (F:Nat):G0 en (A7 F):=O0 (r00 F) (E0 (h06 F) N0)
def n0h (F:Nat):G0 en (e01 F):=O0 (s0z F) (E0 (h06 F) N0)
def u0o (F:Nat):G0 en (j0B F):=O0 (u0e F) (E0 (n0h F) N0)
def i0t (F:Nat):G0 en (c05 F):=O0 (r0T F) (E0 (H8 F) (E0 (u0o F) N0))
def d0g (F:Nat):G0 en (b0f F):=O0 (v0z F) (E0 (H8 F) N0)
def Q0p (F:Nat):G0 en (M0s F):=n0t K9 (C:=M0X F) (k08 K9 (fun _ h=>absurd h List.not_mem_nil)) fun(x:List U0) y h=>(show L0 en (M0X F) 142 [.d (.list (.st 0))] (.own 145 (.st 0)) [] x=(if List.isEmpty (α:=U0) x then same (some []) (if C1 64 ([]:List U0) x then some ([]++x)else none)else if C1 64 ([]:List U0) x then some ([]++x)else none) by kernel_rfl).trans (q0X h)
def t0d (F:Nat):G0 en (k0b F):=O0 (x0N F) (E0 (n0h F) N0)
def o0l (F:Nat):G0 en (f01 F):=O0 (z0f F) (E0 (H8 F) (E0 (t0d F) N0))
def R0M (F:Nat):G0 en (L0b F):=O0 (R0W F) (E0 (o0l F) N0)
def i0Q (F:Nat):G0 en (b0Q F):=O0 (s0k F) (E0 (H8 F) N0)
def p0o (F:Nat):G0 en (f0j F):=O0 (q0t F) (E0 (i0Q F) N0)
def t0u (F:Nat):G0 en (g0Y F):=O0 (z0m F) (E0 (d0g F) (E0 (H8 F) N0))
def k0p (F:Nat):G0 en (c0y F):=O0 (y0q F) (E0 (H8 F) N0)
def l0q (F:Nat):G0 en (f08 F):=O0 (u0w F) (E0 (H8 F) (E0 (p0o F) (E0 (i0Q F) (E0 (t0u F) (E0 (k0p F) N0)))))
def l0W (F:Nat):G0 en (g0u F):=O0 (y0w F) N0
def o0H (F:Nat):∀n,G0 en (e0o F n)
 |0=>fun w S us pl x y h=>by cases h
 |n+1=>O0 (p0G F n) (E0 (o0H F n) N0)
def i0R (F:Nat):G0 en (c06 F):=O0 (t02 F) (E0 (k0p F) (E0 (o0H F F) N0))
def n0y (F:Nat):G0 en (e0R F):=O0 (w0i F) N0
def k0f (F:Nat):∀n,G0 en (d0a F n)
 |0=>fun w S us pl x y h=>by cases h
 |n+1=>O0 (s0a F n) (E0 (k0f F n) (E0 (i0R F) (E0 (n0y F) N0)))
def u0v (F:Nat):G0 en (j0n F):=O0 (u0H F) (E0 (l0q F) (E0 (l0W F) (E0 (k0f F F) N0)))
def p0k (F:Nat):G0 en (f02 F):=O0 (x0i F) (E0 (d0g F) (E0 (l0q F) N0))
def t0p (F:Nat):G0 en (j0Z F):=O0 (r0y F) (E0 (k0f F F) N0)
def o03 (F:Nat):G0 en (e0C F):=O0 (r04 F) (E0 (i0R F) (E0 (n0y F) (E0 (t0p F) N0)))
def r0X (F:Nat):G0 en (m0t F):=x05 (E:=en) (i:=10) (key:=fun x:E1=>x.To) Go.Proofs.Tryz.u0q rfl Go.Proofs.Tryz.r0Q Go.Proofs.Tryz.y0R Go.Proofs.Tryz.p04 Go.Proofs.Tryz.z0K (fun H S cs x h=>by
 obtain⟨c1,c2,rfl,h1,c3,c4,rfl,h2,c5,c6,rfl,⟨A,c,rfl,_⟩,rfl⟩:=(j0M 10 _ _ _ _).1 h;have h1:c1=[_]:=h1;have h2:c3=[_]:=h2;subst h1;subst h2;exact⟨_,_,rfl⟩) (by kernel_rfl)
def v0n (F:Nat):G0 en (g0U F):=O0 (t0M F) (E0 (l0W F) (E0 (p0k F) (E0 (o03 F) (E0 (r0X F) N0))))
def n0r (F:Nat):G0 en (f06 F):=O0 (q07 F) (E0 (p0k F) (E0 (o03 F) (E0 (i0R F) N0)))
def P0h (F:Nat):G0 en (J0O F):=O0 (S0F F) (E0 (i0t F) (E0 (d0g F) (E0 (Q0p F) (E0 (R0M F) (E0 (u0v F) (E0 (v0n F) (E0 (n0r F) (E0 (o0l F) N0))))))))
def R0U (F:Nat):G0 en (J0N F):=O0 (S0C F) (E0 (H8 F) (E0 (P0h F) N0))
def L0e (F:Nat):G0 en (F0X F):=n0t K9 (C:=N0L F) (k08 K9 (fun _ h=>absurd h List.not_mem_nil)) fun(x:List Int) y h=>(show L0 en (N0L F) 130 [.d (.list (.int .i64))] (.own 3 (.int .i64)) [] x=(if List.isEmpty (α:=Int) x then same (some []) (if C1 8 ([]:List Int) x then some ([]++x)else none)else if C1 8 ([]:List Int) x then some ([]++x)else none) by kernel_rfl).trans (q0X h)
def m0f (F:Nat):G0 en (e0k F):=y05 F (L0e F)
def s0N (F:Nat):G0 en (o0M F):=r0e fun w S hS A c v k hk hsl=>Wr.T0J 2000 hS hsl (Wr.z0H hk (by omega))
def t0J (F:Nat):G0 en (k0o F):=O0 (v0k F) (E0 (s0N F) N0)
def N0f (F:Nat):G0 en (J0s F):=O0 (S04 F) (E0 (t0J F) N0)
def R0E (F:Nat):G0 en (M0h F):=O0 (P09 F) (E0 (m0f F) (E0 (N0f F) N0))
def P0l (F:Nat):G0 en (L0v F):=O0 (U05 F) (E0 (R0U F) (E0 (R0E F) N0))
def S02 (F:Nat):G0 en (N0s F):=n0t K9 (C:=M0S F) (k08 K9 (fun _ h=>absurd h List.not_mem_nil)) fun(x:List (List Int)) y h=>(show L0 en (M0S F) 150 [.d (.list (.list (.int .i64)))] (.own 23 (.list (.int .i64))) [] x=(if List.isEmpty (α:=(List Int)) x then same (some []) (if C1 24 ([]:List (List Int)) x then some ([]++x)else none)else if C1 24 ([]:List (List Int)) x then some ([]++x)else none) by kernel_rfl).trans (q0X h)
def u0i (F:Nat):G0 en (k0j F):=O0 (q0r F) N0
def k04 (F:Nat):G0 en (e0y F):=O0 (r0G F) (E0 (u0i F) N0)
def e0D (F:Nat):G0 en (b0W F):=O0 (t0B F) (E0 (k04 F) N0)
def n0i (F:Nat):G0 en (g0g F):=O0 (y07 F) N0
def t0w (F:Nat):G0 en (j0U F):=O0 (t0m F) (E0 (e0D F) (E0 (n0i F) N0))
def W0d (F:Nat):G0 en (L0R F):=O0 (W0Y F) (E0 (N0f F) (E0 (S02 F) (E0 (t0w F) N0)))
def k06 (F:Nat):G0 en (a0l F):=O0 (q0Z F) N0
def R0Z (F:Nat):G0 en (J0I F):=O0 (S0u F) (E0 (k06 F) N0)
def i0H (F:Nat):G0 en (c0W F):=O0 (q0P F) N0
def m0P (F:Nat):G0 en (e02 F):=O0 (q0b F) N0
def m0w (F:Nat):G0 en (f00 F):=O0 (v0g F) (E0 (m0P F) N0)
def v0H (F:Nat):G0 en (j0t F):=O0 (p0S F) (E0 (e0D F) (E0 (i0H F) (E0 (m0w F) N0)))
def r0p (F:Nat):G0 en (k0t F):=w0l F (i0Q F) (h06 F)
def p0b (F:Nat):∀n,G0 en (f04 F n)
 |0=>fun w S us pl x y h=>by cases h
 |n+1=>O0 (q0O F n) (E0 (d0g F) (E0 (p0b F n) (E0 (r0p F) (E0 (p0o F) N0))))
def v0p (F:Nat):G0 en (i0p F):=O0 (p0O F) (E0 (e0D F) (E0 (i0H F) (E0 (m0w F) (E0 (n0i F) (E0 (p0b F F) (E0 (m0P F) N0))))))
def T0d (F:Nat):G0 en (K0p F):=O0 (Q0d F) (E0 (m0f F) (E0 (W0d F) (E0 (R0Z F) (E0 (v0H F) (E0 (v0p F) N0)))))
def V09 (F:Nat):G0 en (L0J F):=O0 (P0F F) N0
def r0S (F:Nat):G0 en (j0T F):=O0 (q04 F) (E0 (e0D F) (E0 (i0H F) N0))
def P0D (F:Nat):G0 en (L01 F):=O0 (V0m F) (E0 (m0f F) (E0 (r0S F) N0))
def T09 (F:Nat):G0 en (J0X F):=O0 (V0V F) N0
def Q0t (F:Nat):G0 en (K0Q F):=O0 (P0f F) N0
def R0V (F:Nat):G0 en (L0a F):=O0 (S0Z F) (E0 (T09 F) (E0 (Q0t F) N0))
def W0k (F:Nat):G0 en (M0p F):=O0 (X0P F) (E0 (T0d F) (E0 (V09 F) (E0 (P0D F) (E0 (R0V F) N0))))
def T0B (F:Nat):G0 en (L0t F):=O0 (U0U F) (E0 (L0e F) N0)
def P0K (F:Nat):G0 en (M0n F):=O0 (R0z F) (E0 (T0B F) N0)
def U0r (F:Nat):G0 en (J0V F):=O0 (S0N F) N0
def Q0c (F:Nat):G0 en (J0K F):=O0 (R0K F) N0
def N09 (F:Nat):G0 en (H08 F):=O0 (X0y F) (E0 (Q0c F) N0)
def E0f (F:Nat):G0 en (D0J F):=O0 (Q0u F) (E0 (N09 F) N0)
def G0h (F:Nat):G0 en (E0t F):=O0 (P06 F) (E0 (E0f F) N0)
def O0M (F:Nat):G0 en (I09 F):=O0 (T01 F) (E0 (N09 F) N0)
def M0G (F:Nat):G0 en (J0w F):=O0 (S0X F) (E0 (O0M F) N0)
def V0Z (F:Nat):G0 en (L0x F):=O0 (W0X F) (E0 (M0G F) N0)
def I0y (F:Nat):G0 en (F0R F):=O0 (S0E F) (E0 (E0f F) (E0 (V0Z F) N0))
def o07 (F:Nat):G0 en (e0G F):=O0 (u0N F) N0
def l0U (F:Nat):G0 en (e0E F):=O0 (w0M F) (E0 (o07 F) N0)
def U0w (F:Nat):G0 en (L0L F):=O0 (P0Z F) N0
def M0y (F:Nat):G0 en (H01 F):=O0 (R0O F) (E0 (o07 F) (E0 (l0U F) (E0 (U0w F) N0)))
def l0h (F:Nat):G0 en (e0f F):=O0 (s08 F) N0
def u0f (F:Nat):G0 en (j06 F):=O0 (v0U F) (E0 (l0h F) N0)
def W0f (F:Nat):G0 en (K0M F):=O0 (P0E F) N0
def U0e (F:Nat):G0 en (M0g F):=O0 (X0w F) (E0 (l0h F) (E0 (u0f F) (E0 (W0f F) N0)))
def N0t (F:Nat):G0 en (I0Z F):=O0 (X0E F) N0
def J0g (F:Nat):∀n,G0 en (F0G F n)
 |0=>fun w S us pl x y h=>by cases h
 |n+1=>O0 (P0N F n) (E0 (J0g F n) N0)
def M0k (F:Nat):∀n,G0 en (G0U F n)
 |0=>fun w S us pl x y h=>by cases h
 |n+1=>O0 (V0R F n) (E0 (M0k F n) (E0 (N0t F) (E0 (J0g F F) N0)))
def N0q (F:Nat):G0 en (I0R F):=O0 (R0w F) (E0 (E0f F) N0)
def K0l (F:Nat):G0 en (G0N F):=O0 (Q03 F) (E0 (E0f F) N0)
def W0t (F:Nat):G0 en (K0P F):=O0 (S0r F) (E0 (E0f F) (E0 (M0k F F) (E0 (N0q F) (E0 (K0l F) N0))))
def O0Y (F:Nat):G0 en (I0g F):=O0 (W0g F) (E0 (E0f F) N0)
def M0A (F:Nat):G0 en (I0N F):=O0 (T0u F) (E0 (O0Y F) N0)
def T0C (F:Nat):G0 en (K0q F):=O0 (X0O F) N0
def M0J (F:Nat):G0 en (I0V F):=O0 (R0X F) (E0 (G0h F) (E0 (M0k F F) (E0 (N0q F) (E0 (K0l F) (E0 (N0t F) (E0 (J0g F F) (E0 (O0Y F) (E0 (M0A F) (E0 (T0C F) N0)))))))))
def U0R (F:Nat):G0 en (L0C F):=O0 (S0L F) (E0 (G0h F) (E0 (M0J F) N0))
def U0y (F:Nat):G0 en (L03 F):=O0 (R0S F) (E0 (K0l F) (E0 (J0g F F) N0))
def O0z (F:Nat):G0 en (I0F F):=O0 (X0H F) (E0 (E0f F) (E0 (G0h F) (E0 (M0J F) (E0 (U0y F) N0))))
def Q0i (F:Nat):G0 en (K06 F):=O0 (V0k F) (E0 (G0h F) (E0 (W0t F) (E0 (U0R F) (E0 (O0z F) N0))))
def J07 (F:Nat):G0 en (H0y F):=O0 (U0k F) N0
def V03 (F:Nat):G0 en (L08 F):=O0 (V00 F) N0
def M09 (F:Nat):G0 en (H0V F):=O0 (V0w F) (E0 (I0y F) (E0 (V03 F) N0))
def J0P (F:Nat):G0 en (H0C F):=O0 (T0T F) (E0 (E0f F) (E0 (M0G F) N0))
def T03 (F:Nat):G0 en (K0f F):=O0 (P0m F) (E0 (O0z F) (E0 (J07 F) (E0 (M09 F) (E0 (J0P F) N0))))
def W0n (F:Nat):G0 en (L0A F):=O0 (V0T F) (E0 (Q0i F) (E0 (T03 F) N0))
def I04 (F:Nat):G0 en (F0O F):=O0 (V04 F) N0
def O0X (F:Nat):G0 en (J0t F):=O0 (W0W F) N0
def S05 (F:Nat):G0 en (L0D F):=O0 (R0e F) (E0 (I04 F) (E0 (O0X F) N0))
def T0L (F:Nat):G0 en (M0i F):=O0 (U0t F) N0
def Q0a (F:Nat):G0 en (J00 F):=O0 (R0y F) N0
def O0N (F:Nat):G0 en (J0v F):=O0 (R0H F) N0
def P0b (F:Nat):G0 en (I0e F):=O0 (V0W F) (E0 (O0N F) N0)
def P0p (F:Nat):G0 en (J0L F):=O0 (V0E F) (E0 (I04 F) (E0 (P0b F) N0))
def S0Q (F:Nat):G0 en (L00 F):=O0 (R0f F) (E0 (O0M F) N0)
def W0l (F:Nat):G0 en (J0J F):=O0 (U0M F) (E0 (G0h F) (E0 (M0A F) (E0 (S0Q F) N0)))
def T0w (F:Nat):G0 en (M0m F):=O0 (Q05 F) (E0 (I04 F) (E0 (O0X F) (E0 (P0b F) (E0 (W0l F) (E0 (O0N F) N0)))))
def S03 (F:Nat):G0 en (L0h F):=O0 (Q0T F) (E0 (I0y F) (E0 (J07 F) (E0 (M09 F) (E0 (J0P F) (E0 (S05 F) (E0 (T0L F) (E0 (Q0a F) (E0 (P0p F) (E0 (T0w F) N0)))))))))
def T0v (F:Nat):G0 en (K0O F):=O0 (R06 F) (E0 (I04 F) N0)
def S0x (F:Nat):G0 en (K0J F):=O0 (S0g F) (E0 (J07 F) (E0 (J0P F) (E0 (T0v F) N0)))
def R0p (F:Nat):G0 en (K0x F):=O0 (U0f F) N0
def Q0l (F:Nat):G0 en (L0m F):=O0 (S0H F) (E0 (S03 F) (E0 (S0x F) (E0 (R0p F) N0)))
def Q0R (F:Nat):G0 en (M07 F):=n0t K9 (C:=M0V F) (k08 K9 (fun _ h=>absurd h List.not_mem_nil)) fun(x:List C0s) y h=>(show L0 en (M0V F) 131 [.d (.list (.st 1))] (.own 169 (.st 1)) [] x=(if List.isEmpty (α:=C0s) x then same (some []) (if C1 16 ([]:List C0s) x then some ([]++x)else none)else if C1 16 ([]:List C0s) x then some ([]++x)else none) by kernel_rfl).trans (q0X h)
def Q0Z (F:Nat):G0 en (L05 F):=O0 (P05 F) (E0 (L0e F) (E0 (Q0R F) N0))
def O0u (F:Nat):G0 en (I0h F):=O0 (T0Z F) N0
def S06 (F:Nat):G0 en (K0B F):=O0 (U0i F) N0
def O0s (F:Nat):G0 en (J0d F):=O0 (P0i F) (E0 (O0u F) (E0 (S06 F) N0))
def Q0S (F:Nat):G0 en (K0A F):=O0 (Q0h F) (E0 (M0y F) (E0 (Q0Z F) (E0 (O0s F) N0)))
def S08 (F:Nat):G0 en (K0o F):=O0 (X0D F) (E0 (O0s F) (E0 (O0u F) N0))
def S0i (F:Nat):G0 en (K0g F):=O0 (W0Z F) N0
def M0C (F:Nat):G0 en (I00 F):=O0 (T0q F) N0
def T0F (F:Nat):G0 en (K0a F):=O0 (U0p F) (E0 (M0C F) N0)
def Q06 (F:Nat):G0 en (L0s F):=O0 (V0N F) N0
def V0n (F:Nat):G0 en (K0H F):=O0 (U0q F) (E0 (Q06 F) N0)
def R0I (F:Nat):G0 en (L09 F):=O0 (W0D F) (E0 (M0C F) (E0 (V0n F) N0))
def b1P (F:Nat):G0 en (Z0X F):=O0 (a1N F) N0
def Y0a (F:Nat):G0 en (K0d F):=O0 (Y0w F) (E0 (P0l F) N0)
def m0F (F:Nat):G0 en (f0o F):=O0 (w01 F) N0
def Z0o (F:Nat):G0 en (X0t F):=O0 (Z0r F) (E0 (m0F F) N0)
def Z0c (F:Nat):G0 en (X0Z F):=O0 (Y0W F) (E0 (V09 F) (E0 (P0K F) N0))
def X05 (F:Nat):G0 en (M0l F):=O0 (Y0G F) (E0 (Z0c F) N0)
def a16 (F:Nat):G0 en (Z0U F):=O0 (a10 F) N0
def a1A (F:Nat):G0 en (Z0C F):=O0 (b1x F) (E0 (a16 F) N0)
def Y0b (F:Nat):G0 en (I05 F):=O0 (Y0r F) (E0 (Z0o F) (E0 (X05 F) N0))
def Y0d (F:Nat):G0 en (J0A F):=O0 (Y0q F) (E0 (W0k F) (E0 (Y0b F) (E0 (X05 F) N0)))
def Z0d (F:Nat):G0 en (U0d F):=O0 (Z0i F) (E0 (Y0b F) N0)
def i05 (F:Nat):G0 en (d0m F):=O0 (q0A F) N0
def Y0K (F:Nat):G0 en (R0n F):=O0 (Y0O F) (E0 (Q0S F) N0)
def Y09 (F:Nat):G0 en (X0Y F):=O0 (Z0v F) N0
def a1o (F:Nat):G0 en (Z0w F):=O0 (a1D F) (E0 (m0F F) (E0 (a1A F) N0))
def b1T (F:Nat):G0 en (Z0Q F):=O0 (b1d F) (E0 (S08 F) (E0 (a1A F) (E0 (a1o F) N0)))
def a14 (F:Nat):G0 en (a1a F):=O0 (a1Z F) (E0 (a1o F) N0)
def Z0f (F:Nat):G0 en (R0c F):=O0 (Z0n F) (E0 (Y0a F) (E0 (Y0d F) (E0 (Z0d F) (E0 (i05 F) (E0 (Y0K F) (E0 (Y09 F) N0))))))
def Y01 (F:Nat):G0 en (X01 F):=O0 (Z0h F) (E0 (i05 F) N0)
def Y0D (F:Nat):G0 en (X0V F):=O0 (Y0R F) (E0 (U0r F) N0)
def a1S (F:Nat):G0 en (Z0Z F):=O0 (b1s F) N0
def a1z (F:Nat):G0 en (Z0x F):=O0 (a1L F) (E0 (a1S F) N0)
def p0I (F:Nat):G0 en (i0Y F):=O0 (p0X F) N0
def s0u (F:Nat):G0 en (h0e F):=O0 (u0D F) (E0 (p0I F) N0)
def b1B (F:Nat):G0 en (Z0P F):=O0 (a1J F) (E0 (s0u F) N0)
def c1a (F:Nat):G0 en (Z03 F):=O0 (b17 F) (E0 (s0u F) N0)
def a1g (F:Nat):G0 en (Z0A F):=O0 (b1w F) (E0 (a1z F) (E0 (b1B F) (E0 (c1a F) N0)))
def a1t (F:Nat):G0 en (Z0I F):=O0 (b1D F) (E0 (a1g F) N0)
def a1q (F:Nat):G0 en (Z0J F):=O0 (b1y F) (E0 (Q0l F) (E0 (R0I F) (E0 (a1g F) (E0 (a1z F) N0))))
def a1j (F:Nat):G0 en (Z0G F):=O0 (a13 F) N0
def b1U (F:Nat):G0 en (Z0N F):=O0 (b1C F) (E0 (Y0d F) (E0 (Y01 F) (E0 (Z0d F) (E0 (Y0D F) (E0 (a1t F) (E0 (a1q F) (E0 (a1j F) N0)))))))
def b1k (F:Nat):G0 en (Z0T F):=O0 (b1b F) (E0 (W0n F) N0)
def b1A (F:Nat):G0 en (Z09 F):=O0 (b1h F) (E0 (T0F F) N0)
def a19 (F:Nat):G0 en (Z00 F):=O0 (a1W F) (E0 (S0i F) N0)
def b1m (F:Nat):G0 en (Z08 F):=O0 (a1H F) (E0 (Y01 F) (E0 (a1t F) (E0 (a1q F) (E0 (a1j F) (E0 (b1T F) (E0 (a14 F) (E0 (a19 F) N0)))))))
def b16 (F:Nat):G0 en (a1e F):=O0 (a1Q F) (E0 (M0f F) (E0 (b1P F) (E0 (E0f F) (E0 (Z0f F) (E0 (Y0a F) (E0 (Y0K F) (E0 (b1U F) (E0 (b1k F) (E0 (U0e F) (E0 (b1A F) (E0 (b1m F) N0)))))))))))
