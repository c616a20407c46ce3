/- Each contract holds. Its conditions: none. -/
import Derived.Test.YtmhooikfkhjijaaGreatTG22
import Derived.Test.YtmhooikfkhjijaaGreatTG23
import Derived.Test.YtmhooikfkhjijaaGreatTG24
import Derived.Test.YtmhooikfkhjijaaGreatTX16
import Derived.Test.YtmhooikfkhjijaaGreatTX17
import Derived.Test.YtmhooikfkhjijaaGreatTG32
import Derived.Test.YtmhooikfkhjijaaGreatTJn
import Derived.Test.YtmhooikfkhjijaaGreatTG26
set_option linter.all false
set_option maxRecDepth 100000
namespace Go.Proofs.YtmhooikfkhjijaaGreat
open Go.V Go.RowKit Go.X
theorem N0:∀ c∈([]:List (Sm en.D)),G0 en c:=fun _ h=>absurd h List.not_mem_nil
theorem E0 {c:Sm en.D} {r:List (Sm en.D)} (h:G0 en c) (hr:∀ c∈r,G0 en c):∀ d∈c :: r,G0 en d:=List.forall_mem_cons.2 ⟨h,hr⟩
theorem O0 {C:X1 en} {c:Sm en.D} (hm:∀ x,L0 en C c.f c.ins c.res c.back x=c.m x) (hs:∀ d∈C.sm,G0 en d):G0 en c:=n0t K9 (C:=C) (k08 K9 hs) fun x y h=>(hm x).trans h
theorem M0f (F:Nat):G0 en (G08 F):=O0 (V0c F) N0
theorem x0n (F:Nat):G0 en (j0m F):=O0 (x0s F) N0
theorem y0e (F:Nat):G0 en (g0I F):=O0 (s0T F) N0
theorem q0g (F:Nat):G0 en (h0t F):=O0 (x06 F) N0
theorem h06 (F:Nat):G0 en (b0B F):=O0 (z0O F) (E0 (x0n F) (E0 (y0e F) (E0 (q0g F) N0)))
theorem H8 (F:Nat):G0 en (A7 F):=O0 (r00 F) (E0 (h06 F) N0)
theorem n0h (F:Nat):G0 en (e01 F):=O0 (s0z F) (E0 (h06 F) N0)
theorem u0o (F:Nat):G0 en (j0B F):=O0 (u0e F) (E0 (n0h F) N0)
theorem i0t (F:Nat):G0 en (c05 F):=O0 (r0T F) (E0 (H8 F) (E0 (u0o F) N0))
theorem d0g (F:Nat):G0 en (b0f F):=O0 (v0z F) (E0 (H8 F) N0)
theorem I01 (F:Nat):G0 en (F04 F):=O0 (Q0r F) (E0 (i0t F) (E0 (d0g F) N0))
theorem Q0p (F:Nat):G0 en (M0s F):=n0t K9 (C:=M0X F) (k08 K9 (fun _ h=>absurd h List.not_mem_nil)) fun (x:List U0) y h=>(show L0 en (M0X F) 142 [.d (.list (.st 0))] (.own 145 (.st 0)) [] x=(if List.isEmpty (α:=U0) x then same (some []) (if C1 64 ([]:List U0) x then some ([]++x) else none) else if C1 64 ([]:List U0) x then some ([]++x) else none) by kernel_rfl).trans (q0X h)
theorem t0d (F:Nat):G0 en (k0b F):=O0 (x0N F) (E0 (n0h F) N0)
theorem o0l (F:Nat):G0 en (f01 F):=O0 (z0f F) (E0 (H8 F) (E0 (t0d F) N0))
theorem R0M (F:Nat):G0 en (L0b F):=O0 (R0W F) (E0 (o0l F) N0)
theorem i0Q (F:Nat):G0 en (b0Q F):=O0 (s0k F) (E0 (H8 F) N0)
theorem p0o (F:Nat):G0 en (f0j F):=O0 (q0t F) (E0 (i0Q F) N0)
theorem t0u (F:Nat):G0 en (g0Y F):=O0 (z0m F) (E0 (d0g F) (E0 (H8 F) N0))
theorem k0p (F:Nat):G0 en (c0y F):=O0 (y0q F) (E0 (H8 F) N0)
theorem l0q (F:Nat):G0 en (f08 F):=O0 (u0w F) (E0 (H8 F) (E0 (p0o F) (E0 (i0Q F) (E0 (t0u F) (E0 (k0p F) N0)))))
theorem l0W (F:Nat):G0 en (g0u F):=O0 (y0w F) N0
theorem o0H (F:Nat):∀ n,G0 en (e0o F n)
 |0=>fun w S us pl x y h=>by cases h
 |n+1=>O0 (p0G F n) (E0 (o0H F n) N0)
theorem i0R (F:Nat):G0 en (c06 F):=O0 (t02 F) (E0 (k0p F) (E0 (o0H F F) N0))
theorem n0y (F:Nat):G0 en (e0R F):=O0 (w0i F) N0
theorem k0f (F:Nat):∀ n,G0 en (d0a F n)
 |0=>fun w S us pl x y h=>by cases h
 |n+1=>O0 (s0a F n) (E0 (k0f F n) (E0 (i0R F) (E0 (n0y F) N0)))
theorem u0v (F:Nat):G0 en (j0n F):=O0 (u0H F) (E0 (l0q F) (E0 (l0W F) (E0 (k0f F F) N0)))
theorem p0k (F:Nat):G0 en (f02 F):=O0 (x0i F) (E0 (d0g F) (E0 (l0q F) N0))
theorem t0p (F:Nat):G0 en (j0Z F):=O0 (r0y F) (E0 (k0f F F) N0)
theorem o03 (F:Nat):G0 en (e0C F):=O0 (r04 F) (E0 (i0R F) (E0 (n0y F) (E0 (t0p F) N0)))
theorem r0X (F:Nat):G0 en (m0t F):=x05 (E:=en) (i:=10) (key:=fun x:E1=>x.To) Go.Proofs.Tryz.u0q rfl Go.Proofs.Tryz.r0Q Go.Proofs.Tryz.y0R Go.Proofs.Tryz.p04 Go.Proofs.Tryz.z0K (fun H S cs x h=>by
 obtain ⟨c1,c2,rfl,h1,c3,c4,rfl,h2,c5,c6,rfl,⟨A,c,rfl,_⟩,rfl⟩:=(j0M 10 _ _ _ _).1 h;have h1:c1=[_]:=h1;have h2:c3=[_]:=h2;subst h1;subst h2;exact ⟨_,_,rfl⟩) (by kernel_rfl)
theorem v0n (F:Nat):G0 en (g0U F):=O0 (t0M F) (E0 (l0W F) (E0 (p0k F) (E0 (o03 F) (E0 (r0X F) N0))))
theorem n0r (F:Nat):G0 en (f06 F):=O0 (q07 F) (E0 (p0k F) (E0 (o03 F) (E0 (i0R F) N0)))
theorem P0h (F:Nat):G0 en (J0O F):=O0 (S0F F) (E0 (i0t F) (E0 (d0g F) (E0 (Q0p F) (E0 (R0M F) (E0 (u0v F) (E0 (v0n F) (E0 (n0r F) (E0 (o0l F) N0))))))))
theorem R0U (F:Nat):G0 en (J0N F):=O0 (S0C F) (E0 (H8 F) (E0 (P0h F) N0))
theorem L0e (F:Nat):G0 en (F0X F):=n0t K9 (C:=N0L F) (k08 K9 (fun _ h=>absurd h List.not_mem_nil)) fun (x:List Int) y h=>(show L0 en (N0L F) 130 [.d (.list (.int .i64))] (.own 3 (.int .i64)) [] x=(if List.isEmpty (α:=Int) x then same (some []) (if C1 8 ([]:List Int) x then some ([]++x) else none) else if C1 8 ([]:List Int) x then some ([]++x) else none) by kernel_rfl).trans (q0X h)
theorem m0f (F:Nat):G0 en (e0k F):=y05 F (L0e F)
theorem s0N (F:Nat):G0 en (o0M F):=r0e fun w S hS A c v k hk hsl=>Wr.T0J 2000 hS hsl (Wr.z0H hk (by omega))
theorem t0J (F:Nat):G0 en (k0o F):=O0 (v0k F) (E0 (s0N F) N0)
theorem N0f (F:Nat):G0 en (J0s F):=O0 (S04 F) (E0 (t0J F) N0)
theorem R0E (F:Nat):G0 en (M0h F):=O0 (P09 F) (E0 (m0f F) (E0 (N0f F) N0))
theorem P0l (F:Nat):G0 en (L0v F):=O0 (U05 F) (E0 (R0U F) (E0 (R0E F) N0))
theorem S02 (F:Nat):G0 en (N0s F):=n0t K9 (C:=M0S F) (k08 K9 (fun _ h=>absurd h List.not_mem_nil)) fun (x:List (List Int)) y h=>(show L0 en (M0S F) 150 [.d (.list (.list (.int .i64)))] (.own 23 (.list (.int .i64))) [] x=(if List.isEmpty (α:=(List Int)) x then same (some []) (if C1 24 ([]:List (List Int)) x then some ([]++x) else none) else if C1 24 ([]:List (List Int)) x then some ([]++x) else none) by kernel_rfl).trans (q0X h)
theorem u0i (F:Nat):G0 en (k0j F):=O0 (q0r F) N0
theorem k04 (F:Nat):G0 en (e0y F):=O0 (r0G F) (E0 (u0i F) N0)
theorem e0D (F:Nat):G0 en (b0W F):=O0 (t0B F) (E0 (k04 F) N0)
theorem n0i (F:Nat):G0 en (g0g F):=O0 (y07 F) N0
theorem t0w (F:Nat):G0 en (j0U F):=O0 (t0m F) (E0 (e0D F) (E0 (n0i F) N0))
theorem W0d (F:Nat):G0 en (L0R F):=O0 (W0Y F) (E0 (N0f F) (E0 (S02 F) (E0 (t0w F) N0)))
theorem k06 (F:Nat):G0 en (a0l F):=O0 (q0Z F) N0
theorem R0Z (F:Nat):G0 en (J0I F):=O0 (S0u F) (E0 (k06 F) N0)
theorem i0H (F:Nat):G0 en (c0W F):=O0 (q0P F) N0
theorem m0P (F:Nat):G0 en (e02 F):=O0 (q0b F) N0
theorem m0w (F:Nat):G0 en (f00 F):=O0 (v0g F) (E0 (m0P F) N0)
theorem v0H (F:Nat):G0 en (j0t F):=O0 (p0S F) (E0 (e0D F) (E0 (i0H F) (E0 (m0w F) N0)))
theorem r0p (F:Nat):G0 en (k0t F):=w0l F (i0Q F) (h06 F)
theorem p0b (F:Nat):∀ n,G0 en (f04 F n)
 |0=>fun w S us pl x y h=>by cases h
 |n+1=>O0 (q0O F n) (E0 (d0g F) (E0 (p0b F n) (E0 (r0p F) (E0 (p0o F) N0))))
theorem v0p (F:Nat):G0 en (i0p F):=O0 (p0O F) (E0 (e0D F) (E0 (i0H F) (E0 (m0w F) (E0 (n0i F) (E0 (p0b F F) (E0 (m0P F) N0))))))
theorem T0d (F:Nat):G0 en (K0p F):=O0 (Q0d F) (E0 (m0f F) (E0 (W0d F) (E0 (R0Z F) (E0 (v0H F) (E0 (v0p F) N0)))))
theorem V09 (F:Nat):G0 en (L0J F):=O0 (P0F F) N0
theorem r0S (F:Nat):G0 en (j0T F):=O0 (q04 F) (E0 (e0D F) (E0 (i0H F) N0))
theorem P0D (F:Nat):G0 en (L01 F):=O0 (V0m F) (E0 (m0f F) (E0 (r0S F) N0))
theorem T09 (F:Nat):G0 en (J0X F):=O0 (V0V F) N0
theorem Q0t (F:Nat):G0 en (K0Q F):=O0 (P0f F) N0
theorem R0V (F:Nat):G0 en (L0a F):=O0 (S0Z F) (E0 (T09 F) (E0 (Q0t F) N0))
theorem W0k (F:Nat):G0 en (M0p F):=O0 (X0P F) (E0 (T0d F) (E0 (V09 F) (E0 (P0D F) (E0 (R0V F) N0))))
theorem T0B (F:Nat):G0 en (L0t F):=O0 (U0U F) (E0 (L0e F) N0)
theorem P0K (F:Nat):G0 en (M0n F):=O0 (R0z F) (E0 (T0B F) N0)
theorem T07 (F:Nat):G0 en (L0g F):=O0 (T0r F) (E0 (P0K F) N0)
theorem U0r (F:Nat):G0 en (J0V F):=O0 (S0N F) N0
theorem L0F (F:Nat):G0 en (H0N F):=O0 (W0A F) (E0 (I01 F) (E0 (i0t F) (E0 (P0l F) (E0 (W0k F) (E0 (T07 F) (E0 (U0r F) N0))))))
theorem W0z (F:Nat):G0 en (K0c F):=O0 (W08 F) N0
theorem K0s (F:Nat):G0 en (H0m F):=O0 (V0U F) (E0 (I01 F) (E0 (L0F F) (E0 (W0z F) N0)))
theorem Q0c (F:Nat):G0 en (J0K F):=O0 (R0K F) N0
theorem N09 (F:Nat):G0 en (H08 F):=O0 (X0y F) (E0 (Q0c F) N0)
theorem E0f (F:Nat):G0 en (D0J F):=O0 (Q0u F) (E0 (N09 F) N0)
theorem O0F (F:Nat):G0 en (I0z F):=O0 (Q0K F) N0
theorem G0h (F:Nat):G0 en (E0t F):=O0 (P06 F) (E0 (E0f F) N0)
theorem O0M (F:Nat):G0 en (I09 F):=O0 (T01 F) (E0 (N09 F) N0)
theorem M0G (F:Nat):G0 en (J0w F):=O0 (S0X F) (E0 (O0M F) N0)
theorem V0Z (F:Nat):G0 en (L0x F):=O0 (W0X F) (E0 (M0G F) N0)
theorem I0y (F:Nat):G0 en (F0R F):=O0 (S0E F) (E0 (E0f F) (E0 (V0Z F) N0))
theorem O0j (F:Nat):G0 en (I08 F):=O0 (P0V F) (E0 (E0f F) (E0 (O0F F) (E0 (G0h F) (E0 (I0y F) N0))))
theorem o07 (F:Nat):G0 en (e0G F):=O0 (u0N F) N0
theorem l0U (F:Nat):G0 en (e0E F):=O0 (w0M F) (E0 (o07 F) N0)
theorem U0w (F:Nat):G0 en (L0L F):=O0 (P0Z F) N0
theorem M0y (F:Nat):G0 en (H01 F):=O0 (R0O F) (E0 (o07 F) (E0 (l0U F) (E0 (U0w F) N0)))
theorem K0I (F:Nat):G0 en (G0V F):=O0 (R0L F) (E0 (M0y F) N0)
theorem l0h (F:Nat):G0 en (e0f F):=O0 (s08 F) N0
theorem u0f (F:Nat):G0 en (j06 F):=O0 (v0U F) (E0 (l0h F) N0)
theorem W0f (F:Nat):G0 en (K0M F):=O0 (P0E F) N0
theorem U0e (F:Nat):G0 en (M0g F):=O0 (X0w F) (E0 (l0h F) (E0 (u0f F) (E0 (W0f F) N0)))
theorem N04 (F:Nat):G0 en (I0q F):=O0 (Q0y F) (E0 (U0e F) (E0 (O0F F) N0))
theorem N0t (F:Nat):G0 en (I0Z F):=O0 (X0E F) N0
theorem J0g (F:Nat):∀ n,G0 en (F0G F n)
 |0=>fun w S us pl x y h=>by cases h
 |n+1=>O0 (P0N F n) (E0 (J0g F n) N0)
theorem M0k (F:Nat):∀ n,G0 en (G0U F n)
 |0=>fun w S us pl x y h=>by cases h
 |n+1=>O0 (V0R F n) (E0 (M0k F n) (E0 (N0t F) (E0 (J0g F F) N0)))
theorem N0q (F:Nat):G0 en (I0R F):=O0 (R0w F) (E0 (E0f F) N0)
theorem K0l (F:Nat):G0 en (G0N F):=O0 (Q03 F) (E0 (E0f F) N0)
theorem W0t (F:Nat):G0 en (K0P F):=O0 (S0r F) (E0 (E0f F) (E0 (M0k F F) (E0 (N0q F) (E0 (K0l F) N0))))
theorem O0Y (F:Nat):G0 en (I0g F):=O0 (W0g F) (E0 (E0f F) N0)
theorem M0A (F:Nat):G0 en (I0N F):=O0 (T0u F) (E0 (O0Y F) N0)
theorem T0C (F:Nat):G0 en (K0q F):=O0 (X0O F) N0
theorem M0J (F:Nat):G0 en (I0V F):=O0 (R0X F) (E0 (G0h F) (E0 (M0k F F) (E0 (N0q F) (E0 (K0l F) (E0 (N0t F) (E0 (J0g F F) (E0 (O0Y F) (E0 (M0A F) (E0 (T0C F) N0)))))))))
theorem U0R (F:Nat):G0 en (L0C F):=O0 (S0L F) (E0 (G0h F) (E0 (M0J F) N0))
theorem U0y (F:Nat):G0 en (L03 F):=O0 (R0S F) (E0 (K0l F) (E0 (J0g F F) N0))
theorem O0z (F:Nat):G0 en (I0F F):=O0 (X0H F) (E0 (E0f F) (E0 (G0h F) (E0 (M0J F) (E0 (U0y F) N0))))
theorem Q0i (F:Nat):G0 en (K06 F):=O0 (V0k F) (E0 (G0h F) (E0 (W0t F) (E0 (U0R F) (E0 (O0z F) N0))))
theorem J07 (F:Nat):G0 en (H0y F):=O0 (U0k F) N0
theorem V03 (F:Nat):G0 en (L08 F):=O0 (V00 F) N0
theorem M09 (F:Nat):G0 en (H0V F):=O0 (V0w F) (E0 (I0y F) (E0 (V03 F) N0))
theorem J0P (F:Nat):G0 en (H0C F):=O0 (T0T F) (E0 (E0f F) (E0 (M0G F) N0))
theorem T03 (F:Nat):G0 en (K0f F):=O0 (P0m F) (E0 (O0z F) (E0 (J07 F) (E0 (M09 F) (E0 (J0P F) N0))))
theorem W0n (F:Nat):G0 en (L0A F):=O0 (V0T F) (E0 (Q0i F) (E0 (T03 F) N0))
theorem I04 (F:Nat):G0 en (F0O F):=O0 (V04 F) N0
theorem O0X (F:Nat):G0 en (J0t F):=O0 (W0W F) N0
theorem S05 (F:Nat):G0 en (L0D F):=O0 (R0e F) (E0 (I04 F) (E0 (O0X F) N0))
theorem T0L (F:Nat):G0 en (M0i F):=O0 (U0t F) N0
theorem Q0a (F:Nat):G0 en (J00 F):=O0 (R0y F) N0
theorem O0N (F:Nat):G0 en (J0v F):=O0 (R0H F) N0
theorem P0b (F:Nat):G0 en (I0e F):=O0 (V0W F) (E0 (O0N F) N0)
theorem P0p (F:Nat):G0 en (J0L F):=O0 (V0E F) (E0 (I04 F) (E0 (P0b F) N0))
theorem S0Q (F:Nat):G0 en (L00 F):=O0 (R0f F) (E0 (O0M F) N0)
theorem W0l (F:Nat):G0 en (J0J F):=O0 (U0M F) (E0 (G0h F) (E0 (M0A F) (E0 (S0Q F) N0)))
theorem T0w (F:Nat):G0 en (M0m F):=O0 (Q05 F) (E0 (I04 F) (E0 (O0X F) (E0 (P0b F) (E0 (W0l F) (E0 (O0N F) N0)))))
theorem S03 (F:Nat):G0 en (L0h F):=O0 (Q0T F) (E0 (I0y F) (E0 (J07 F) (E0 (M09 F) (E0 (J0P F) (E0 (S05 F) (E0 (T0L F) (E0 (Q0a F) (E0 (P0p F) (E0 (T0w F) N0)))))))))
theorem T0v (F:Nat):G0 en (K0O F):=O0 (R06 F) (E0 (I04 F) N0)
theorem S0x (F:Nat):G0 en (K0J F):=O0 (S0g F) (E0 (J07 F) (E0 (J0P F) (E0 (T0v F) N0)))
theorem R0p (F:Nat):G0 en (K0x F):=O0 (U0f F) N0
theorem Q0l (F:Nat):G0 en (L0m F):=O0 (S0H F) (E0 (S03 F) (E0 (S0x F) (E0 (R0p F) N0)))
theorem W0N (F:Nat):G0 en (L0k F):=O0 (W0w F) (E0 (O0j F) (E0 (I0y F) (E0 (W0n F) (E0 (Q0l F) N0))))
theorem Q0R (F:Nat):G0 en (M07 F):=n0t K9 (C:=M0V F) (k08 K9 (fun _ h=>absurd h List.not_mem_nil)) fun (x:List C0s) y h=>(show L0 en (M0V F) 131 [.d (.list (.st 1))] (.own 169 (.st 1)) [] x=(if List.isEmpty (α:=C0s) x then same (some []) (if C1 16 ([]:List C0s) x then some ([]++x) else none) else if C1 16 ([]:List C0s) x then some ([]++x) else none) by kernel_rfl).trans (q0X h)
theorem Q0Z (F:Nat):G0 en (L05 F):=O0 (P05 F) (E0 (L0e F) (E0 (Q0R F) N0))
theorem O0u (F:Nat):G0 en (I0h F):=O0 (T0Z F) N0
theorem S06 (F:Nat):G0 en (K0B F):=O0 (U0i F) N0
theorem O0s (F:Nat):G0 en (J0d F):=O0 (P0i F) (E0 (O0u F) (E0 (S06 F) N0))
theorem Q0S (F:Nat):G0 en (K0A F):=O0 (Q0h F) (E0 (M0y F) (E0 (Q0Z F) (E0 (O0s F) N0)))
theorem S08 (F:Nat):G0 en (K0o F):=O0 (X0D F) (E0 (O0s F) (E0 (O0u F) N0))
theorem S0i (F:Nat):G0 en (K0g F):=O0 (W0Z F) N0
theorem N0e (F:Nat):G0 en (J0p F):=O0 (R0r F) (E0 (K0I F) (E0 (Q0S F) (E0 (S08 F) (E0 (S0i F) N0))))
theorem M0C (F:Nat):G0 en (I00 F):=O0 (T0q F) N0
theorem T0F (F:Nat):G0 en (K0a F):=O0 (U0p F) (E0 (M0C F) N0)
theorem Q06 (F:Nat):G0 en (L0s F):=O0 (V0N F) N0
theorem V0n (F:Nat):G0 en (K0H F):=O0 (U0q F) (E0 (Q06 F) N0)
theorem R0I (F:Nat):G0 en (L09 F):=O0 (W0D F) (E0 (M0C F) (E0 (V0n F) N0))
theorem U00 (F:Nat):G0 en (L0G F):=O0 (W00 F) (E0 (N04 F) (E0 (T0F F) (E0 (R0I F) N0)))
theorem V0L (F:Nat):G0 en (O0q F):=O0 (U0m F) (E0 (M0f F) (E0 (K0s F) (E0 (L0F F) (E0 (W0N F) (E0 (N0e F) (E0 (U00 F) N0))))))
