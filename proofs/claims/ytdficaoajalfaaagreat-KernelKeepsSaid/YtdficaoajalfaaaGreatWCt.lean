/- Each contract holds. Its conditions: none. -/
import Derived.Test.YtdficaoajalfaaaGreatWG22
import Derived.Test.YtdficaoajalfaaaGreatWG23
import Derived.Test.YtdficaoajalfaaaGreatWG24
import Derived.Test.YtdficaoajalfaaaGreatWX16
import Derived.Test.YtdficaoajalfaaaGreatWX17
import Derived.Test.YtdficaoajalfaaaGreatWG32
import Derived.Test.YtdficaoajalfaaaGreatWJn
import Derived.Test.YtdficaoajalfaaaGreatWG28
set_option linter.all false
set_option maxRecDepth 100000
namespace Go.Proofs.YtdficaoajalfaaaGreat
open Go.V Go.RowKit Go.X
theorem G1:∀ c∈([]:List (Sm en.D)),T0 en c:=fun _ h=>absurd h List.not_mem_nil
theorem J0 {c:Sm en.D} {r:List (Sm en.D)} (h:T0 en c) (hr:∀ c∈r,T0 en c):∀ d∈c :: r,T0 en d:=List.forall_mem_cons.2 ⟨h,hr⟩
theorem F1 {C:P4 en} {c:Sm en.D} (hm:∀ x,D1 en C c.f c.ins c.res c.back x=c.m x) (hs:∀ d∈C.sm,T0 en d):T0 en c:=u09 f0q (C:=C) (v0s f0q hs) fun x y h=>(hm x).trans h
theorem y0u (F:Nat):T0 en (o02 F):=F1 (G02 F) G1
theorem z08 (F:Nat):T0 en (m09 F):=F1 (H07 F) G1
theorem C0R (F:Nat):T0 en (m05 F):=F1 (F0A F) G1
theorem o0k (F:Nat):T0 en (f0R F):=F1 (G0K F) (J0 (y0u F) (J0 (z08 F) (J0 (C0R F) G1)))
theorem c0O (F:Nat):T0 en (a01 F):=F1 (x0j F) (J0 (o0k F) G1)
theorem h0y (F:Nat):T0 en (e0Q F):=F1 (x0N F) (J0 (c0O F) G1)
theorem u0S (F:Nat):T0 en (k0Z F):=F1 (z0r F) (J0 (o0k F) G1)
theorem w0O (F:Nat):T0 en (o0n F):=F1 (D0v F) (J0 (u0S F) G1)
theorem u0D (F:Nat):T0 en (j0U F):=F1 (D08 F) (J0 (c0O F) (J0 (w0O F) G1))
theorem p05 (F:Nat):T0 en (h0Q F):=F1 (y0H F) (J0 (c0O F) G1)
theorem s0z (F:Nat):∀ n,T0 en (j03 F n)
 |0=>fun w S us pl x y h=>by cases h
 |n+1=>F1 (B0k F n) (J0 (s0z F n) G1)
theorem p0B (F:Nat):T0 en (h0H F):=F1 (B0G F) (J0 (p05 F) (J0 (s0z F F) G1))
theorem p0d (F:Nat):T0 en (f0y F):=F1 (H0y F) (J0 (c0O F) G1)
theorem s03 (F:Nat):T0 en (i05 F):=F1 (E0n F) (J0 (p0d F) G1)
theorem I0q (F:Nat):T0 en (o0E F):=F1 (A0i F) (J0 (c0O F) (J0 (h0y F) G1))
theorem v0N (F:Nat):T0 en (k0s F):=F1 (C0e F) (J0 (c0O F) (J0 (p05 F) (J0 (s03 F) (J0 (p0d F) (J0 (I0q F) G1)))))
theorem s0m (F:Nat):T0 en (j0D F):=F1 (y0s F) (J0 (h0y F) (J0 (v0N F) G1))
theorem u0J (F:Nat):T0 en (k0K F):=F1 (y0I F) G1
theorem p0I (F:Nat):∀ n,T0 en (i0w F n)
 |0=>fun w S us pl x y h=>by cases h
 |n+1=>F1 (I0t F n) (J0 (p0B F) (J0 (p0I F n) (J0 (u0J F) G1)))
theorem D0S (F:Nat):T0 en (m0j F):=F1 (H0a F) (J0 (p0I F F) G1)
theorem w0v (F:Nat):T0 en (l02 F):=F1 (z0P F) (J0 (p0B F) (J0 (D0S F) (J0 (u0J F) G1)))
theorem r0h (F:Nat):T0 en (j0y F):=F1 (z0v F) (J0 (p0B F) (J0 (s0m F) (J0 (w0v F) G1)))
theorem A0b (F:Nat):T0 en (o0d F):=F1 (y0a F) (J0 (u0S F) G1)
theorem s0Z (F:Nat):T0 en (l0q F):=F1 (D0Y F) (J0 (c0O F) (J0 (A0b F) G1))
theorem v0J (F:Nat):T0 en (k01 F):=F1 (F02 F) G1
theorem E0S (F:Nat):T0 en (p0K F):=F1 (D05 F) (J0 (v0N F) (J0 (v0J F) (J0 (p0I F F) G1)))
theorem F0H (F:Nat):T0 en (s0x F):=A04 (E:=en) (i:=3) (key:=fun x:B0=>x.To) Go.Proofs.Tryz.C0w rfl Go.Proofs.Tryz.A0j Go.Proofs.Tryz.x0P Go.Proofs.Tryz.H0t Go.Proofs.Tryz.H0X (fun H S cs x h=>by
 obtain ⟨c1,c2,rfl,h1,c3,c4,rfl,h2,c5,c6,rfl,⟨A,c,rfl,_⟩,rfl⟩:=(n0I 3 _ _ _ _).1 h;have h1:c1=[_]:=h1;have h2:c3=[_]:=h2;subst h1;subst h2;exact ⟨_,_,rfl⟩) (by kernel_rfl)
theorem I0g (F:Nat):T0 en (p0v F):=F1 (B07 F) (J0 (s0m F) (J0 (w0v F) (J0 (v0J F) (J0 (F0H F) G1))))
theorem z04 (F:Nat):T0 en (w0i F):=z0i fun w S hS A c v k hk hsl=>Wr.C0Y 2000 hS hsl (Wr.F0q hk (by omega))
theorem E0w (F:Nat):T0 en (m04 F):=F1 (G08 F) (J0 (z04 F) G1)
theorem C0x (F:Nat):T0 en (p0Z F):=F1 (H0k F) G1
theorem t0r (F:Nat):T0 en (j0Y F):=F1 (C0M F) (J0 (C0x F) G1)
theorem i0R (F:Nat):T0 en (e06 F):=F1 (A0m F) (J0 (t0r F) G1)
theorem u0h (F:Nat):T0 en (j0p F):=F1 (G0o F) G1
theorem A0w (F:Nat):T0 en (m0Y F):=F1 (z0h F) (J0 (i0R F) (J0 (u0h F) G1))
theorem z0T (F:Nat):T0 en (n0K F):=F1 (G0k F) G1
theorem n0Q (F:Nat):T0 en (i0p F):=F1 (F0R F) G1
theorem q0X (F:Nat):T0 en (k0X F):=F1 (G0b F) G1
theorem s0P (F:Nat):T0 en (l0D F):=F1 (x0a F) (J0 (q0X F) G1)
theorem z0B (F:Nat):T0 en (o0A F):=F1 (E02 F) (J0 (i0R F) (J0 (n0Q F) (J0 (s0P F) G1)))
theorem D0c (F:Nat):T0 en (j0G F):=u09 f0q (C:=u08 F) (v0s f0q (fun _ h=>absurd h List.not_mem_nil)) fun (x:List Int) y h=>(show D1 en (u08 F) 75 [.d (.list (.int .i64))] (.own 3 (.int .i64)) [] x=(if List.isEmpty (α:=Int) x then same (some []) (if I0 8 ([]:List Int) x then some ([]++x) else none) else if I0 8 ([]:List Int) x then some ([]++x) else none) by kernel_rfl).trans (E07 h)
theorem s0G (F:Nat):T0 en (j0W F):=A0t F (D0c F)
theorem H0F (F:Nat):T0 en (q0p F):=B0u F (p0d F) (o0k F)
theorem t0d (F:Nat):∀ n,T0 en (l0e F n)
 |0=>fun w S us pl x y h=>by cases h
 |n+1=>F1 (G07 F n) (J0 (h0y F) (J0 (t0d F n) (J0 (H0F F) (J0 (s03 F) G1))))
theorem B0d (F:Nat):T0 en (m0X F):=F1 (D0X F) (J0 (i0R F) (J0 (n0Q F) (J0 (s0P F) (J0 (u0h F) (J0 (t0d F F) (J0 (q0X F) G1))))))
theorem H0N (F:Nat):T0 en (o0X F):=F1 (y0d F) (J0 (i0R F) (J0 (n0Q F) G1))
theorem C0L (F:Nat):T0 en (n0n F):=F1 (E05 F) G1
theorem v00 (F:Nat):T0 en (l03 F):=F1 (D0x F) (J0 (C0L F) G1)
theorem c0Q (F:Nat):T0 en (b0t F):=F1 (y0S F) (J0 (v00 F) G1)
theorem i0G (F:Nat):T0 en (d05 F):=F1 (I0y F) (J0 (c0Q F) G1)
theorem t0V (F:Nat):T0 en (l0n F):=F1 (y0O F) (J0 (v00 F) G1)
theorem u0r (F:Nat):T0 en (k0L F):=F1 (D0p F) (J0 (t0V F) G1)
theorem y0N (F:Nat):T0 en (p0V F):=F1 (x0m F) (J0 (u0r F) G1)
theorem u0q (F:Nat):T0 en (i0Q F):=F1 (H0I F) (J0 (c0Q F) (J0 (y0N F) G1))
theorem k0u (F:Nat):T0 en (e08 F):=F1 (C0f F) G1
theorem s0u (F:Nat):T0 en (j0a F):=F1 (G0I F) G1
theorem s0f (F:Nat):T0 en (l0X F):=F1 (A0n F) G1
theorem q0B (F:Nat):T0 en (k0I F):=F1 (B0b F) (J0 (c0O F) (J0 (s0f F) (J0 (p05 F) G1)))
theorem E0v (F:Nat):T0 en (q0j F):=F1 (D0j F) G1
theorem G04 (F:Nat):T0 en (o0s F):=F1 (x0K F) G1
theorem j0e (F:Nat):T0 en (f0U F):=F1 (B0w F) (J0 (c0O F) (J0 (E0v F) (J0 (h0y F) (J0 (G04 F) (J0 (u0D F) (J0 (t0r F) G1))))))
theorem q02 (F:Nat):T0 en (j0z F):=F1 (G0g F) (J0 (r0h F) (J0 (H0N F) G1))
theorem s0B (F:Nat):T0 en (l0I F):=F1 (I0u F) (J0 (u0D F) (J0 (E0w F) G1))
theorem s0d (F:Nat):T0 en (k0v F):=F1 (C02 F) (J0 (j0e F) (J0 (s0G F) (J0 (q02 F) (J0 (r0h F) (J0 (s0Z F) (J0 (s0B F) G1))))))
theorem x0A (F:Nat):T0 en (o0j F):=F1 (H0L F) (J0 (s0B F) (J0 (E0S F) (J0 (I0g F) (J0 (A0w F) G1))))
theorem D0w (F:Nat):T0 en (p0g F):=F1 (C0p F) G1
theorem q0D (F:Nat):T0 en (j0N F):=F1 (E0x F) G1
theorem E0A (F:Nat):T0 en (o0N F):=x0B F
theorem B0v (F:Nat):T0 en (o03 F):=F1 (B0T F) G1
theorem z0O (F:Nat):T0 en (o0P F):=F1 (I0F F) (J0 (q0D F) (J0 (B0v F) G1))
theorem H0O (F:Nat):T0 en (n09 F):=F1 (B0X F) (J0 (q02 F) (J0 (q0D F) (J0 (E0A F) (J0 (z0O F) G1))))
theorem F0S (F:Nat):T0 en (n0j F):=F1 (G0P F) G1
theorem v0l (F:Nat):T0 en (j09 F):=F1 (D02 F) (J0 (j0e F) (J0 (z0B F) (J0 (s0G F) (J0 (B0d F) (J0 (s0f F) (J0 (h0y F) (J0 (s0Z F) (J0 (x0A F) (J0 (z0T F) (J0 (D0w F) (J0 (H0O F) (J0 (F0S F) G1))))))))))))
theorem w0u (F:Nat):T0 en (j07 F):=F1 (z0L F) G1
theorem B0L (F:Nat):T0 en (m0u F):=F1 (B0U F) G1
theorem r04 (F:Nat):T0 en (i0X F):=F1 (B0a F) G1
theorem G0h (F:Nat):T0 en (q0b F):=F1 (I0l F) G1
theorem D0C (F:Nat):T0 en (m0A F):=F1 (G0S F) (J0 (r04 F) G1)
theorem C0H (F:Nat):T0 en (n04 F):=F1 (F0e F) (J0 (G0h F) (J0 (D0C F) (J0 (r04 F) G1)))
theorem x0y (F:Nat):T0 en (p0W F):=F1 (D0M F) (J0 (q0B F) (J0 (s0u F) (J0 (j0e F) (J0 (s0d F) (J0 (v0l F) (J0 (w0u F) (J0 (B0L F) (J0 (C0H F) G1))))))))
theorem J0a (F:Nat):T0 en (s0w F):=F1 (I08 F) G1
theorem I06 (F:Nat):T0 en (q0t F):=F1 (I05 F) (J0 (c0Q F) (J0 (k0u F) (J0 (i0G F) (J0 (u0q F) G1))))
theorem I01 (F:Nat):T0 en (u0e F):=F1 (J0s F) (J0 (x0y F) (J0 (j0e F) (J0 (v0l F) (J0 (w0u F) (J0 (J0a F) (J0 (I06 F) G1))))))
