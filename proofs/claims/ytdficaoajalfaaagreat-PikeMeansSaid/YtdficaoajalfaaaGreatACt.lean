/- Each contract holds. Its conditions: none. -/
import Derived.Test.YtdficaoajalfaaaGreatAG22
import Derived.Test.YtdficaoajalfaaaGreatAG23
import Derived.Test.YtdficaoajalfaaaGreatAG24
import Derived.Test.YtdficaoajalfaaaGreatAX16
import Derived.Test.YtdficaoajalfaaaGreatAX17
import Derived.Test.YtdficaoajalfaaaGreatAG32
import Derived.Test.YtdficaoajalfaaaGreatAJn
import Derived.Test.YtdficaoajalfaaaGreatAG28
set_option linter.all false
set_option maxRecDepth 100000
namespace Go.Proofs.YtdficaoajalfaaaGreat
open Go.V Go.RowKit Go.X
theorem X1:∀ c∈([]:List (Sm en.D)),C1 en c:=fun _ h=>absurd h List.not_mem_nil
theorem P0 {c:Sm en.D} {r:List (Sm en.D)} (h:C1 en c) (hr:∀ c∈r,C1 en c):∀ d∈c :: r,C1 en d:=List.forall_mem_cons.2 ⟨h,hr⟩
theorem V1 {C:D4 en} {c:Sm en.D} (hm:∀ x,O1 en C c.f c.ins c.res c.back x=c.m x) (hs:∀ d∈C.sm,C1 en d):C1 en c:=j0P b0N (C:=C) (h04 b0N hs) fun x y h=>(hm x).trans h
theorem A09 (F:Nat):C1 en (o0e F):=V1 (z0b F) X1
theorem x0q (F:Nat):C1 en (k09 F):=V1 (E0A F) X1
theorem y0R (F:Nat):C1 en (k02 F):=V1 (C0F F) X1
theorem B0q (F:Nat):C1 en (n0L F):=V1 (B0g F) X1
theorem p0c (F:Nat):C1 en (f0E F):=V1 (w0s F) (P0 (x0q F) (P0 (y0R F) (P0 (B0q F) X1)))
theorem c0X (F:Nat):C1 en (b0Q F):=V1 (y0O F) (P0 (p0c F) X1)
theorem j0N (F:Nat):C1 en (e09 F):=V1 (x08 F) (P0 (c0X F) X1)
theorem q0d (F:Nat):C1 en (j0g F):=V1 (w0H F) (P0 (p0c F) X1)
theorem v0h (F:Nat):C1 en (k06 F):=V1 (y0S F) (P0 (q0d F) X1)
theorem x0e (F:Nat):C1 en (n0N F):=V1 (y0r F) (P0 (c0X F) (P0 (v0h F) X1))
theorem u0o (F:Nat):C1 en (k0q F):=V1 (v0v F) (P0 (c0X F) X1)
theorem t0v (F:Nat):∀ n,C1 en (i07 F n)
 |0=>fun w S us pl x y h=>by cases h
 |n+1=>V1 (y0o F n) (P0 (t0v F n) X1)
theorem m0L (F:Nat):C1 en (g0L F):=V1 (B0C F) (P0 (u0o F) (P0 (t0v F F) X1))
theorem l0a (F:Nat):C1 en (f0S F):=V1 (y0Y F) (P0 (c0X F) X1)
theorem u03 (F:Nat):C1 en (j0S F):=V1 (y0W F) (P0 (l0a F) X1)
theorem z0D (F:Nat):C1 en (l0E F):=V1 (z0t F) (P0 (c0X F) (P0 (j0N F) X1))
theorem u0N (F:Nat):C1 en (j0L F):=V1 (B0K F) (P0 (c0X F) (P0 (u0o F) (P0 (u03 F) (P0 (l0a F) (P0 (z0D F) X1)))))
theorem r0K (F:Nat):C1 en (j0C F):=V1 (E0u F) (P0 (j0N F) (P0 (u0N F) X1))
theorem s0x (F:Nat):C1 en (k0G F):=V1 (C07 F) X1
theorem o0X (F:Nat):∀ n,C1 en (g0p F n)
 |0=>fun w S us pl x y h=>by cases h
 |n+1=>V1 (B06 F n) (P0 (m0L F) (P0 (o0X F n) (P0 (s0x F) X1)))
theorem E0B (F:Nat):C1 en (m0g F):=V1 (v0o F) (P0 (o0X F F) X1)
theorem q0L (F:Nat):C1 en (j0Y F):=V1 (B0p F) (P0 (m0L F) (P0 (E0B F) (P0 (s0x F) X1)))
theorem E0D (F:Nat):C1 en (o0N F):=V1 (F0e F) (P0 (m0L F) (P0 (r0K F) (P0 (q0L F) X1)))
theorem x0f (F:Nat):C1 en (o06 F):=V1 (z07 F) (P0 (q0d F) X1)
theorem u0Q (F:Nat):C1 en (i0E F):=V1 (y0M F) (P0 (c0X F) (P0 (x0f F) X1))
theorem D0y (F:Nat):C1 en (s0l F):=j0P b0N (C:=u0A F) (h04 b0N (fun _ h=>absurd h List.not_mem_nil)) fun (x:List C0) y h=>(show O1 en (u0A F) 126 [.d (.list (.st 0))] (.own 147 (.st 0)) [] x=(if List.isEmpty (α:=C0) x then same (some []) (if I0 64 ([]:List C0) x then some ([]++x) else none) else if I0 64 ([]:List C0) x then some ([]++x) else none) by kernel_rfl).trans (l0C h)
theorem z0B (F:Nat):C1 en (o0W F):=V1 (v0K F) (P0 (u0Q F) X1)
theorem t0u (F:Nat):C1 en (i0z F):=V1 (z0f F) X1
theorem A0z (F:Nat):C1 en (o0J F):=V1 (A0O F) (P0 (u0N F) (P0 (t0u F) (P0 (o0X F F) X1)))
theorem D0b (F:Nat):C1 en (q0U F):=A0v (E:=en) (i:=3) (key:=fun x:y0=>x.To) Go.Proofs.Tryz.y0q rfl Go.Proofs.Tryz.A0l Go.Proofs.Tryz.D0m Go.Proofs.Tryz.z0g Go.Proofs.Tryz.A05 (fun H S cs x h=>by
 obtain ⟨c1,c2,rfl,h1,c3,c4,rfl,h2,c5,c6,rfl,⟨A,c,rfl,_⟩,rfl⟩:=(o0j 3 _ _ _ _).1 h;have h1:c1=[_]:=h1;have h2:c3=[_]:=h2;subst h1;subst h2;exact ⟨_,_,rfl⟩) (by kernel_rfl)
theorem w0a (F:Nat):C1 en (p0d F):=V1 (A0I F) (P0 (r0K F) (P0 (q0L F) (P0 (t0u F) (P0 (D0b F) X1))))
theorem B0Z (F:Nat):C1 en (m0h F):=V1 (D0j F) (P0 (j0N F) (P0 (x0e F) (P0 (E0D F) (P0 (u0Q F) (P0 (D0y F) (P0 (z0B F) (P0 (A0z F) (P0 (w0a F) X1))))))))
theorem p0r (F:Nat):C1 en (j0t F):=V1 (z0j F) (P0 (c0X F) (P0 (B0Z F) X1))
theorem A0k (F:Nat):C1 en (r0U F):=j0P b0N (C:=s0p F) (h04 b0N (fun _ h=>absurd h List.not_mem_nil)) fun (x:List (List Int)) y h=>(show O1 en (s0p F) 130 [.d (.list (.list (.int .i64)))] (.own 47 (.list (.int .i64))) [] x=(if List.isEmpty (α:=(List Int)) x then same (some []) (if I0 24 ([]:List (List Int)) x then some ([]++x) else none) else if I0 24 ([]:List (List Int)) x then some ([]++x) else none) by kernel_rfl).trans (l0C h)
theorem z0x (F:Nat):C1 en (q0P F):=B0s fun w S hS A c v k hk hsl=>Wr.v04 2000 hS hsl (Wr.w0x hk (by omega))
theorem B0j (F:Nat):C1 en (m0R F):=V1 (A0D F) (P0 (z0x F) X1)
theorem u0L (F:Nat):C1 en (i02 F):=V1 (C0k F) (P0 (B0j F) X1)
theorem B02 (F:Nat):C1 en (n0E F):=V1 (z0r F) X1
theorem w08 (F:Nat):C1 en (m01 F):=V1 (A0m F) (P0 (B02 F) X1)
theorem k0k (F:Nat):C1 en (f07 F):=V1 (v0X F) (P0 (w08 F) X1)
theorem u02 (F:Nat):C1 en (i0A F):=V1 (D04 F) X1
theorem y01 (F:Nat):C1 en (o0L F):=V1 (C0l F) (P0 (k0k F) (P0 (u02 F) X1))
theorem v0Z (F:Nat):C1 en (k00 F):=V1 (C0z F) (P0 (A0k F) (P0 (u0L F) (P0 (y01 F) X1)))
theorem z0u (F:Nat):C1 en (l0l F):=V1 (y0T F) X1
theorem C0Y (F:Nat):C1 en (n0v F):=V1 (B0R F) (P0 (z0u F) X1)
theorem m0B (F:Nat):C1 en (g0R F):=V1 (C0C F) X1
theorem s0s (F:Nat):C1 en (h03 F):=V1 (F0n F) X1
theorem s02 (F:Nat):C1 en (j0V F):=V1 (y0U F) (P0 (s0s F) X1)
theorem B03 (F:Nat):C1 en (n08 F):=V1 (D0B F) (P0 (k0k F) (P0 (m0B F) (P0 (s02 F) X1)))
theorem E0g (F:Nat):C1 en (i0D F):=j0P b0N (C:=u0J F) (h04 b0N (fun _ h=>absurd h List.not_mem_nil)) fun (x:List Int) y h=>(show O1 en (u0J F) 75 [.d (.list (.int .i64))] (.own 3 (.int .i64)) [] x=(if List.isEmpty (α:=Int) x then same (some []) (if I0 8 ([]:List Int) x then some ([]++x) else none) else if I0 8 ([]:List Int) x then some ([]++x) else none) by kernel_rfl).trans (l0C h)
theorem l0D (F:Nat):C1 en (g0T F):=C0D F (E0g F)
theorem w0j (F:Nat):C1 en (k0R F):=E0t F (l0a F) (p0c F)
theorem s05 (F:Nat):∀ n,C1 en (k0C F n)
 |0=>fun w S us pl x y h=>by cases h
 |n+1=>V1 (x0v F n) (P0 (j0N F) (P0 (s05 F n) (P0 (w0j F) (P0 (u03 F) X1))))
theorem v0P (F:Nat):C1 en (m0y F):=V1 (w0P F) (P0 (k0k F) (P0 (m0B F) (P0 (s02 F) (P0 (u02 F) (P0 (s05 F F) (P0 (s0s F) X1))))))
theorem A02 (F:Nat):C1 en (m0c F):=V1 (v0f F) (P0 (v0Z F) (P0 (C0Y F) (P0 (B03 F) (P0 (l0D F) (P0 (v0P F) X1)))))
theorem x03 (F:Nat):C1 en (l0c F):=V1 (z0c F) (P0 (k0k F) (P0 (m0B F) X1))
theorem C0Z (F:Nat):C1 en (o07 F):=V1 (z0l F) (P0 (l0D F) (P0 (x03 F) X1))
theorem D0W (F:Nat):C1 en (o0D F):=V1 (y0n F) (P0 (l0D F) (P0 (u0L F) X1))
theorem B0u (F:Nat):C1 en (o0R F):=V1 (A0x F) X1
theorem p0z (F:Nat):C1 en (k0y F):=V1 (E0W F) (P0 (p0r F) (P0 (A02 F) (P0 (C0Z F) (P0 (D0W F) (P0 (B0u F) X1)))))
theorem t0H (F:Nat):C1 en (j0z F):=V1 (y0D F) (P0 (p0z F) X1)
theorem u0D (F:Nat):C1 en (h09 F):=V1 (D0f F) (P0 (p0z F) X1)
theorem r02 (F:Nat):C1 en (k0z F):=V1 (D0H F) X1
theorem w0F (F:Nat):C1 en (l0L F):=V1 (x0D F) X1
theorem z00 (F:Nat):C1 en (o0K F):=V1 (E0J F) (P0 (t0H F) (P0 (u0D F) (P0 (r02 F) (P0 (p0r F) (P0 (w0F F) X1)))))
theorem w0I (F:Nat):C1 en (o0F F):=V1 (F0q F) X1
theorem q0y (F:Nat):C1 en (i0H F):=V1 (C0a F) (P0 (w0I F) X1)
theorem u0F (F:Nat):C1 en (k0E F):=V1 (y0h F) (P0 (q0y F) X1)
theorem v0l (F:Nat):C1 en (n09 F):=V1 (w0e F) (P0 (q0y F) X1)
theorem s0D (F:Nat):C1 en (k0F F):=V1 (A00 F) (P0 (v0l F) X1)
theorem v0S (F:Nat):C1 en (o0c F):=V1 (w0X F) (P0 (s0D F) X1)
theorem B0X (F:Nat):C1 en (k0N F):=V1 (C0R F) X1
theorem C0O (F:Nat):C1 en (l07 F):=V1 (v0V F) (P0 (u0F F) X1)
theorem k0J (F:Nat):C1 en (h0h F):=V1 (F0y F) X1
theorem F0g (F:Nat):C1 en (o0P F):=V1 (v0t F) (P0 (B0X F) (P0 (k0J F) X1))
theorem A0J (F:Nat):C1 en (l0A F):=V1 (A0Y F) (P0 (F0g F) X1)
theorem t0q (F:Nat):∀ n,C1 en (i00 F n)
 |0=>fun w S us pl x y h=>by cases h
 |n+1=>V1 (o0B F n) (P0 (k0J F) (P0 (t0q F n) X1))
theorem z0L (F:Nat):C1 en (o0E F):=V1 (v0r F) (P0 (C0O F) (P0 (A0J F) (P0 (k0J F) (P0 (t0q F F) X1))))
theorem z0S (F:Nat):C1 en (p0f F):=V1 (B0N F) (P0 (u0F F) (P0 (v0S F) (P0 (s0D F) X1)))
theorem z0Z (F:Nat):C1 en (l04 F):=V1 (D0h F) (P0 (z0L F) (P0 (z0S F) X1))
theorem x0Q (F:Nat):C1 en (t0a F):=V1 (E0c F) (P0 (A09 F) (P0 (z00 F) (P0 (t0H F) (P0 (u0D F) (P0 (r02 F) (P0 (z0Z F) X1))))))
