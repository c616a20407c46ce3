/- P. Its conditions: none. -/
import Derived.Test.YtmhooikfkhjijaaGreatYG22
import Derived.Test.YtmhooikfkhjijaaGreatYG23
import Derived.Test.YtmhooikfkhjijaaGreatYG24
import Derived.Test.YtmhooikfkhjijaaGreatYX16
import Derived.Test.YtmhooikfkhjijaaGreatYX17
import Derived.Test.YtmhooikfkhjijaaGreatYG32
import Derived.Test.YtmhooikfkhjijaaGreatYJn
import Derived.Test.YtmhooikfkhjijaaGreatYG26
set_option linter.all false
set_option maxRecDepth 100000
namespace Go.Proofs.YtmhooikfkhjijaaGreat
open Go.V Go.RowKit Go.X
def X1:∀c∈([]:List (Sm en.D)),C1 en c:=fun _ h=>absurd h List.not_mem_nil
def P0 {c:Sm en.D}{r:List (Sm en.D)}(h:C1 en c)(a:∀c∈r,C1 en c):∀d∈c :: r,C1 en d:=List.forall_mem_cons.2 ⟨h,a⟩
def V1 {C:D4 en}{c:Sm en.D}(hm:∀x,O1 en C c.f c.ins c.res c.back x=c.m x)(a:∀d∈C.sm,C1 en d):C1 en c:=j0P b0N (C:=C) (h04 b0N a) fun x y h=>(hm x).trans h
def x0q (F:Nat):C1 en (k09 F):=V1 (E0A F) X1
def y0R (F:Nat):C1 en (k02 F):=V1 (C0F F) X1
def B0q (F:Nat):C1 en (n0L F):=V1 (B0g F) X1
def p0c (F:Nat):C1 en (f0E F):=V1 (w0s F) (P0 (x0q F) (P0 (y0R F) (P0 (B0q F) X1)))
def c0X (F:Nat):C1 en (b0Q F):=V1 (y0O F) (P0 (p0c F) X1)
def q0d (F:Nat):C1 en (j0g F):=V1 (w0H F) (P0 (p0c F) X1)
def v0h (F:Nat):C1 en (k06 F):=V1 (y0S F) (P0 (q0d F) X1)
def x0e (F:Nat):C1 en (n0N F):=V1 (y0r F) (P0 (c0X F) (P0 (v0h F) X1))
def j0N (F:Nat):C1 en (e09 F):=V1 (x08 F) (P0 (c0X F) X1)
def O0f (F:Nat):C1 en (N0E F):=j0P b0N (C:=N0u F) (h04 b0N (fun _ h=>absurd h List.not_mem_nil)) fun(x:List C0) y h=>(show O1 en (N0u F) 142 [.d (.list (.st 0))] (.own 145 (.st 0)) [] x=(if List.isEmpty (α:=C0) x then same (some []) (if I0 64 ([]:List C0) x then some ([]++x)else none)else if I0 64 ([]:List C0) x then some ([]++x)else none) by kernel_rfl).trans (l0C h)
def x0f (F:Nat):C1 en (o06 F):=V1 (z07 F) (P0 (q0d F) X1)
def u0Q (F:Nat):C1 en (i0E F):=V1 (y0M F) (P0 (c0X F) (P0 (x0f F) X1))
def z0B (F:Nat):C1 en (o0W F):=V1 (v0K F) (P0 (u0Q F) X1)
def l0a (F:Nat):C1 en (f0S F):=V1 (y0Y F) (P0 (c0X F) X1)
def u03 (F:Nat):C1 en (j0S F):=V1 (y0W F) (P0 (l0a F) X1)
def z0D (F:Nat):C1 en (l0E F):=V1 (z0t F) (P0 (j0N F) (P0 (c0X F) X1))
def u0o (F:Nat):C1 en (k0q F):=V1 (v0v F) (P0 (c0X F) X1)
def u0N (F:Nat):C1 en (j0L F):=V1 (B0K F) (P0 (c0X F) (P0 (u03 F) (P0 (l0a F) (P0 (z0D F) (P0 (u0o F) X1)))))
def t0u (F:Nat):C1 en (i0z F):=V1 (z0f F) X1
def t0v (F:Nat):∀n,C1 en (i07 F n)
 |0=>fun w S us pl x y h=>by cases h
 |n+1=>V1 (y0o F n) (P0 (t0v F n) X1)
def m0L (F:Nat):C1 en (g0L F):=V1 (B0C F) (P0 (u0o F) (P0 (t0v F F) X1))
def s0x (F:Nat):C1 en (k0G F):=V1 (C07 F) X1
def o0X (F:Nat):∀n,C1 en (g0p F n)
 |0=>fun w S us pl x y h=>by cases h
 |n+1=>V1 (B06 F n) (P0 (o0X F n) (P0 (m0L F) (P0 (s0x F) X1)))
def A0z (F:Nat):C1 en (o0J F):=V1 (A0O F) (P0 (u0N F) (P0 (t0u F) (P0 (o0X F F) X1)))
def r0K (F:Nat):C1 en (j0C F):=V1 (E0u F) (P0 (j0N F) (P0 (u0N F) X1))
def E0B (F:Nat):C1 en (m0g F):=V1 (v0o F) (P0 (o0X F F) X1)
def q0L (F:Nat):C1 en (j0Y F):=V1 (B0p F) (P0 (m0L F) (P0 (s0x F) (P0 (E0B F) X1)))
def D0b (F:Nat):C1 en (q0U F):=A0v (E:=en) (i:=10) (key:=fun x:y0=>x.To) Go.Proofs.Tryz.y0q rfl Go.Proofs.Tryz.A0l Go.Proofs.Tryz.D0m Go.Proofs.Tryz.z0g Go.Proofs.Tryz.A05 (fun H S cs x h=>by
 obtain⟨c1,c2,rfl,h1,c3,d,rfl,a,b,e,rfl,⟨A,c,rfl,_⟩,rfl⟩:=(o0j 10 _ _ _ _).1 h;have h1:c1=[_]:=h1;have a:c3=[_]:=a;subst h1;subst a;exact⟨_,_,rfl⟩) (by kernel_rfl)
def w0a (F:Nat):C1 en (p0d F):=V1 (A0I F) (P0 (t0u F) (P0 (r0K F) (P0 (q0L F) (P0 (D0b F) X1))))
def E0D (F:Nat):C1 en (o0N F):=V1 (F0e F) (P0 (r0K F) (P0 (q0L F) (P0 (m0L F) X1)))
def B0Z (F:Nat):C1 en (m0h F):=V1 (D0j F) (P0 (x0e F) (P0 (j0N F) (P0 (O0f F) (P0 (z0B F) (P0 (A0z F) (P0 (w0a F) (P0 (E0D F) (P0 (u0Q F) X1))))))))
def p0r (F:Nat):C1 en (j0t F):=V1 (z0j F) (P0 (c0X F) (P0 (B0Z F) X1))
def A0k (F:Nat):C1 en (r0U F):=j0P b0N (C:=s0p F) (h04 b0N (fun _ h=>absurd h List.not_mem_nil)) fun(x:List Int) y h=>(show O1 en (s0p F) 130 [.d (.list (.int .i64))] (.own 3 (.int .i64)) [] x=(if List.isEmpty (α:=Int) x then same (some []) (if I0 8 ([]:List Int) x then some ([]++x)else none)else if I0 8 ([]:List Int) x then some ([]++x)else none) by kernel_rfl).trans (l0C h)
def l0D (F:Nat):C1 en (g0T F):=C0D F (A0k F)
def z0x (F:Nat):C1 en (q0P F):=B0s fun w S b A c v k hk a=>Wr.P0G 2000 b a (Wr.w0x hk (by omega))
def B0j (F:Nat):C1 en (m0R F):=V1 (A0D F) (P0 (z0x F) X1)
def u0L (F:Nat):C1 en (i02 F):=V1 (C0k F) (P0 (B0j F) X1)
def D0W (F:Nat):C1 en (o0D F):=V1 (y0n F) (P0 (l0D F) (P0 (u0L F) X1))
def I0y (F:Nat):C1 en (G0P F):=V1 (K0H F) (P0 (p0r F) (P0 (D0W F) X1))
def O0c (F:Nat):C1 en (N00 F):=j0P b0N (C:=N0Q F) (h04 b0N (fun _ h=>absurd h List.not_mem_nil)) fun(x:List (List Int)) y h=>(show O1 en (N0Q F) 150 [.d (.list (.list (.int .i64)))] (.own 23 (.list (.int .i64))) [] x=(if List.isEmpty (α:=(List Int)) x then same (some []) (if I0 24 ([]:List (List Int)) x then some ([]++x)else none)else if I0 24 ([]:List (List Int)) x then some ([]++x)else none) by kernel_rfl).trans (l0C h)
def B02 (F:Nat):C1 en (n0E F):=V1 (z0r F) X1
def w08 (F:Nat):C1 en (m01 F):=V1 (A0m F) (P0 (B02 F) X1)
def k0k (F:Nat):C1 en (f07 F):=V1 (v0X F) (P0 (w08 F) X1)
def u02 (F:Nat):C1 en (i0A F):=V1 (D04 F) X1
def y01 (F:Nat):C1 en (o0L F):=V1 (C0l F) (P0 (k0k F) (P0 (u02 F) X1))
def v0Z (F:Nat):C1 en (k00 F):=V1 (C0z F) (P0 (u0L F) (P0 (O0c F) (P0 (y01 F) X1)))
def z0u (F:Nat):C1 en (l0l F):=V1 (y0T F) X1
def C0Y (F:Nat):C1 en (n0v F):=V1 (B0R F) (P0 (z0u F) X1)
def m0B (F:Nat):C1 en (g0R F):=V1 (C0C F) X1
def s0s (F:Nat):C1 en (h03 F):=V1 (F0n F) X1
def s02 (F:Nat):C1 en (j0V F):=V1 (y0U F) (P0 (s0s F) X1)
def B03 (F:Nat):C1 en (n08 F):=V1 (D0B F) (P0 (k0k F) (P0 (m0B F) (P0 (s02 F) X1)))
def w0j (F:Nat):C1 en (k0R F):=E0t F (l0a F) (p0c F)
def s05 (F:Nat):∀n,C1 en (k0C F n)
 |0=>fun w S us pl x y h=>by cases h
 |n+1=>V1 (x0v F n) (P0 (j0N F) (P0 (s05 F n) (P0 (w0j F) (P0 (u03 F) X1))))
def v0P (F:Nat):C1 en (m0y F):=V1 (w0P F) (P0 (k0k F) (P0 (m0B F) (P0 (s02 F) (P0 (u02 F) (P0 (s05 F F) (P0 (s0s F) X1))))))
def A02 (F:Nat):C1 en (m0c F):=V1 (v0f F) (P0 (l0D F) (P0 (v0Z F) (P0 (C0Y F) (P0 (B03 F) (P0 (v0P F) X1)))))
def J0e (F:Nat):C1 en (H0i F):=V1 (I07 F) X1
def x03 (F:Nat):C1 en (l0c F):=V1 (z0c F) (P0 (k0k F) (P0 (m0B F) X1))
def C0Z (F:Nat):C1 en (o07 F):=V1 (z0l F) (P0 (l0D F) (P0 (x03 F) X1))
def O0u (F:Nat):C1 en (M07 F):=V1 (O0U F) X1
def P0I (F:Nat):C1 en (M0N F):=V1 (O0l F) X1
def K0K (F:Nat):C1 en (H0z F):=V1 (L0X F) (P0 (O0u F) (P0 (P0I F) X1))
def J0I (F:Nat):C1 en (G04 F):=V1 (L0g F) (P0 (A02 F) (P0 (J0e F) (P0 (C0Z F) (P0 (K0K F) X1))))
def P0u (F:Nat):C1 en (M0L F):=V1 (Q0n F) (P0 (A0k F) X1)
def O0H (F:Nat):C1 en (N0e F):=V1 (O0T F) (P0 (P0u F) X1)
def w0I (F:Nat):C1 en (o0F F):=V1 (F0q F) X1
def q0y (F:Nat):C1 en (i0H F):=V1 (C0a F) (P0 (w0I F) X1)
def u0F (F:Nat):C1 en (k0E F):=V1 (y0h F) (P0 (q0y F) X1)
def v0l (F:Nat):C1 en (n09 F):=V1 (w0e F) (P0 (q0y F) X1)
def s0D (F:Nat):C1 en (k0F F):=V1 (A00 F) (P0 (v0l F) X1)
def v0S (F:Nat):C1 en (o0c F):=V1 (w0X F) (P0 (s0D F) X1)
def N0J (F:Nat):C1 en (M0A F):=V1 (P0W F) X1
def P0U (F:Nat):C1 en (M0U F):=V1 (P0V F) (P0 (N0J F) X1)
def P0k (F:Nat):C1 en (M0X F):=V1 (O08 F) X1
def O0p (F:Nat):C1 en (N0h F):=V1 (P03 F) (P0 (N0J F) (P0 (P0U F) (P0 (P0k F) X1)))
def B0X (F:Nat):C1 en (k0N F):=V1 (C0R F) X1
def Q0v (F:Nat):C1 en (N0L F):=j0P b0N (C:=N03 F) (h04 b0N (fun _ h=>absurd h List.not_mem_nil)) fun(x:List b0k) y h=>(show O1 en (N03 F) 131 [.d (.list (.st 1))] (.own 169 (.st 1)) [] x=(if List.isEmpty (α:=b0k) x then same (some []) (if I0 16 ([]:List b0k) x then some ([]++x)else none)else if I0 16 ([]:List b0k) x then some ([]++x)else none) by kernel_rfl).trans (l0C h)
def P0g (F:Nat):C1 en (N0i F):=V1 (P0J F) (P0 (A0k F) (P0 (Q0v F) X1))
def Q0q (F:Nat):C1 en (M0M F):=V1 (Q0j F) X1
def Q0u (F:Nat):C1 en (M0W F):=V1 (P0t F) X1
def Q0h (F:Nat):C1 en (M0G F):=V1 (O07 F) (P0 (Q0q F) (P0 (Q0u F) X1))
def O0Y (F:Nat):C1 en (M0S F):=V1 (O0L F) (P0 (O0p F) (P0 (P0g F) (P0 (Q0h F) X1)))
def O05 (F:Nat):C1 en (N0f F):=V1 (O0i F) X1
def N0T (F:Nat):C1 en (M0p F):=V1 (P0e F) (P0 (I0y F) X1)
def B0u (F:Nat):C1 en (o0R F):=V1 (A0x F) X1
def K0F (F:Nat):C1 en (H0j F):=V1 (J0K F) (P0 (B0u F) X1)
def P0p (F:Nat):C1 en (M02 F):=V1 (O0A F) (P0 (J0e F) (P0 (O0H F) X1))
def N0d (F:Nat):C1 en (M0h F):=V1 (O0d F) (P0 (P0p F) X1)
def M09 (F:Nat):C1 en (L0D F):=V1 (P0D F) (P0 (K0F F) (P0 (N0d F) X1))
def P01 (F:Nat):C1 en (M0J F):=V1 (O0K F) (P0 (J0I F) (P0 (M09 F) (P0 (N0d F) X1)))
def N0X (F:Nat):C1 en (M0C F):=V1 (P0K F) (P0 (M09 F) X1)
def r02 (F:Nat):C1 en (k0z F):=V1 (D0H F) X1
def O02 (F:Nat):C1 en (M0O F):=V1 (O04 F) (P0 (O0Y F) X1)
def P0i (F:Nat):C1 en (N0o F):=V1 (O0J F) X1
def O0P (F:Nat):C1 en (M06 F):=V1 (O0b F) (P0 (J0I F) (P0 (M09 F) (P0 (N0d F) X1)))
def O0F (F:Nat):C1 en (N0c F):=V1 (O0R F) (P0 (N0T F) (P0 (P01 F) (P0 (N0X F) (P0 (r02 F) (P0 (O02 F) (P0 (P0i F) X1))))))
def O0g (F:Nat):C1 en (M0I F):=V1 (Q0f F) (P0 (r02 F) X1)
def C0O (F:Nat):C1 en (l07 F):=V1 (v0V F) (P0 (u0F F) X1)
def k0J (F:Nat):C1 en (h0h F):=V1 (F0y F) X1
def F0g (F:Nat):C1 en (o0P F):=V1 (v0t F) (P0 (k0J F) (P0 (B0X F) X1))
def A0J (F:Nat):C1 en (l0A F):=V1 (A0Y F) (P0 (F0g F) X1)
def z0S (F:Nat):C1 en (p0f F):=V1 (B0N F) (P0 (u0F F) (P0 (v0S F) (P0 (s0D F) X1)))
def t0q (F:Nat):∀n,C1 en (i00 F n)
 |0=>fun w S us pl x y h=>by cases h
 |n+1=>V1 (o0B F n) (P0 (k0J F) (P0 (t0q F n) X1))
def J0T (F:Nat):C1 en (H0O F):=V1 (K0i F) (P0 (C0O F) (P0 (A0J F) (P0 (k0J F) (P0 (z0S F) (P0 (t0q F F) X1)))))
def O0Q (F:Nat):C1 en (N01 F):=V1 (Q0c F) (P0 (O0P F) (P0 (O05 F) (P0 (u0F F) (P0 (O0F F) (P0 (N0T F) (P0 (O0g F) (P0 (N0X F) (P0 (J0T F) (P0 (r02 F) X1)))))))))
