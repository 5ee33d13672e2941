import PyProof.Rows.All
import Wide.All
import OpenK.AllK
import Wide.FinOn
import KE.KStateDown
import HandS.ForMost
import HandS.Flow
import HandS.IsInst
import HandS.Exc
import HandS.TupMul
import HandS.Iter
import HandS.Wide
import HandS.TupAny
import HandS.More
import PyProof.StrOps2
import HandS.Sort
import HandS.Conv
import HandS.CallSlots
import HandS.Defaults
import HandS.WordsExc
import HandS.SortInts
import HandS.RaiseMore
import HandS.WordsDict
import HandS.TupLen
import HandS.Text
import KE.GoesEnum
import KE.GoesMore
import HandS.Zip
import HandS.Style
import HandS.Star
import HandS.Property
import HandS.Words
import HandS.OwnEq
import HandS.Head0
import HandS.Head1
import HandS.Head2
import HandS.HeadEnd
import HandS.HeadHook1
import HandS.HeadHook2
import PyProof.ListStr
import HandS.ExcInit
import HandS.ExcIs
import HandS.ExcField
import HandS.ExcOwn
import KE.KExcSuper
import OpenK.KOps
import HandS.Deep
import KE.KExcIs
import PySem.Challenge.RW_beadrules_k18_texts_refused
set_option Elab.async false
set_option linter.all false
set_option maxRecDepth 100000
set_option maxHeartbeats 0
/-! TL1: trees (T), owned trees (O), environments, the relation between them and the layer's heap. -/
namespace TL
open PySem PySem.Spec PyProof.Rows L2

abbrev Cs := List Nat
abbrev K1 := Sum Int Cs
inductive T where
  | non | bl (b : Bool) | int (i : Int) | str (s : Cs)
  | tup (l : List T) | lst (l : List T)
  | dic (ks : List K1) (vs : List T)
  | dct (ks : List (List K1)) (vs : List T)
  | obj (c : Nat) (vs : List T)
  | scr (ns : List Int)
  | ktp (l : List T)
  | ty (n : String)
  | kl (c : Nat)
inductive O where
  | fz (t : T)
  | lst (l : List O)
  | dic (ks : List K1) (vs : List O)
  | dct (ks : List (List K1)) (vs : List O)
  | obj (c : Nat) (vs : List O)
mutual
def O.er : O → T
  | .fz t => t
  | .lst l => .lst (ers l)
  | .dic ks vs => .dic ks (ers vs)
  | .dct ks vs => .dct ks (ers vs)
  | .obj c vs => .obj c (ers vs)
def ers : List O → List T
  | [] => []
  | o :: r => o.er :: ers r
end
theorem ers_eq : ∀ l : List O, ers l = l.map O.er
  | [] => rfl
  | o :: r => by show o.er :: ers r = _; rw [ers_eq r]; rfl
theorem ers_fz : ∀ l : List T, ers (l.map O.fz) = l
  | [] => rfl
  | t :: r => by show t :: ers (r.map O.fz) = _; rw [ers_fz r]
abbrev Env := List (Option O)

def mkStr (s : Cs) : Str := ⟨s.toArray⟩
def kK : K1 → Key
  | .inl i => .inl i
  | .inr s => .inr (mkStr s)
theorem mkStr_inj {a b : Cs} (h : mkStr a = mkStr b) : a = b := by
  have := congrArg (fun z : Str => z.cps.toList) h
  simpa [mkStr] using this
theorem kK_inj {a b : K1} (h : kK a = kK b) : a = b := by
  cases a <;> cases b <;> simp only [kK] at h
  · rw [Sum.inl.inj h]
  · cases h
  · cases h
  · rw [mkStr_inj (Sum.inr.inj h)]

/-- what the trees lean on: the written part, the classes' addresses and fields, what an exception in the air is -/
structure Gam where
  K : PySem.W.Frag
  cls : Nat → Addr
  fld : Nat → List Str
  xr : Nat → List T → Value → Option Addr → Hp → Prop

abbrev Lab := Addr → Option (Nat × List Nat)
def dKof (ks : List K1) (xs : List V) : HO := .dK ((ks.map kK).zip xs)
def dTof (ks : List (List K1)) (xs : List V) : HO := .dT ((ks.map (·.map kK)).zip xs)

section
variable (Γ : Gam)
mutual
def Rp (F : Hp) (v : V) : T → Prop
  | .non => v = .non
  | .bl b => v = .bl b
  | .int i => v = .int i
  | .str s => v = .str (mkStr s)
  | .tup l => ∃ a xs, v = .ref a ∧ F a = some (.tup xs) ∧ RpL F xs l
  | .ktp l => ∃ a xs, v = .ref a ∧ SqT Γ.K F a xs ∧ RpL F xs l
  | .ty n => v = .ty n
  | .kl c => v = .ref (Γ.cls c)
  | .lst l => ∃ a xs, v = .ref a ∧ F a = some (.lst xs) ∧ RpL F xs l
  | .scr ns => ∃ a, v = .ref a ∧ SqL Γ.K F a (ns.map V.int)
  | .dic ks vs => ∃ a xs, v = .ref a ∧ (∃ o, F a = some (.frz o (dKof ks xs))) ∧ xs.length = ks.length ∧ RpL F xs vs
  | .dct ks vs => ∃ a xs, v = .ref a ∧ (∃ o, F a = some (.frz o (dTof ks xs))) ∧ xs.length = ks.length ∧ RpL F xs vs
  | .obj c vs => ∃ a dx xs, v = .ref a ∧ F a = some (.ins (Γ.cls c) dx ((Γ.fld c).zip xs)) ∧ xs.length = (Γ.fld c).length ∧ RpL F xs vs
def RpL (F : Hp) (xs : List V) : List T → Prop
  | [] => xs = []
  | t :: ts => ∃ x r, xs = x :: r ∧ Rp F x t ∧ RpL F r ts
end
mutual
def Ow (ω : Lab) (F H : Hp) (i : Nat) (r : List Nat) (v : V) : O → Prop
  | .fz t => Rp Γ F v t
  | .lst l => ∃ a xs, v = .ref a ∧ ω a = some (i, r) ∧ H a = some (.lst xs) ∧ OwL ω F H i r 0 xs l
  | .dic ks vs => ∃ a xs, v = .ref a ∧ ω a = some (i, r) ∧ H a = some (dKof ks xs) ∧ xs.length = ks.length ∧ OwL ω F H i r 0 xs vs
  | .dct ks vs => ∃ a xs, v = .ref a ∧ ω a = some (i, r) ∧ H a = some (dTof ks xs) ∧ xs.length = ks.length ∧ OwL ω F H i r 0 xs vs
  | .obj c vs => ∃ a dx xs, v = .ref a ∧ ω a = some (i, r) ∧ H a = some (.ins (Γ.cls c) dx ((Γ.fld c).zip xs)) ∧ xs.length = (Γ.fld c).length ∧ OwL ω F H i r 0 xs vs
def OwL (ω : Lab) (F H : Hp) (i : Nat) (r : List Nat) (j : Nat) (xs : List V) : List O → Prop
  | [] => xs = []
  | o :: os => ∃ x s, xs = x :: s ∧ Ow ω F H i (j :: r) x o ∧ OwL ω F H i r (j + 1) s os
end
end
section
variable {Γ : Gam} {F F' H H' : Hp} {ω ω' : Lab} {i i' : Nat}
abbrev Sub (F F' : Hp) : Prop := ∀ b o, F b = some o → F' b = some o
theorem Sub.rd (h : Sub F F') {a : Addr} {u : HO} (x : Rd F a u) : Rd F' a u := by
  rcases x with x | ⟨o, x⟩
  · exact .inl (h _ _ x)
  · exact .inr ⟨o, h _ _ x⟩
theorem Sub.sqL {K : PySem.W.Frag} (h : Sub F F') {a : Addr} {xs : List V} (x : SqL K F a xs) : SqL K F' a xs := x.imp (h.rd ·) id
theorem Sub.sqT {K : PySem.W.Frag} (h : Sub F F') {a : Addr} {xs : List V} (x : SqT K F a xs) : SqT K F' a xs := x.imp (h.rd ·) id
theorem Sub.trans {F'' : Hp} (h : Sub F F') (h' : Sub F' F'') : Sub F F'' := fun b o e => h' b o (h b o e)
mutual
theorem Rp.mono (h : Sub F F') : ∀ (t : T) (v : V), Rp Γ F v t → Rp Γ F' v t
  | .non, _, x => by simpa only [Rp] using x
  | .bl b, _, x => by simpa only [Rp] using x
  | .int i, _, x => by simpa only [Rp] using x
  | .str s, _, x => by simpa only [Rp] using x
  | .tup l, _, x => by
    simp only [Rp] at x ⊢
    obtain ⟨a, xs, e, s, r⟩ := x
    exact ⟨a, xs, e, h _ _ s, RpL.mono h l xs r⟩
  | .ktp l, _, x => by
    simp only [Rp] at x ⊢
    obtain ⟨a, xs, e, s, r⟩ := x
    exact ⟨a, xs, e, h.sqT s, RpL.mono h l xs r⟩
  | .ty n, _, x => by simpa only [Rp] using x
  | .kl n, _, x => by simpa only [Rp] using x
  | .lst l, _, x => by
    simp only [Rp] at x ⊢
    obtain ⟨a, xs, e, s, r⟩ := x
    exact ⟨a, xs, e, h _ _ s, RpL.mono h l xs r⟩
  | .scr ns, _, x => by
    simp only [Rp] at x ⊢
    obtain ⟨a, e, s⟩ := x
    exact ⟨a, e, h.sqL s⟩
  | .dic ks vs, _, x => by
    simp only [Rp] at x ⊢
    obtain ⟨a, xs, e, ⟨o, s⟩, l, r⟩ := x
    exact ⟨a, xs, e, ⟨o, h _ _ s⟩, l, RpL.mono h vs xs r⟩
  | .dct ks vs, _, x => by
    simp only [Rp] at x ⊢
    obtain ⟨a, xs, e, ⟨o, s⟩, l, r⟩ := x
    exact ⟨a, xs, e, ⟨o, h _ _ s⟩, l, RpL.mono h vs xs r⟩
  | .obj c vs, _, x => by
    simp only [Rp] at x ⊢
    obtain ⟨a, dx, xs, e, s, l, r⟩ := x
    exact ⟨a, dx, xs, e, h _ _ s, l, RpL.mono h vs xs r⟩
theorem RpL.mono (h : Sub F F') : ∀ (ts : List T) (xs : List V), RpL Γ F xs ts → RpL Γ F' xs ts
  | [], _, x => by simpa only [RpL] using x
  | t :: ts, _, x => by
    simp only [RpL] at x ⊢
    obtain ⟨y, r, e, p, q⟩ := x
    exact ⟨y, r, e, Rp.mono h t y p, RpL.mono h ts r q⟩
end
mutual
/-- the labels below a place may be moved, the objects there stay -/
theorem Ow.move (hF : Sub F F') : ∀ (o : O) (r r' : List Nat) (v : V), (∀ b q, ω b = some (i, q ++ r) → ω' b = some (i', q ++ r') ∧ H' b = H b) → Ow Γ ω F H i r v o → Ow Γ ω' F' H' i' r' v o
  | .fz t, r, r', v, h, x => by
    simp only [Ow] at x ⊢
    exact Rp.mono hF t v x
  | .lst l, r, r', v, h, x => by
    simp only [Ow] at x ⊢
    obtain ⟨a, xs, e, lb, ha, q⟩ := x
    obtain ⟨p1, p2⟩ := h a [] lb
    exact ⟨a, xs, e, p1, p2.trans ha, OwL.move hF l r r' 0 xs h q⟩
  | .dic ks vs, r, r', v, h, x => by
    simp only [Ow] at x ⊢
    obtain ⟨a, xs, e, lb, ha, z, q⟩ := x
    obtain ⟨p1, p2⟩ := h a [] lb
    exact ⟨a, xs, e, p1, p2.trans ha, z, OwL.move hF vs r r' 0 xs h q⟩
  | .dct ks vs, r, r', v, h, x => by
    simp only [Ow] at x ⊢
    obtain ⟨a, xs, e, lb, ha, z, q⟩ := x
    obtain ⟨p1, p2⟩ := h a [] lb
    exact ⟨a, xs, e, p1, p2.trans ha, z, OwL.move hF vs r r' 0 xs h q⟩
  | .obj c vs, r, r', v, h, x => by
    simp only [Ow] at x ⊢
    obtain ⟨a, dx, xs, e, lb, ha, z, q⟩ := x
    obtain ⟨p1, p2⟩ := h a [] lb
    exact ⟨a, dx, xs, e, p1, p2.trans ha, z, OwL.move hF vs r r' 0 xs h q⟩
theorem OwL.move (hF : Sub F F') : ∀ (os : List O) (r r' : List Nat) (j : Nat) (xs : List V), (∀ b q, ω b = some (i, q ++ r) → ω' b = some (i', q ++ r') ∧ H' b = H b) → OwL Γ ω F H i r j xs os → OwL Γ ω' F' H' i' r' j xs os
  | [], _, _, _, _, _, x => by simpa only [OwL] using x
  | o :: os, r, r', j, xs, h, x => by
    simp only [OwL] at x ⊢
    obtain ⟨y, s, e, p, q⟩ := x
    refine ⟨y, s, e, Ow.move hF o (j :: r) (j :: r') y (fun b q z => ?_) p, OwL.move hF os r r' (j + 1) s h q⟩
    have := h b (q ++ [j]) (by simpa using z)
    simpa using this
end
/-- a dict is locked, another thing stays -/
def LkO : Option HO → Option HO → Prop := fun x y => match x with
  | some (.dK k) => ∃ o, y = some (.frz o (.dK k))
  | some (.dT k) => ∃ o, y = some (.frz o (.dT k))
  | x => y = x
mutual
theorem Ow.freeze (hF : Sub F F') : ∀ (o : O) (r : List Nat) (v : V), (∀ b q, ω b = some (i, q ++ r) → LkO (H b) (F' b)) → Ow Γ ω F H i r v o → Rp Γ F' v o.er
  | .fz t, r, v, h, x => by
    simp only [Ow] at x
    exact Rp.mono hF t v x
  | .lst l, r, v, h, x => by
    simp only [Ow] at x
    obtain ⟨a, xs, e, lb, ha, q⟩ := x
    simp only [O.er, Rp]
    exact ⟨a, xs, e, (by have := h a [] lb; rw [ha] at this; exact this), OwL.freeze hF l r 0 xs h q⟩
  | .dic ks vs, r, v, h, x => by
    simp only [Ow] at x
    obtain ⟨a, xs, e, lb, ha, z, q⟩ := x
    simp only [O.er, Rp]
    exact ⟨a, xs, e, (by have := h a [] lb; rw [ha] at this; exact this), z, OwL.freeze hF vs r 0 xs h q⟩
  | .dct ks vs, r, v, h, x => by
    simp only [Ow] at x
    obtain ⟨a, xs, e, lb, ha, z, q⟩ := x
    simp only [O.er, Rp]
    exact ⟨a, xs, e, (by have := h a [] lb; rw [ha] at this; exact this), z, OwL.freeze hF vs r 0 xs h q⟩
  | .obj c vs, r, v, h, x => by
    simp only [Ow] at x
    obtain ⟨a, dx, xs, e, lb, ha, z, q⟩ := x
    simp only [O.er, Rp]
    exact ⟨a, dx, xs, e, (by have := h a [] lb; rw [ha] at this; exact this), z, OwL.freeze hF vs r 0 xs h q⟩
theorem OwL.freeze (hF : Sub F F') : ∀ (os : List O) (r : List Nat) (j : Nat) (xs : List V), (∀ b q, ω b = some (i, q ++ r) → LkO (H b) (F' b)) → OwL Γ ω F H i r j xs os → RpL Γ F' xs (ers os)
  | [], _, _, _, _, x => by simpa only [OwL, ers, RpL] using x
  | o :: os, r, j, xs, h, x => by
    simp only [OwL] at x
    obtain ⟨y, s, e, p, q⟩ := x
    simp only [ers, RpL]
    exact ⟨y, s, e, Ow.freeze hF o (j :: r) y (fun b q z => h b (q ++ [j]) (by simpa using z)) p, OwL.freeze hF os r (j + 1) s h q⟩
end
theorem OwL.fz : ∀ (ts : List T) (r : List Nat) (j : Nat) (xs : List V), OwL Γ ω F H i r j xs (ts.map O.fz) ↔ RpL Γ F xs ts
  | [], r, j, xs => by simp only [List.map_nil, OwL, RpL]
  | t :: ts, r, j, xs => by
    simp only [List.map_cons, OwL, RpL, Ow]
    constructor
    · rintro ⟨x, s, e, p, q⟩
      exact ⟨x, s, e, p, (OwL.fz ts r (j + 1) s).mp q⟩
    · rintro ⟨x, s, e, p, q⟩
      exact ⟨x, s, e, p, (OwL.fz ts r (j + 1) s).mpr q⟩
theorem RpL.length : ∀ (ts : List T) (xs : List V), RpL Γ F xs ts → xs.length = ts.length
  | [], _, x => by
    simp only [RpL] at x
    rw [x]
    rfl
  | t :: ts, _, x => by
    simp only [RpL] at x
    obtain ⟨y, s, rfl, p, q⟩ := x
    rw [List.length_cons, List.length_cons, RpL.length ts s q]
theorem RpL.get : ∀ {ts : List T} {xs : List V} {k : Nat} {t : T}, RpL Γ F xs ts → ts[k]? = some t → ∃ x, xs[k]? = some x ∧ Rp Γ F x t
  | [], _, _, _, _, e => by simp at e
  | t :: ts, _, 0, _, x, e => by
    simp only [RpL] at x
    obtain ⟨y, s, rfl, p, q⟩ := x
    simp at e
    subst e
    exact ⟨y, rfl, p⟩
  | t :: ts, _, k + 1, _, x, e => by
    simp only [RpL] at x
    obtain ⟨y, s, rfl, p, q⟩ := x
    exact RpL.get (k := k) q (by simpa using e)
theorem RpL.get' : ∀ {ts : List T} {xs : List V} {k : Nat} {x : V}, RpL Γ F xs ts → xs[k]? = some x → ∃ t, ts[k]? = some t ∧ Rp Γ F x t
  | [], _, _, _, h, e => by
    simp only [RpL] at h
    subst h
    simp at e
  | t :: ts, _, 0, _, x, e => by
    simp only [RpL] at x
    obtain ⟨y, s, rfl, p, q⟩ := x
    simp at e
    subst e
    exact ⟨t, rfl, p⟩
  | t :: ts, _, k + 1, _, x, e => by
    simp only [RpL] at x
    obtain ⟨y, s, rfl, p, q⟩ := x
    exact RpL.get' (k := k) q (by simpa using e)
theorem RpL.append : ∀ {ts us : List T} {xs ys : List V}, RpL Γ F xs ts → RpL Γ F ys us → RpL Γ F (xs ++ ys) (ts ++ us)
  | [], us, xs, ys, h, h' => by
    simp only [RpL] at h
    subst h
    exact h'
  | t :: ts, us, xs, ys, h, h' => by
    simp only [RpL] at h
    obtain ⟨y, s, rfl, p, q⟩ := h
    simp only [List.cons_append, RpL]
    exact ⟨y, s ++ ys, rfl, p, RpL.append q h'⟩
theorem RpL.one {t : T} {x : V} (h : Rp Γ F x t) : RpL Γ F [x] [t] := by
  simp only [RpL]
  exact ⟨x, [], rfl, h, rfl⟩
theorem RpL.cons {t : T} {x : V} {ts : List T} {xs : List V} (h : Rp Γ F x t) (h' : RpL Γ F xs ts) : RpL Γ F (x :: xs) (t :: ts) := by
  simp only [RpL]
  exact ⟨x, xs, rfl, h, h'⟩
theorem RpL.take : ∀ {ts : List T} {xs : List V} (n : Nat), RpL Γ F xs ts → RpL Γ F (xs.take n) (ts.take n)
  | _, _, 0, _ => by simp [RpL]
  | [], _, _ + 1, h => by
    simp only [RpL] at h
    subst h
    simp [RpL]
  | t :: ts, _, n + 1, h => by
    simp only [RpL] at h
    obtain ⟨y, s, rfl, p, q⟩ := h
    simp only [List.take_succ_cons]
    exact RpL.cons p (RpL.take n q)
theorem RpL.drop : ∀ {ts : List T} {xs : List V} (n : Nat), RpL Γ F xs ts → RpL Γ F (xs.drop n) (ts.drop n)
  | _, _, 0, h => by simpa using h
  | [], _, _ + 1, h => by
    simp only [RpL] at h
    subst h
    simp [RpL]
  | t :: ts, _, n + 1, h => by
    simp only [RpL] at h
    obtain ⟨y, s, rfl, p, q⟩ := h
    simpa using RpL.drop n q
theorem RpL.set : ∀ {ts : List T} {xs : List V} (n : Nat) {t : T} {x : V}, RpL Γ F xs ts → Rp Γ F x t → RpL Γ F (xs.set n x) (ts.set n t)
  | [], _, n, t, x, h, p => by
    simp only [RpL] at h
    subst h
    simp [RpL]
  | u :: ts, _, 0, t, x, h, p => by
    simp only [RpL] at h
    obtain ⟨y, s, rfl, p', q⟩ := h
    exact RpL.cons p q
  | u :: ts, _, n + 1, t, x, h, p => by
    simp only [RpL] at h
    obtain ⟨y, s, rfl, p', q⟩ := h
    exact RpL.cons p' (RpL.set n q p)
theorem OwL.length : ∀ (os : List O) (r : List Nat) (j : Nat) (xs : List V), OwL Γ ω F H i r j xs os → xs.length = os.length
  | [], _, _, _, x => by
    simp only [OwL] at x
    rw [x]
    rfl
  | t :: ts, r, j, _, x => by
    simp only [OwL] at x
    obtain ⟨y, s, rfl, p, q⟩ := x
    rw [List.length_cons, List.length_cons, OwL.length ts r (j + 1) s q]
theorem OwL.get : ∀ {os : List O} {r : List Nat} {j : Nat} {xs : List V} {k : Nat} {o : O}, OwL Γ ω F H i r j xs os → os[k]? = some o → ∃ x, xs[k]? = some x ∧ Ow Γ ω F H i ((j + k) :: r) x o
  | [], _, _, _, _, _, _, e => by simp at e
  | t :: ts, _, j, _, 0, _, x, e => by
    simp only [OwL] at x
    obtain ⟨y, s, rfl, p, q⟩ := x
    simp at e
    subst e
    exact ⟨y, rfl, p⟩
  | t :: ts, r, j, _, k + 1, o, x, e => by
    simp only [OwL] at x
    obtain ⟨y, s, rfl, p, q⟩ := x
    obtain ⟨z, h1, h2⟩ := OwL.get (k := k) q (by simpa using e)
    refine ⟨z, h1, ?_⟩
    rw [show j + (k + 1) = j + 1 + k by omega]
    exact h2
/-- one child is changed in its place; the others stay -/
theorem OwL.put : ∀ {os : List O} {r : List Nat} {j : Nat} {xs : List V} (k : Nat) {o' : O} {x' : V}, (∀ b o, F b = some o → F' b = some o) → (∀ b q m, m ≠ j + k → ω b = some (i, q ++ (m :: r)) → ω' b = some (i, q ++ (m :: r)) ∧ H' b = H b) →
    OwL Γ ω F H i r j xs os → Ow Γ ω' F' H' i ((j + k) :: r) x' o' → OwL Γ ω' F' H' i r j (xs.set k x') (os.set k o')
  | [], _, _, _, k, o', x', hF, h, x, p => by
    simp only [OwL] at x
    subst x
    simp [OwL]
  | t :: ts, r, j, _, 0, o', x', hF, h, x, p => by
    simp only [OwL] at x
    obtain ⟨y, s, rfl, _, q⟩ := x
    simp only [List.set_cons_zero, OwL]
    refine ⟨x', s, rfl, p, ?_⟩
    refine OwL.put_rest hF (fun b q m hm z => h b q m (by omega) z) q
  | t :: ts, r, j, _, k + 1, o', x', hF, h, x, p => by
    simp only [OwL] at x
    obtain ⟨y, s, rfl, p0, q⟩ := x
    simp only [List.set_cons_succ, OwL]
    refine ⟨y, _, rfl, Ow.move hF _ _ _ _ (fun b q z => h b q j (by omega) z) p0, OwL.put k hF (fun b q m hm z => h b q m (by omega) z) q ?_⟩
    rw [show j + 1 + k = j + (k + 1) by omega]
    exact p
where
  OwL.put_rest {F F' H H' : Hp} {ω ω' : Lab} {i : Nat} : ∀ {os : List O} {r : List Nat} {j : Nat} {xs : List V}, (∀ b o, F b = some o → F' b = some o) → (∀ b q m, j ≤ m → ω b = some (i, q ++ (m :: r)) → ω' b = some (i, q ++ (m :: r)) ∧ H' b = H b) →
    OwL Γ ω F H i r j xs os → OwL Γ ω' F' H' i r j xs os
  | [], _, _, _, hF, h, x => by simpa only [OwL] using x
  | t :: ts, r, j, _, hF, h, x => by
    simp only [OwL] at x ⊢
    obtain ⟨y, s, rfl, p0, q⟩ := x
    exact ⟨y, s, rfl, Ow.move hF _ _ _ _ (fun b q z => h b q j (Nat.le_refl _) z) p0, OwL.put_rest hF (fun b q m hm z => h b q m (by omega) z) q⟩
theorem OwL.append : ∀ {os ps : List O} {r : List Nat} {j : Nat} {xs ys : List V}, OwL Γ ω F H i r j xs os → OwL Γ ω F H i r (j + os.length) ys ps → OwL Γ ω F H i r j (xs ++ ys) (os ++ ps)
  | [], ps, r, j, xs, ys, h, h' => by
    simp only [OwL] at h
    subst h
    simpa using h'
  | t :: ts, ps, r, j, xs, ys, h, h' => by
    simp only [OwL] at h
    obtain ⟨y, s, rfl, p, q⟩ := h
    simp only [List.cons_append, OwL]
    refine ⟨y, s ++ ys, rfl, p, OwL.append q ?_⟩
    rw [show j + 1 + ts.length = j + (ts.length + 1) by omega]
    exact h'
theorem OwL.take : ∀ {os : List O} {r : List Nat} {j : Nat} {xs : List V} (n : Nat), OwL Γ ω F H i r j xs os → OwL Γ ω F H i r j (xs.take n) (os.take n)
  | _, _, _, _, 0, _ => by simp [OwL]
  | [], _, _, _, _ + 1, h => by
    simp only [OwL] at h
    subst h
    simp [OwL]
  | t :: ts, r, j, _, n + 1, h => by
    simp only [OwL] at h
    obtain ⟨y, s, rfl, p, q⟩ := h
    simp only [List.take_succ_cons, OwL]
    exact ⟨y, _, rfl, p, OwL.take n q⟩
end
end TL
set_option Elab.async false
set_option linter.all false
set_option maxRecDepth 100000
set_option maxHeartbeats 0
/-! TL2: the relation of a whole state (Rel), its steps; results (R), judgements. -/
namespace TL
open PySem PySem.Spec PyProof.Rows L2

abbrev St := L2.St
/-- results -/
inductive R (α : Type) where
  | ok (a : α) (τ : Env)
  | er (e : Nat) (fs : List T) (τ : Env)
  | st
namespace R
variable {α β : Type}
def bind (r : R α) (f : α → Env → R β) : R β := match r with
  | .ok a τ => f a τ
  | .er e fs τ => .er e fs τ
  | .st => .st
def map (r : R α) (f : α → β) : R β := match r with
  | .ok a τ => .ok (f a) τ
  | .er e fs τ => .er e fs τ
  | .st => .st
def sat (r : R α) (p : α → Env → Prop) (x : Nat → List T → Env → Prop) : Prop := match r with
  | .ok a τ => p a τ
  | .er e fs τ => x e fs τ
  | .st => False
@[simp] theorem bind_ok (a : α) (τ : Env) (f : α → Env → R β) : (R.ok a τ).bind f = f a τ := rfl
@[simp] theorem bind_er (e : Nat) (fs : List T) (τ : Env) (f : α → Env → R β) : (R.er e fs τ : R α).bind f = .er e fs τ := rfl
@[simp] theorem bind_st (f : α → Env → R β) : (R.st : R α).bind f = .st := rfl
@[simp] theorem map_ok (a : α) (τ : Env) (f : α → β) : (R.ok a τ).map f = .ok (f a) τ := rfl
@[simp] theorem map_er (e : Nat) (fs : List T) (τ : Env) (f : α → β) : (R.er e fs τ : R α).map f = .er e fs τ := rfl
@[simp] theorem map_st (f : α → β) : (R.st : R α).map f = .st := rfl
theorem sat_bind {r : R α} {f : α → Env → R β} {p : β → Env → Prop} {x : Nat → List T → Env → Prop} : (r.bind f).sat p x ↔ r.sat (fun a τ => (f a τ).sat p x) x := by
  cases r <;> exact Iff.rfl
theorem sat_map {r : R α} {f : α → β} {p : β → Env → Prop} {x : Nat → List T → Env → Prop} : (r.map f).sat p x ↔ r.sat (fun a τ => p (f a) τ) x := by
  cases r <;> exact Iff.rfl
theorem sat_mono {r : R α} {p p' : α → Env → Prop} {x x' : Nat → List T → Env → Prop} (h : r.sat p x) (hp : ∀ a τ, p a τ → p' a τ) (hx : ∀ e fs τ, x e fs τ → x' e fs τ) : r.sat p' x' := by
  cases r with
  | ok a τ => exact hp _ _ h
  | er e fs τ => exact hx _ _ _ h
  | st => exact h
end R

def TB : Nat := 1000000
/-- what is kept from the start on: G; what was frozen then: F0; the slots that keep their values: io -/
structure Bs where
  G : Hp
  F0 : Hp
  io : List Nat
  iv : Nat → V

structure Rel (Γ : Gam) (B : Bs) (τ : Env) (tm : List (V × O)) (σ : St) (H F : Hp) (ω : Lab) : Prop where
  len : σ.length = τ.length
  lt : τ.length ≤ TB
  fh : ∀ b o, F b = some o → H b = some o
  fo : ∀ b o, F b = some o → ω b = none
  oh : ∀ b p, ω b = some p → ∃ o, H b = some o
  gh : ∀ b o, B.G b = some o → H b = some o
  go : ∀ b o, B.G b = some o → ω b = none
  gf : ∀ b o u, B.G b = some o → F b = some u → ∃ u', B.F0 b = some u'
  f0 : ∀ b o, B.F0 b = some o → F b = some o
  slot : ∀ i o, τ[i]? = some (some o) → ∃ v, σ[i]? = some (some v) ∧ Ow Γ ω F H i [] v o
  tmp : ∀ j v o, tm[j]? = some (v, o) → Ow Γ ω F H (TB + j) [] v o
  io : ∀ i ∈ B.io, σ[i]? = some (some (B.iv i))

section
variable {Γ : Gam} {B : Bs} {τ : Env} {tm : List (V × O)} {σ : St} {H F H' F' : Hp} {ω : Lab} {i : Nat} {v : V} {t : T} {o : O}

/-- the heap has grown by new things -/
structure Grow (H F H' F' : Hp) : Prop where
  hh : Sub H H'
  ff : Sub F F'
  fh : Sub F' H'
  fr : ∀ b o, F' b = some o → F b = none → H b = none
theorem Grow.refl (h : Sub F H) : Grow H F H F := ⟨fun _ _ e => e, fun _ _ e => e, h, fun b o e e' => by rw [e] at e'; cases e'⟩
theorem Grow.trans {H2 F2 : Hp} (a : Grow H F H' F') (b : Grow H' F' H2 F2) : Grow H F H2 F2 :=
  ⟨a.hh.trans b.hh, a.ff.trans b.ff, b.fh, fun c o e e' => by
    cases q : F' c with
    | some u => exact a.fr c u q e'
    | none =>
      have := b.fr c o e q
      cases z : H c with
      | none => rfl
      | some u => rw [a.hh c u z] at this; cases this⟩
theorem Grow.new {p : Addr} {ob : HO} (h : Sub F H) (hp : H p = none) : Grow H F (upd H p ob) (upd F p ob) :=
  ⟨fun b o e => by rw [upd_ne (ne_of_none e hp)]; exact e, fun b o e => by rw [upd_ne (ne_of_none (h _ _ e) hp)]; exact e, fun b o e => by
    by_cases q : b = p
    · subst q
      rw [upd_same] at e ⊢
      exact e
    · rw [upd_ne q] at e ⊢
      exact h _ _ e, fun b o e e' => by
    by_cases q : b = p
    · subst q
      exact hp
    · rw [upd_ne q] at e
      rw [e] at e'
      cases e'⟩
theorem Rel.grow (r : Rel Γ B τ tm σ H F ω) (g : Grow H F H' F') : Rel Γ B τ tm σ H' F' ω where
  len := r.len
  lt := r.lt
  fh := g.fh
  fo := fun b o e => by
    cases q : F b with
    | some u => exact r.fo b u q
    | none =>
      cases z : ω b with
      | none => rfl
      | some p =>
        obtain ⟨u, hu⟩ := r.oh b p z
        rw [g.fr b o e q] at hu
        cases hu
  oh := fun b p e => let ⟨u, hu⟩ := r.oh b p e; ⟨u, g.hh b u hu⟩
  gh := fun b o e => g.hh b o (r.gh b o e)
  go := r.go
  gf := fun b o u e e' => by
    cases q : F b with
    | some u' => exact r.gf b o u' e q
    | none =>
      have h1 := r.gh b o e
      rw [g.fr b u e' q] at h1
      cases h1
  f0 := fun b o e => g.ff b o (r.f0 b o e)
  slot := fun i o e => by
    obtain ⟨v, h1, h2⟩ := r.slot i o e
    refine ⟨v, h1, Ow.move g.ff o [] [] v (fun b q z => ⟨z, ?_⟩) h2⟩
    obtain ⟨u, hu⟩ := r.oh b _ z
    rw [g.hh b u hu, hu]
  tmp := fun j v o e => Ow.move g.ff o [] [] v (fun b q z => ⟨z, by
    obtain ⟨u, hu⟩ := r.oh b _ z
    rw [g.hh b u hu, hu]⟩) (r.tmp j v o e)
  io := r.io
theorem Rel.sub (r : Rel Γ B τ tm σ H F ω) : Sub F H := r.fh

/-- a slot is set to a frozen thing, or to nothing -/
theorem Rel.setF (r : Rel Γ B τ tm σ H F ω) (h : Rp Γ F v t) (hi : i ∉ B.io) : Rel Γ B (τ.set i (some (.fz t))) tm (σ.set i (some v)) H F ω where
  len := by simpa using r.len
  lt := by simpa using r.lt
  fh := r.fh
  fo := r.fo
  oh := r.oh
  gh := r.gh
  go := r.go
  gf := r.gf
  f0 := r.f0
  slot := fun j o e => by
    by_cases hj : j = i
    · subst hj
      have hl : j < τ.length := by
        have := (List.getElem?_eq_some_iff.mp e).1
        simpa using this
      rw [List.getElem?_set_self hl] at e
      cases e
      refine ⟨v, ?_, ?_⟩
      · rw [List.getElem?_set_self (by rw [r.len]; exact hl)]
      · simpa only [Ow] using h
    · rw [List.getElem?_set_ne (Ne.symm hj)] at e ⊢
      exact r.slot j o e
  tmp := r.tmp
  io := fun j hj => by
    rw [List.getElem?_set_ne (fun z => hi (by rw [z]; exact hj))]
    exact r.io j hj
theorem Rel.setN (r : Rel Γ B τ tm σ H F ω) {w : Option V} (hi : i ∉ B.io) : Rel Γ B (τ.set i none) tm (σ.set i w) H F ω where
  len := by simpa using r.len
  lt := by simpa using r.lt
  fh := r.fh
  fo := r.fo
  oh := r.oh
  gh := r.gh
  go := r.go
  gf := r.gf
  f0 := r.f0
  slot := fun j o e => by
    by_cases hj : j = i
    · subst hj
      have hl : j < τ.length := by
        have := (List.getElem?_eq_some_iff.mp e).1
        simpa using this
      rw [List.getElem?_set_self hl] at e
      cases e
    · rw [List.getElem?_set_ne (Ne.symm hj)] at e ⊢
      exact r.slot j o e
  tmp := r.tmp
  io := fun j hj => by
    rw [List.getElem?_set_ne (fun z => hi (by rw [z]; exact hj))]
    exact r.io j hj
/-- a slot is forgotten -/
theorem Rel.forget (r : Rel Γ B τ tm σ H F ω) : Rel Γ B (τ.set i none) tm σ H F ω where
  len := by simpa using r.len
  lt := by simpa using r.lt
  fh := r.fh
  fo := r.fo
  oh := r.oh
  gh := r.gh
  go := r.go
  gf := r.gf
  f0 := r.f0
  slot := fun j o e => by
    by_cases hj : j = i
    · subst hj
      have hl : j < τ.length := by
        have := (List.getElem?_eq_some_iff.mp e).1
        simpa using this
      rw [List.getElem?_set_self hl] at e
      cases e
    · rw [List.getElem?_set_ne (Ne.symm hj)] at e
      exact r.slot j o e
  tmp := r.tmp
  io := r.io
/-- a temporary forgotten -/
theorem Rel.dropT (r : Rel Γ B τ (tm ++ [(v, o)]) σ H F ω) : Rel Γ B τ tm σ H F ω where
  len := r.len
  lt := r.lt
  fh := r.fh
  fo := r.fo
  oh := r.oh
  gh := r.gh
  go := r.go
  gf := r.gf
  f0 := r.f0
  slot := r.slot
  tmp := fun j v' o' e => r.tmp j v' o' (by rw [List.getElem?_append_left (List.getElem?_eq_some_iff.mp e).1]; exact e)
  io := r.io
theorem Rel.dropAll {tm' : List (V × O)} (r : Rel Γ B τ (tm ++ tm') σ H F ω) : Rel Γ B τ tm σ H F ω where
  len := r.len
  lt := r.lt
  fh := r.fh
  fo := r.fo
  oh := r.oh
  gh := r.gh
  go := r.go
  gf := r.gf
  f0 := r.f0
  slot := r.slot
  tmp := fun j v' o' e => r.tmp j v' o' (by rw [List.getElem?_append_left (List.getElem?_eq_some_iff.mp e).1]; exact e)
  io := r.io
theorem Rel.lastT (r : Rel Γ B τ (tm ++ [(v, o)]) σ H F ω) : Ow Γ ω F H (TB + tm.length) [] v o := r.tmp tm.length v o (by simp)
/-- a frozen temporary -/
theorem Rel.pushF (r : Rel Γ B τ tm σ H F ω) (h : Rp Γ F v t) : Rel Γ B τ (tm ++ [(v, .fz t)]) σ H F ω where
  len := r.len
  lt := r.lt
  fh := r.fh
  fo := r.fo
  oh := r.oh
  gh := r.gh
  go := r.go
  gf := r.gf
  f0 := r.f0
  slot := r.slot
  tmp := fun j v' o' e => by
    by_cases hj : j < tm.length
    · rw [List.getElem?_append_left hj] at e
      exact r.tmp j v' o' e
    · rw [List.getElem?_append_right (by omega)] at e
      have hj' : j - tm.length = 0 := by
        have := (List.getElem?_eq_some_iff.mp e).1
        simp at this
        omega
      rw [hj'] at e
      simp at e
      obtain ⟨rfl, rfl⟩ := e
      simpa only [Ow] using h
  io := r.io

/-- labels given to what had none in use: the general step. keepL: which roots keep their labels and objects -/
theorem Rel.relab {τ' : Env} {tm' : List (V × O)} {σ' : St} {ω' : Lab} (r : Rel Γ B τ tm σ H F ω)
    (hlen : σ'.length = τ'.length) (hlt : τ'.length ≤ TB) (hh : Sub F H') (hf : Sub F F') (hfh : Sub F' H')
    (hfo : ∀ b o, F' b = some o → ω' b = none) (hoh : ∀ b p, ω' b = some p → ∃ o, H' b = some o) (hgh : ∀ b o, B.G b = some o → H' b = some o) (hgo : ∀ b o, B.G b = some o → ω' b = none)
    (hgf : ∀ b o u, B.G b = some o → F' b = some u → F b = some u) (hslot : ∀ i o, τ'[i]? = some (some o) → ∃ v, σ'[i]? = some (some v) ∧ Ow Γ ω' F' H' i [] v o)
    (htmp : ∀ j v o, tm'[j]? = some (v, o) → Ow Γ ω' F' H' (TB + j) [] v o) (hio : ∀ i ∈ B.io, σ'[i]? = some (some (B.iv i))) : Rel Γ B τ' tm' σ' H' F' ω' :=
  ⟨hlen, hlt, hfh, hfo, hoh, hgh, hgo, fun b o u e e' => r.gf b o u e (hgf b o u e e'), fun b o e => hf b o (r.f0 b o e), hslot, htmp, hio⟩

/-- the labels of root k are moved below (i', s); what stood at the places below i', s is forgotten -/
def mv (ω : Lab) (k i' : Nat) (s : List Nat) : Lab := fun b => match ω b with
  | some (j, r) => if j = k then some (i', r ++ s) else some (j, r)
  | none => none
theorem mv_at {k i' : Nat} {s : List Nat} {b : Addr} {r : List Nat} (h : ω b = some (k, r)) : mv ω k i' s b = some (i', r ++ s) := by
  unfold mv; rw [h]; simp
theorem mv_ne {k i' j : Nat} {s : List Nat} {b : Addr} {r : List Nat} (h : ω b = some (j, r)) (hj : j ≠ k) : mv ω k i' s b = some (j, r) := by
  unfold mv; rw [h]; simp [hj]
theorem mv_none {k i' : Nat} {s : List Nat} {b : Addr} : mv ω k i' s b = none ↔ ω b = none := by
  unfold mv
  cases h : ω b with
  | none => simp
  | some p =>
    obtain ⟨j, r⟩ := p
    by_cases hj : j = k <;> simp [hj]
theorem mv_some {k i' : Nat} {s : List Nat} {b : Addr} {p : Nat × List Nat} (h : mv ω k i' s b = some p) : ∃ q, ω b = some q := by
  cases z : ω b with
  | none => rw [mv_none.mpr z] at h; cases h
  | some q => exact ⟨q, rfl⟩
/-- roots freed: their labels are taken away -/
def cut (ω : Lab) (k : Nat) : Lab := fun b => match ω b with
  | some (j, r) => if j = k then none else some (j, r)
  | none => none
theorem cut_ne {k j : Nat} {b : Addr} {r : List Nat} (h : ω b = some (j, r)) (hj : j ≠ k) : cut ω k b = some (j, r) := by
  unfold cut; rw [h]; simp [hj]
theorem cut_some {k : Nat} {b : Addr} {p : Nat × List Nat} (h : cut ω k b = some p) : ω b = some p ∧ p.1 ≠ k := by
  unfold cut at h
  cases z : ω b with
  | none => rw [z] at h; cases h
  | some q =>
    obtain ⟨j, r⟩ := q
    rw [z] at h
    by_cases hj : j = k
    · simp [hj] at h
    · simp [hj] at h
      subst h
      exact ⟨rfl, hj⟩
/-- what stands at root k joins the frozen -/
def frz (ω : Lab) (F H : Hp) (k : Nat) : Hp := fun b => match ω b with
  | some (j, _) => if j = k then H b else F b
  | none => F b
theorem frz_at {k : Nat} {b : Addr} {r : List Nat} (h : ω b = some (k, r)) : frz ω F H k b = H b := by
  unfold frz; rw [h]; simp
theorem frz_none {k : Nat} {b : Addr} (h : ω b = none) : frz ω F H k b = F b := by unfold frz; rw [h]
theorem frz_ne {k j : Nat} {b : Addr} {r : List Nat} (h : ω b = some (j, r)) (hj : j ≠ k) : frz ω F H k b = F b := by
  unfold frz; rw [h]; simp [hj]
theorem frz_cases {k : Nat} {b : Addr} {u : HO} (h : frz ω F H k b = some u) : F b = some u ∨ (H b = some u ∧ ∃ r, ω b = some (k, r)) := by
  cases z : ω b with
  | none => rw [frz_none z] at h; exact .inl h
  | some p =>
    obtain ⟨j, r⟩ := p
    by_cases hj : j = k
    · subst hj
      rw [frz_at z] at h
      exact .inr ⟨h, r, rfl⟩
    · rw [frz_ne z hj] at h
      exact .inl h
/-- dicts locked -/
def lockO (o : Obj) : HO → HO
  | .dK k => .frz o (.dK k)
  | .dT k => .frz o (.dT k)
  | u => u
open Classical in
noncomputable def lockH (p : Addr → Prop) (od : Addr → Obj) (H : Hp) : Hp := fun b => if p b then (H b).map (lockO (od b)) else H b
theorem lockH_out {p : Addr → Prop} {od : Addr → Obj} {H : Hp} {b : Addr} (h : ¬ p b) : lockH p od H b = H b := by unfold lockH; rw [if_neg h]
theorem lockH_in {p : Addr → Prop} {od : Addr → Obj} {H : Hp} {b : Addr} (h : p b) : lockH p od H b = (H b).map (lockO (od b)) := by unfold lockH; rw [if_pos h]
theorem lockH_lk {p : Addr → Prop} {od : Addr → Obj} {H : Hp} {b : Addr} (h : p b) : LkO (H b) (lockH p od H b) := by
  rw [lockH_in h]
  cases z : H b with
  | none => rfl
  | some u => cases u <;> first | rfl | exact ⟨_, rfl⟩
/-- the places of root k -/
def atR (ω : Lab) (k : Nat) : Addr → Prop := fun b => ∃ r, ω b = some (k, r)
/-- any root but k stays when k is frozen, its dicts locked -/
theorem Rel.frzK {τ' : Env} {tm' : List (V × O)} {k : Nat} {od : Addr → Obj} (r : Rel Γ B τ tm σ H F ω) (hl : τ'.length = τ.length)
    (hs : ∀ i o, τ'[i]? = some (some o) → (i ≠ k ∧ τ[i]? = some (some o)) ∨ ∃ t v, o = .fz t ∧ σ[i]? = some (some v) ∧ Rp Γ (frz ω F (lockH (atR ω k) od H) k) v t)
    (ht : ∀ j v o, tm'[j]? = some (v, o) → (TB + j ≠ k ∧ tm[j]? = some (v, o)) ∨ ∃ t, o = .fz t ∧ Rp Γ (frz ω F (lockH (atR ω k) od H) k) v t) : Rel Γ B τ' tm' σ (lockH (atR ω k) od H) (frz ω F (lockH (atR ω k) od H) k) (cut ω k) := by
  have fs : Sub F (frz ω F (lockH (atR ω k) od H) k) := fun b o e => by
    rw [frz_none (r.fo b o e)]
    exact e
  have out : ∀ {b : Addr}, ω b = none → lockH (atR ω k) od H b = H b := fun {b} e => lockH_out fun ⟨q, z⟩ => by rw [e] at z; cases z
  have keep : ∀ {i : Nat} {v : V} {o : O}, i ≠ k → Ow Γ ω F H i [] v o → Ow Γ (cut ω k) (frz ω F (lockH (atR ω k) od H) k) (lockH (atR ω k) od H) i [] v o := fun {i v o} hi h =>
    Ow.move fs o [] [] v (fun b q z => ⟨cut_ne z hi, lockH_out fun ⟨q', z'⟩ => by rw [z] at z'; cases z'; exact hi rfl⟩) h
  have hh : ∀ b o, H b = some o → ∃ o', lockH (atR ω k) od H b = some o' := fun b o e => by
    by_cases y : atR ω k b
    · rw [lockH_in y, e]; exact ⟨_, rfl⟩
    · rw [lockH_out y]; exact ⟨o, e⟩
  refine ⟨by rw [r.len, hl], by rw [hl]; exact r.lt, fun b o e => ?_, fun b o e => ?_, fun b p e => ?_, fun b o e => ?_, fun b o e => ?_, fun b o u e e' => ?_, fun b o e => fs b o (r.f0 b o e), fun i o e => ?_, fun j v o e => ?_, r.io⟩
  · rcases frz_cases e with z | ⟨z, _⟩
    · rw [out (r.fo b o z)]; exact r.fh b o z
    · exact z
  · rcases frz_cases e with z | ⟨_, q, z⟩
    · cases y : cut ω k b with
      | none => rfl
      | some p =>
        have := (cut_some y).1
        rw [r.fo b o z] at this
        cases this
    · cases y : cut ω k b with
      | none => rfl
      | some p =>
        obtain ⟨h1, h2⟩ := cut_some y
        rw [z] at h1
        cases h1
        exact absurd rfl h2
  · obtain ⟨o, ho⟩ := r.oh b p (cut_some e).1
    exact hh b o ho
  · rw [out (r.go b o e)]; exact r.gh b o e
  · cases y : cut ω k b with
    | none => rfl
    | some p =>
      have := (cut_some y).1
      rw [r.go b o e] at this
      cases this
  · rcases frz_cases e' with z | ⟨_, q, z⟩
    · exact r.gf b o u e z
    · rw [r.go b o e] at z
      cases z
  · rcases hs i o e with ⟨hi, e1⟩ | ⟨t, v, rfl, e1, e2⟩
    · obtain ⟨v, h1, h2⟩ := r.slot i o e1
      exact ⟨v, h1, keep hi h2⟩
    · exact ⟨v, e1, by simpa only [Ow] using e2⟩
  · rcases ht j v o e with ⟨hi, e1⟩ | ⟨t, rfl, e2⟩
    · exact keep hi (r.tmp j v o e1)
    · simpa only [Ow] using e2
theorem Rel.frzSub {H' : Hp} (r : Rel Γ B τ tm σ H F ω) (k : Nat) : Sub F (frz ω F H' k) := fun b o e => by
  rw [frz_none (r.fo b o e)]
  exact e
theorem Rel.frzOw {od : Addr → Obj} {k : Nat} (r : Rel Γ B τ tm σ H F ω) (h : Ow Γ ω F H k [] v o) : Rp Γ (frz ω F (lockH (atR ω k) od H) k) v o.er :=
  Ow.freeze (r.frzSub _) o [] v (fun b q z => by
    rw [frz_at z]
    exact lockH_lk ⟨_, z⟩) h
/-- the last temporary is frozen and handed out -/
theorem Rel.frzT {od : Addr → Obj} (r : Rel Γ B τ (tm ++ [(v, o)]) σ H F ω) : ∃ F' ω', Rel Γ B τ tm σ (lockH (atR ω (TB + tm.length)) od H) F' ω' ∧ Sub F F' ∧ Rp Γ F' v o.er := by
  refine ⟨_, _, Rel.frzK (k := TB + tm.length) (od := od) r rfl (fun i o e => .inl ⟨?_, e⟩) (fun j v' o' e => .inl ⟨?_, ?_⟩), r.frzSub _, r.frzOw r.lastT⟩
  · have := (List.getElem?_eq_some_iff.mp e).1
    have := r.lt
    omega
  · have := (List.getElem?_eq_some_iff.mp e).1
    omega
  · rw [List.getElem?_append_left (List.getElem?_eq_some_iff.mp e).1]
    exact e
/-- a slot is frozen -/
theorem Rel.frzS {od : Addr → Obj} (r : Rel Γ B τ tm σ H F ω) (hi : τ[i]? = some (some o)) : ∃ v F' ω', σ[i]? = some (some v) ∧ Rel Γ B (τ.set i (some (.fz o.er))) tm σ (lockH (atR ω i) od H) F' ω' ∧ Sub F F' ∧ Rp Γ F' v o.er := by
  obtain ⟨v, h1, h2⟩ := r.slot i o hi
  have hv : Rp Γ (frz ω F (lockH (atR ω i) od H) i) v o.er := r.frzOw h2
  refine ⟨v, _, _, h1, Rel.frzK (k := i) r (by simp) (fun j o' e => ?_) (fun j v' o' e => .inl ⟨?_, e⟩), r.frzSub i, hv⟩
  · by_cases hj : j = i
    · subst hj
      rw [List.getElem?_set_self (List.getElem?_eq_some_iff.mp hi).1] at e
      cases e
      exact .inr ⟨_, v, rfl, h1, hv⟩
    · rw [List.getElem?_set_ne (Ne.symm hj)] at e
      exact .inl ⟨hj, e⟩
  · have := (List.getElem?_eq_some_iff.mp hi).1
    have := r.lt
    omega
/-- the last temporary goes into a slot -/
theorem Rel.toSlot (r : Rel Γ B τ (tm ++ [(v, o)]) σ H F ω) (hi : i < τ.length) (hn : i ∉ B.io) : ∃ ω', Rel Γ B (τ.set i (some o)) tm (σ.set i (some v)) H F ω' := by
  refine ⟨mv ω (TB + tm.length) i [], r.relab (by simpa using r.len) (by simpa using r.lt) r.fh (fun _ _ e => e) r.fh (fun b o e => mv_none.mpr (r.fo b o e)) (fun b p e => let ⟨q, hq⟩ := mv_some e; r.oh b q hq) r.gh (fun b o e => mv_none.mpr (r.go b o e)) (fun _ _ _ _ e => e) (fun j o' e => ?_) (fun j v' o' e => ?_) (fun j hj => ?_)⟩
  · by_cases hj : j = i
    · subst hj
      rw [List.getElem?_set_self hi] at e
      cases e
      refine ⟨v, by rw [List.getElem?_set_self (by rw [r.len]; exact hi)], Ow.move (fun _ _ e => e) _ [] [] v (fun b q z => ⟨by
        have := mv_at (i' := j) (s := []) z
        simpa using this, rfl⟩) r.lastT⟩
    · rw [List.getElem?_set_ne (Ne.symm hj)] at e ⊢
      obtain ⟨u, h1, h2⟩ := r.slot j o' e
      have := (List.getElem?_eq_some_iff.mp e).1
      have := r.lt
      exact ⟨u, h1, Ow.move (fun _ _ e => e) _ [] [] u (fun b q z => ⟨mv_ne z (by omega), rfl⟩) h2⟩
  · have hlt := (List.getElem?_eq_some_iff.mp e).1
    exact Ow.move (fun _ _ e => e) _ [] [] v' (fun b q z => ⟨mv_ne z (by omega), rfl⟩) (r.tmp j v' o' (by rw [List.getElem?_append_left hlt]; exact e))
  · rw [List.getElem?_set_ne (fun z => hn (by rw [z]; exact hj))]
    exact r.io j hj
/-- a new object at p, its things frozen or the last temporaries' -/
theorem Rel.newT {p : Addr} {ob : HO} (r : Rel Γ B τ tm σ H F ω) (hp : H p = none) (ho : ∀ ω', ω' p = some (TB + tm.length, []) → Ow Γ ω' F (upd H p ob) (TB + tm.length) [] (.ref p) o) :
    ∃ ω', Rel Γ B τ (tm ++ [(.ref p, o)]) σ (upd H p ob) F ω' := by
  have np : ∀ b u, H b = some u → b ≠ p := fun b u e => ne_of_none e hp
  have keep : ∀ {i : Nat} {v : V} {o : O}, Ow Γ ω F H i [] v o → Ow Γ (fun b => if b = p then some (TB + tm.length, []) else ω b) F (upd H p ob) i [] v o := fun {i v o} h =>
    Ow.move (fun _ _ e => e) o [] [] v (fun b q z => by
      obtain ⟨u, hu⟩ := r.oh b _ z
      have := np b u hu
      exact ⟨by rw [if_neg this]; exact z, by rw [upd_ne this]⟩) h
  refine ⟨fun b => if b = p then some (TB + tm.length, []) else ω b, r.relab r.len r.lt (fun b o e => ?_) (fun _ _ e => e) (fun b o e => ?_) (fun b o e => ?_) (fun b q e => ?_) (fun b o e => ?_) (fun b o e => ?_) (fun _ _ _ _ e => e) (fun j o' e => ?_) (fun j v' o' e => ?_) r.io⟩
  · rw [upd_ne (np b o (r.fh b o e))]
    exact r.fh b o e
  · rw [upd_ne (np b o (r.fh b o e))]
    exact r.fh b o e
  · show (if b = p then _ else _) = _
    rw [if_neg (np b o (r.fh b o e))]
    exact r.fo b o e
  · by_cases hb : b = p
    · subst hb
      exact ⟨_, upd_same⟩
    · have e' : ω b = some q := by
        have e : (if b = p then some (TB + tm.length, []) else ω b) = some q := e
        rw [if_neg hb] at e
        exact e
      obtain ⟨u, hu⟩ := r.oh b q e'
      exact ⟨u, by rw [upd_ne hb]; exact hu⟩
  · rw [upd_ne (np b o (r.gh b o e))]
    exact r.gh b o e
  · show (if b = p then _ else _) = _
    rw [if_neg (np b o (r.gh b o e))]
    exact r.go b o e
  · obtain ⟨v, h1, h2⟩ := r.slot j o' e
    exact ⟨v, h1, keep h2⟩
  · by_cases hj : j < tm.length
    · rw [List.getElem?_append_left hj] at e
      exact keep (r.tmp j v' o' e)
    · rw [List.getElem?_append_right (by omega)] at e
      have hj' : j - tm.length = 0 := by
        have := (List.getElem?_eq_some_iff.mp e).1
        simp at this
        omega
      rw [hj'] at e
      simp at e
      obtain ⟨rfl, rfl⟩ := e
      have : j = tm.length := by omega
      subst this
      exact ho _ (by simp)
theorem Rel.newList {p : Addr} {xs : List V} {ts : List T} (r : Rel Γ B τ tm σ H F ω) (hp : H p = none) (h : RpL Γ F xs ts) : ∃ ω', Rel Γ B τ (tm ++ [(.ref p, .lst (ts.map .fz))]) σ (upd H p (.lst xs)) F ω' :=
  r.newT hp fun ω' e => by
    simp only [Ow]
    exact ⟨p, xs, rfl, e, upd_same, (OwL.fz ts [] 0 xs).mpr h⟩
theorem Rel.newF {p : Addr} {ob : HO} (r : Rel Γ B τ tm σ H F ω) (hp : H p = none) : Rel Γ B τ tm σ (upd H p ob) (upd F p ob) ω := r.grow (.new r.fh hp)
/-- the object at a of root i is written (a's place is s), the root's tree with it -/
theorem Rel.write {a : Addr} {ob : HO} {s : List Nat} {o' : O} (r : Rel Γ B τ tm σ H F ω) (ha : ω a = some (i, s)) (hi : i < τ.length) (ho : ∀ v, σ[i]? = some (some v) → Ow Γ ω F H i [] v o → Ow Γ ω F (upd H a ob) i [] v o') (h0 : τ[i]? = some (some o)) :
    Rel Γ B (τ.set i (some o')) tm σ (upd H a ob) F ω := by
  have keep : ∀ {k : Nat} {v : V} {o : O}, k ≠ i → Ow Γ ω F H k [] v o → Ow Γ ω F (upd H a ob) k [] v o := fun {k v o} hk h =>
    Ow.move (fun _ _ e => e) o [] [] v (fun b q z => ⟨z, upd_ne (fun y => by
      subst y
      rw [ha] at z
      cases z
      exact hk rfl)⟩) h
  have nf : ∀ b u, F b = some u → b ≠ a := fun b u e y => by
    subst y
    rw [r.fo b u e] at ha
    cases ha
  have ng : ∀ b u, B.G b = some u → b ≠ a := fun b u e y => by
    subst y
    rw [r.go b u e] at ha
    cases ha
  refine r.relab (by simpa using r.len) (by simpa using r.lt) (fun b o e => ?_) (fun _ _ e => e) (fun b o e => ?_) r.fo (fun b q e => ?_) (fun b o e => ?_) r.go (fun _ _ _ _ e => e) (fun j o' e => ?_) (fun j v' o' e => ?_) r.io
  · rw [upd_ne (nf b o e)]
    exact r.fh b o e
  · rw [upd_ne (nf b o e)]
    exact r.fh b o e
  · by_cases hb : b = a
    · subst hb
      exact ⟨_, upd_same⟩
    · rw [upd_ne hb]
      exact r.oh b q e
  · rw [upd_ne (ng b o e)]
    exact r.gh b o e
  · by_cases hj : j = i
    · subst hj
      rw [List.getElem?_set_self hi] at e
      cases e
      obtain ⟨v, h1, h2⟩ := r.slot j o h0
      exact ⟨v, h1, ho v h1 h2⟩
    · rw [List.getElem?_set_ne (Ne.symm hj)] at e
      obtain ⟨v, h1, h2⟩ := r.slot j o' e
      exact ⟨v, h1, keep hj h2⟩
  · have := r.lt
    exact keep (by omega) (r.tmp j v' o' e)
/-- another ground: G may only shrink, what was frozen may be more -/
theorem Rel.base {B' : Bs} (r : Rel Γ B τ tm σ H F ω) (hg : ∀ b o, B'.G b = some o → B.G b = some o) (hf : ∀ b o, B'.F0 b = some o → F b = some o) (hgf : ∀ b o u, B'.G b = some o → F b = some u → ∃ u', B'.F0 b = some u') (hio : ∀ i ∈ B'.io, i ∈ B.io ∧ B'.iv i = B.iv i) : Rel Γ B' τ tm σ H F ω :=
  ⟨r.len, r.lt, r.fh, r.fo, r.oh, fun b o e => r.gh b o (hg b o e), fun b o e => r.go b o (hg b o e), hgf, hf, r.slot, r.tmp, fun i hi => by rw [(hio i hi).2]; exact r.io i (hio i hi).1⟩
end
end TL
set_option Elab.async false
set_option linter.all false
set_option maxRecDepth 100000
set_option maxHeartbeats 0
/-! TL3: judgements; constants, names, operators, comparisons, tests, displays. -/
namespace TL
open PySem PySem.Spec L2

/-- what is fixed along a body: the trees' ground, what is wished of exceptions, the slots that must keep their values -/
structure Sx where
  Γ : Gam
  W : WX
  io : List Nat
  /-- values that slots keep (a caught exception) -/
  ix : List (Nat × V)
  /-- what stands untouched (a caught exception's dict) -/
  ig : List (Addr × HO)
def Sx.okB (Ψ : Sx) (B : Bs) : Prop := B.io = Ψ.io ∧ (∀ p ∈ Ψ.ix, B.iv p.1 = p.2) ∧ ∀ p ∈ Ψ.ig, B.G p.1 = some p.2

abbrev DE := Env → R T
abbrev DO := Env → R O
abbrev DB := Env → R Bool
abbrev DL := Env → R (List T)

section
variable (Ψ : Sx)
def exP (B : Bs) (σ : St) : Nat → List T → Env → Prop := fun e fs τ' => ∀ cls d H' F' ω' tm', Rel Ψ.Γ B τ' tm' σ H' F' ω' → Ψ.Γ.xr e fs cls d H' → Ψ.W cls d σ H'
def tE (d : DE) : TE := fun σ H Q => ∃ B τ tm F ω, Rel Ψ.Γ B τ tm σ H F ω ∧ Ψ.okB B ∧ (d τ).sat (fun t τ' => ∀ v H' F' ω', Rel Ψ.Γ B τ' tm σ H' F' ω' → Sub F F' → Rp Ψ.Γ F' v t → Q v H') (exP Ψ B σ)
def tO (d : DO) : TE := fun σ H Q => ∃ B τ tm F ω, Rel Ψ.Γ B τ tm σ H F ω ∧ Ψ.okB B ∧ (d τ).sat (fun o τ' => ∀ v H' F' ω', Rel Ψ.Γ B τ' (tm ++ [(v, o)]) σ H' F' ω' → Sub F F' → Q v H') (exP Ψ B σ)
def tT (d : DB) : TT := fun σ H Q => ∃ B τ tm F ω, Rel Ψ.Γ B τ tm σ H F ω ∧ Ψ.okB B ∧ (d τ).sat (fun b τ' => ∀ H' F' ω', Rel Ψ.Γ B τ' tm σ H' F' ω' → Sub F F' → Q b H') (exP Ψ B σ)
def tA (d : DL) : TA := fun σ H Q => ∃ B τ tm F ω, Rel Ψ.Γ B τ tm σ H F ω ∧ Ψ.okB B ∧ (d τ).sat (fun ts τ' => ∀ vs H' F' ω', Rel Ψ.Γ B τ' tm σ H' F' ω' → Sub F F' → RpL Ψ.Γ F' vs ts → Q vs H') (exP Ψ B σ)
end
theorem PE.imp {X : Cx} {e : Expr} {t t' : TE} (h : PE X e t) (i : ∀ σ H Q, t' σ H Q → t σ H Q) : PE X e t' := ⟨fun pins s σ H Q I q => h.run pins s σ H Q I (i σ H Q q)⟩
theorem PT.imp {X : Cx} {e : Expr} {t t' : TT} (h : PT X e t) (i : ∀ σ H Q, t' σ H Q → t σ H Q) : PT X e t' := ⟨fun pins s σ H Q I q => h.run pins s σ H Q I (i σ H Q q)⟩
theorem PW.imp {X : Cx} {e : Expr} {t t' : TT} (h : PW X e t) (i : ∀ σ H Q, t' σ H Q → t σ H Q) : PW X e t' := ⟨fun wh pins s σ H Q I q => h.run wh pins s σ H Q I (i σ H Q q)⟩
theorem PA.imp {X : Cx} {es : List Expr} {t t' : TA} (h : PA X es t) (i : ∀ σ H Q, t' σ H Q → t σ H Q) : PA X es t' := ⟨fun pos pins s σ H Q I q => h.run pos pins s σ H Q I (i σ H Q q)⟩
theorem PS.imp {X : Cx} {e : Stmt} {t t' : TS} (h : PS X e t) (i : ∀ D σ H, t' D σ H → t D σ H) : PS X e t' := ⟨fun pins s σ H D I q => h.run pins s σ H D I (i D σ H q)⟩
theorem PSs.imp {X : Cx} {e : List Stmt} {t t' : TS} (h : PSs X e t) (i : ∀ D σ H, t' D σ H → t D σ H) : PSs X e t' := ⟨fun pins s σ H D I q => h.run pins s σ H D I (i D σ H q)⟩

/-! ### dicts locked and unlocked along the way -/
open Classical in
theorem Inv.lockS {X : Cx} {pins : List (Addr × Obj)} {σ : St} {H : Hp} {s : Shared} (I : L2.Inv X pins σ H s) (p : Addr → Prop) : ∃ od, L2.Inv X pins σ (lockH p od H) s := by
  have step : ∀ n : Nat, ∃ od, L2.Inv X pins σ (lockH (fun b => p b ∧ b < n) od H) s := fun n => by
    induction n with
    | zero =>
      refine ⟨fun _ => PySem.W.emptyDict, ?_⟩
      have e : lockH (fun b => p b ∧ b < 0) (fun _ => PySem.W.emptyDict) H = H := funext fun b => lockH_out fun z => Nat.not_lt_zero _ z.2
      rw [e]
      exact I
    | succ n ih =>
      obtain ⟨od, J⟩ := ih
      have same : ¬ (p n ∧ ∃ u, H n = some u ∧ lockO PySem.W.emptyDict u ≠ u) → lockH (fun b => p b ∧ b < n + 1) od H = lockH (fun b => p b ∧ b < n) od H := fun hn => funext fun b => by
        by_cases hb : b = n
        · subst hb
          rw [lockH_out (p := fun c => p c ∧ c < b) (fun z => Nat.lt_irrefl _ z.2)]
          by_cases hp : p b
          · rw [lockH_in (p := fun c => p c ∧ c < b + 1) ⟨hp, Nat.lt_succ_self _⟩]
            cases z : H b with
            | none => rfl
            | some u =>
              have : lockO PySem.W.emptyDict u = u := Classical.byContradiction fun y => hn ⟨hp, u, z, y⟩
              cases u <;> first | rfl | cases this
          · rw [lockH_out (p := fun c => p c ∧ c < b + 1) (fun z => hp z.1)]
        · by_cases hp : p b ∧ b < n
          · rw [lockH_in (p := fun c => p c ∧ c < n) hp, lockH_in (p := fun c => p c ∧ c < n + 1) ⟨hp.1, Nat.lt_succ_of_lt hp.2⟩]
          · rw [lockH_out (p := fun c => p c ∧ c < n) hp, lockH_out (p := fun c => p c ∧ c < n + 1) (fun z => hp ⟨z.1, Nat.lt_of_le_of_ne (Nat.lt_succ_iff.mp z.2) hb⟩)]
      by_cases hn : p n ∧ ∃ u, H n = some u ∧ lockO PySem.W.emptyDict u ≠ u
      · obtain ⟨hp, u, hu, hd⟩ := hn
        have e0 : lockH (fun b => p b ∧ b < n) od H n = some u := by rw [lockH_out (p := fun c => p c ∧ c < n) (fun z => Nat.lt_irrefl _ z.2)]; exact hu
        have mu : L2.Mut (some u) := by cases u <;> first | exact absurd rfl hd | exact True.intro
        obtain ⟨o, J2⟩ := L2.Inv.lock J e0 mu
        refine ⟨fun b => if b = n then o else od b, ?_⟩
        have e : lockH (fun b => p b ∧ b < n + 1) (fun b => if b = n then o else od b) H = upd (lockH (fun b => p b ∧ b < n) od H) n (.frz o u) := funext fun b => by
          by_cases hb : b = n
          · subst hb
            rw [upd_same, lockH_in (p := fun c => p c ∧ c < b + 1) ⟨hp, Nat.lt_succ_self _⟩, hu]
            show some (lockO (if b = b then o else od b) u) = _
            rw [if_pos rfl]
            cases u <;> first | rfl | exact absurd rfl hd
          · rw [upd_ne hb]
            by_cases hq : p b ∧ b < n
            · rw [lockH_in (p := fun c => p c ∧ c < n) hq, lockH_in (p := fun c => p c ∧ c < n + 1) ⟨hq.1, Nat.lt_succ_of_lt hq.2⟩]
              show (H b).map (lockO (if b = n then o else od b)) = _
              rw [if_neg hb]
            · rw [lockH_out (p := fun c => p c ∧ c < n) hq, lockH_out (p := fun c => p c ∧ c < n + 1) (fun z => hq ⟨z.1, Nat.lt_of_le_of_ne (Nat.lt_succ_iff.mp z.2) hb⟩)]
        rw [e]
        exact J2
      · exact ⟨od, by rw [same hn]; exact J⟩
  obtain ⟨od, J⟩ := step s.heap.objs.size
  refine ⟨od, ?_⟩
  have e : lockH p od H = lockH (fun b => p b ∧ b < s.heap.objs.size) od H := funext fun b => by
    by_cases hb : b < s.heap.objs.size
    · by_cases hp : p b
      · rw [lockH_in hp, lockH_in (p := fun b => p b ∧ b < s.heap.objs.size) ⟨hp, hb⟩]
      · rw [lockH_out hp, lockH_out (p := fun b => p b ∧ b < s.heap.objs.size) (fun z => hp z.1)]
    · rw [lockH_out (p := fun b => p b ∧ b < s.heap.objs.size) (fun z => hb z.2)]
      have : H b = none := I.hok.fresh (Nat.le_of_not_lt hb)
      by_cases hp : p b
      · rw [lockH_in hp, this]; rfl
      · rw [lockH_out hp]
  rw [e]
  exact J
def isDO : Option HO → Bool
  | some (.dK _) => true
  | some (.dT _) => true
  | _ => false
open Classical in
noncomputable def unlH (p : Addr → Prop) (H H' : Hp) : Hp := fun b => if p b ∧ isDO (H b) = true then H b else H' b
theorem unlH_in {p : Addr → Prop} {H H' : Hp} {b : Addr} (h : p b ∧ isDO (H b) = true) : unlH p H H' b = H b := by unfold unlH; rw [if_pos h]
theorem unlH_out {p : Addr → Prop} {H H' : Hp} {b : Addr} (h : ¬ (p b ∧ isDO (H b) = true)) : unlH p H H' b = H' b := by unfold unlH; rw [if_neg h]
theorem unlH_le {p : Addr → Prop} {H H' : Hp} {n : Nat} {b : Addr} (hb : b ≠ n) : unlH (fun b => p b ∧ b < n + 1) H H' b = unlH (fun b => p b ∧ b < n) H H' b := by
  by_cases hq : (p b ∧ b < n) ∧ isDO (H b) = true
  · rw [unlH_in (p := fun b => p b ∧ b < n) hq, unlH_in (p := fun b => p b ∧ b < n + 1) ⟨⟨hq.1.1, Nat.lt_succ_of_lt hq.1.2⟩, hq.2⟩]
  · rw [unlH_out (p := fun b => p b ∧ b < n) hq, unlH_out (p := fun b => p b ∧ b < n + 1) (fun z => hq ⟨⟨z.1.1, Nat.lt_of_le_of_ne (Nat.lt_succ_iff.mp z.1.2) hb⟩, z.2⟩)]
open Classical in
theorem Inv.unlockS {X : Cx} {pins : List (Addr × Obj)} {σ : St} {H H' : Hp} {s : Shared} {p : Addr → Prop} {od : Addr → Obj} (I : L2.Inv X pins σ H' s) (hf : ∀ b u, p b → H b = some u → H' b = some (lockO (od b) u)) (hn : ∀ b u, H b = some u → L2.Mut (some u) → ∀ o' u', X.H_0 b ≠ some (.frz o' u')) :
    L2.Inv X pins σ (unlH p H H') s := by
  have step : ∀ n : Nat, L2.Inv X pins σ (unlH (fun b => p b ∧ b < n) H H') s := fun n => by
    induction n with
    | zero =>
      have e : unlH (fun b => p b ∧ b < 0) H H' = H' := funext fun b => unlH_out (p := fun b => p b ∧ b < 0) fun z => Nat.not_lt_zero _ z.1.2
      rw [e]
      exact I
    | succ n ih =>
      by_cases hp : p n ∧ isDO (H n) = true
      · obtain ⟨hp, hd⟩ := hp
        obtain ⟨u, hu⟩ : ∃ u, H n = some u := by
          cases z : H n with
          | none => rw [z] at hd; cases hd
          | some u => exact ⟨u, rfl⟩
        have mu : L2.Mut (some u) ∧ lockO (od n) u = .frz (od n) u := by rw [hu] at hd; cases u <;> first | (cases hd; done) | exact ⟨True.intro, rfl⟩
        have e0 : unlH (fun b => p b ∧ b < n) H H' n = some (.frz (od n) u) := by
          rw [unlH_out (p := fun b => p b ∧ b < n) (fun z => Nat.lt_irrefl _ z.1.2), hf n u hp hu, mu.2]
        have J2 := L2.Inv.unlock ih e0 (hn n u hu mu.1)
        have e : unlH (fun b => p b ∧ b < n + 1) H H' = upd (unlH (fun b => p b ∧ b < n) H H') n u := funext fun b => by
          by_cases hb : b = n
          · subst hb
            rw [upd_same, unlH_in (p := fun c => p c ∧ c < b + 1) ⟨⟨hp, Nat.lt_succ_self _⟩, hd⟩, hu]
          · rw [upd_ne hb, unlH_le hb]
        rw [e]
        exact J2
      · have e : unlH (fun b => p b ∧ b < n + 1) H H' = unlH (fun b => p b ∧ b < n) H H' := funext fun b => by
          by_cases hb : b = n
          · subst hb
            rw [unlH_out (p := fun c => p c ∧ c < b + 1) (fun z => hp ⟨z.1.1, z.2⟩), unlH_out (p := fun c => p c ∧ c < b) (fun z => hp ⟨z.1.1, z.2⟩)]
          · exact unlH_le hb
        rw [e]
        exact ih
  have J := step s.heap.objs.size
  have e : unlH p H H' = unlH (fun b => p b ∧ b < s.heap.objs.size) H H' := funext fun b => by
    by_cases hq : p b ∧ isDO (H b) = true
    · by_cases hb : b < s.heap.objs.size
      · rw [unlH_in hq, unlH_in (p := fun b => p b ∧ b < s.heap.objs.size) ⟨⟨hq.1, hb⟩, hq.2⟩]
      · exfalso
        have h1 : H' b = none := I.hok.fresh (Nat.le_of_not_lt hb)
        cases z : H b with
        | none => rw [z] at hq; exact absurd hq.2 (by decide)
        | some u => rw [hf b u hq.1 z] at h1; cases h1
    · rw [unlH_out hq, unlH_out (p := fun b => p b ∧ b < s.heap.objs.size) (fun z => hq ⟨z.1.1, z.2⟩)]
  rw [e]
  exact J
def tLk (t : TE) : TE := fun σ H Q => t σ H fun v H1 => ∃ p, ∀ od, Q v (lockH p od H1)
theorem pe_lk {X : Cx} {e : Expr} {t : TE} (h : PE X e t) : PE X e (tLk t) := by
  refine ⟨fun pins s σ H Q I hw => ?_⟩
  refine thn (h.run pins s σ _ _ I hw) fun v s1 ⟨x, H1, I2, r, p, q⟩ => ?_
  obtain ⟨od, I3⟩ := Inv.lockS I2 p
  exact ⟨x, _, I3, r, q od⟩
def tLkU (t : TE) : TE := fun σ H Q => ∃ p, ∀ od, t σ (lockH p od H) fun v H' => (∀ b u, p b → H b = some u → H' b = some (lockO (od b) u)) ∧ Q v (unlH p H H')
def tLkB (t : TT) : TT := fun σ H Q => ∃ p, ∀ od, t σ (lockH p od H) fun v H' => (∀ b u, p b → H b = some u → H' b = some (lockO (od b) u)) ∧ Q v (unlH p H H')
theorem pe_lkU {X : Cx} {e : Expr} {t : TE} (h : PE X e t) : PE X e (tLkU t) := by
  refine ⟨fun pins s σ H Q I hw => ?_⟩
  obtain ⟨p, hw⟩ := hw
  obtain ⟨od, I1⟩ := Inv.lockS I p
  refine thn (h.run pins s σ _ _ I1 (hw od)) fun v s1 ⟨x, H1, I2, r, e2, q⟩ => ?_
  exact ⟨x, _, Inv.unlockS I2 e2 (fun b u hu mu => I.nofrz hu mu), r, q⟩
theorem pt_lkU {X : Cx} {e : Expr} {t : TT} (h : PT X e t) : PT X e (tLkB t) := by
  refine ⟨fun pins s σ H Q I hw => ?_⟩
  obtain ⟨p, hw⟩ := hw
  obtain ⟨od, I1⟩ := Inv.lockS I p
  refine thn (h.run pins s σ _ _ I1 (hw od)) fun v s1 ⟨H1, I2, e2, q⟩ => ?_
  exact ⟨_, Inv.unlockS I2 e2 (fun b u hu mu => I.nofrz hu mu), q⟩

/-! ### constants, names -/
def dC (t : T) : DE := fun τ => .ok t τ
def dV (i : Nat) : DE := fun τ => match τ[i]? with
  | some (some (.fz t)) => .ok t τ
  | some (some o) => .ok o.er (τ.set i (some (.fz o.er)))
  | _ => .st
def atT (t : T) (τ : Env) : R T := .ok t τ
section
variable {X : Cx} {Ψ : Sx} {e a b c : Expr} {pos : Pos} {da db dc : DE} {ta tb : TE}
theorem de_const {v : V} {t : T} (h : PE X e (tC v)) (ht : ∀ F, Rp Ψ.Γ F v t) : PE X e (tE Ψ (dC t)) := PE.imp h fun σ H Q ⟨B, τ, tm, F, ω, r, hio, q⟩ => q v H F ω r (fun _ _ e => e) (ht F)
theorem de_int {i : Int} {j pos} : PE X (.Constant (.int i) j pos) (tE Ψ (dC (.int i))) := de_const pe_int fun F => by simp only [Rp]
theorem de_bl {i : Bool} {j pos} : PE X (.Constant (.bool i) j pos) (tE Ψ (dC (.bl i))) := de_const pe_bl fun F => by simp only [Rp]
theorem de_non {j pos} : PE X (.Constant .none j pos) (tE Ψ (dC .non)) := de_const pe_non fun F => by simp only [Rp]
theorem de_str {s : Cs} {z : Str} {j pos} (h : z = mkStr s) : PE X (.Constant (.str z) j pos) (tE Ψ (dC (.str s))) := de_const pe_str fun F => by simp only [Rp]; rw [h]
theorem de_glob {x : Str} {v : V} {u : Value} {t : T} (hg : Gl X x) (hm : X.mg x = some u) (r : RelV v u) (ht : ∀ F, Rp Ψ.Γ F v t) (hd : (x == ("__debug__" : Str)) = false := by decide) : PE X (.Name x pos) (tE Ψ (dC t)) := de_const (pe_glob hg hm r hd) ht
theorem de_var {i : Nat} (h : PE X e (tVar i)) : PE X e (tE Ψ (dV i)) := by
  refine PE.imp (pe_lk h) fun σ H Q ⟨B, τ, tm, F, ω, r, hio, q⟩ => ?_
  unfold dV at q
  cases z : τ[i]? with
  | none => rw [z] at q; exact q.elim
  | some w =>
    cases w with
    | none => rw [z] at q; exact q.elim
    | some o =>
      have gen : (R.ok o.er (τ.set i (some (.fz o.er))) : R T).sat (fun t τ' => ∀ v H' F' ω', Rel Ψ.Γ B τ' tm σ H' F' ω' → Sub F F' → Rp Ψ.Γ F' v t → Q v H') (exP Ψ B σ) → tLk (tVar i) σ H Q := fun q => by
        obtain ⟨v, g1, _⟩ := r.slot i o z
        refine ⟨v, g1, atR ω i, fun od => ?_⟩
        obtain ⟨v', F', ω', h1, h2, h3, h4⟩ := r.frzS (od := od) z
        rw [g1] at h1
        cases h1
        exact q v _ F' ω' h2 h3 h4
      rw [z] at q
      cases o with
      | fz t =>
        obtain ⟨v, h1, h2⟩ := r.slot i _ z
        refine ⟨v, h1, fun _ => False, fun od => ?_⟩
        rw [show lockH (fun _ => False) od H = H from funext fun b => lockH_out id]
        exact q v H F ω r (fun _ _ e => e) (by simpa only [Ow] using h2)
      | lst l => exact gen q
      | dic ks vs => exact gen q
      | dct ks vs => exact gen q
      | obj c vs => exact gen q

/-! ### two in a row -/
/-- the value's road is done: the heap has grown, the value stands for t -/
def Nw (Γ : Gam) (H F : Hp) (t : T) (Q : VK) : Prop := ∀ v H' F', Grow H F H' F' → Rp Γ F' v t → Q v H'
theorem Nw.same {Γ : Gam} {H F : Hp} {t : T} {Q : VK} {v : V} (n : Nw Γ H F t Q) (s : Sub F H) (r : Rp Γ F v t) : Q v H := n v H F (.refl s) r
theorem Nw.new {Γ : Gam} {H F : Hp} {t : T} {Q : VK} {p : Addr} {ob : HO} (n : Nw Γ H F t Q) (s : Sub F H) (hp : H p = none) (r : Rp Γ (upd F p ob) (.ref p) t) : Q (.ref p) (upd H p ob) := n _ _ _ (.new s hp) r
def dOp (g : T → T → Option T) (da db : DE) : DE := fun τ => (da τ).bind fun x τ1 => (db τ1).bind fun y τ2 => match g x y with
  | some z => .ok z τ2
  | none => .st
def OpT (Γ : Gam) (X : Cx) (f : Value → Value → Sem Value) (g : T → T → Option T) : Prop :=
  ∃ r : R2, OpR X f r ∧ ∀ s t u H F x y Q, g s t = some u → Sub F H → Rp Γ F x s → Rp Γ F y t → Nw Γ H F u Q → r x y H Q
theorem op_two {g : T → T → Option T} {r : R2} (h : ∀ s t u H F x y Q, g s t = some u → Sub F H → Rp Ψ.Γ F x s → Rp Ψ.Γ F y t → Nw Ψ.Γ H F u Q → r x y H Q) (σ : St) (H : Hp) (Q : VK) (q : tE Ψ (dOp g da db) σ H Q) : tOp r (tE Ψ da) (tE Ψ db) σ H Q := by
  obtain ⟨B, τ, tm, F, ω, rl, hio, q⟩ := q
  unfold dOp at q
  rw [R.sat_bind] at q
  refine ⟨B, τ, tm, F, ω, rl, hio, R.sat_mono q (fun s τ1 q1 v1 H1 F1 ω1 r1 s1 p1 => ?_) (fun _ _ _ x => x)⟩
  rw [R.sat_bind] at q1
  refine ⟨B, τ1, tm, F1, ω1, r1, hio, R.sat_mono q1 (fun t τ2 q2 v2 H2 F2 ω2 r2 s2 p2 => ?_) (fun _ _ _ x => x)⟩
  cases z : g s t with
  | none => rw [z] at q2; exact q2.elim
  | some u =>
    rw [z] at q2
    exact h s t u H2 F2 v1 v2 Q z r2.fh (Rp.mono s2 s v1 p1) p2 fun v H' F' gr p => q2 v H' F' ω2 (r2.grow gr) (s1.trans (s2.trans gr.ff)) p
theorem de_op {op : Operator} {g : T → T → Option T} (ho : OpT Ψ.Γ X (binaryOp op) g) (ha : PE X a (tE Ψ da)) (hb : PE X b (tE Ψ db)) : PE X (.BinOp a op b pos) (tE Ψ (dOp g da db)) := by
  obtain ⟨r, h1, h2⟩ := ho
  exact PE.imp (pe_op h1 ha hb) (op_two h2)
theorem de_cmp {op : CmpOp} {g : T → T → Option T} (ho : OpT Ψ.Γ X (compareOp op) g) (ha : PE X a (tE Ψ da)) (hb : PE X b (tE Ψ db)) (hm : behindInMarks op b = false) : PE X (.Compare a [op] [b] pos) (tE Ψ (dOp g da db)) := by
  obtain ⟨r, h1, h2⟩ := ho
  exact PE.imp (pe_cmpR h1 ha hb hm) (op_two h2)
/-- a value that is a bool, as a test -/
def dBl (d : DE) : DB := fun τ => (d τ).bind fun t τ1 => match t with
  | .bl b => .ok b τ1
  | _ => .st
theorem bl_of {σ : St} {H : Hp} {Q : Bool → Hp → Prop} {d : DE} (q : tT Ψ (dBl d) σ H Q) : tE Ψ d σ H fun v H' => ∃ k, v = .bl k ∧ Q k H' := by
  obtain ⟨B, τ, tm, F, ω, rl, hio, q⟩ := q
  unfold dBl at q
  rw [R.sat_bind] at q
  refine ⟨B, τ, tm, F, ω, rl, hio, R.sat_mono q (fun s τ1 q1 v1 H1 F1 ω1 r1 s1 p1 => ?_) (fun _ _ _ x => x)⟩
  cases s with
  | bl b =>
    simp only [Rp] at p1
    exact ⟨b, p1, q1 H1 F1 ω1 r1 s1⟩
  | non => exact q1.elim
  | int i => exact q1.elim
  | str s => exact q1.elim
  | tup l => exact q1.elim
  | lst l => exact q1.elim
  | dic k l => exact q1.elim
  | dct k l => exact q1.elim
  | obj c l => exact q1.elim
  | scr l => exact q1.elim
  | ktp l => exact q1.elim
  | ty l => exact q1.elim
  | kl l => exact q1.elim
theorem tE.mono {d : DE} {σ : St} {H : Hp} {Q Q' : VK} (q : tE Ψ d σ H Q) (h : ∀ v H', Q v H' → Q' v H') : tE Ψ d σ H Q' := by
  obtain ⟨B, τ, tm, F, ω, rl, hio, q⟩ := q
  exact ⟨B, τ, tm, F, ω, rl, hio, R.sat_mono q (fun s τ1 q1 v1 H1 F1 ω1 r1 s1 p1 => h _ _ (q1 v1 H1 F1 ω1 r1 s1 p1)) (fun _ _ _ x => x)⟩
theorem dt_cmp {op : CmpOp} {g : T → T → Option T} (ho : OpT Ψ.Γ X (compareOp op) g) (ha : PE X a (tE Ψ da)) (hb : PE X b (tE Ψ db)) (hm : behindInMarks op b = false) : PT X (.Compare a [op] [b] pos) (tT Ψ (dBl (dOp g da db))) := by
  obtain ⟨r, h1, h2⟩ := ho
  exact PT.imp (pt_cmpR h1 ha hb hm) fun σ H Q q => op_two h2 σ H _ (bl_of q)
/-- any value, as a test -/
def truT : T → Option Bool
  | .non => some false
  | .bl b => some b
  | .int i => some (i != 0)
  | .str s => if s.length ≤ 16777216 then some (!s.isEmpty) else none
  | .tup l => some (!l.isEmpty)
  | .lst l => some (!l.isEmpty)
  | _ => none
def dTru (d : DE) : DB := fun τ => (d τ).bind fun t τ1 => match truT t with
  | some b => .ok b τ1
  | none => .st
theorem isEmpty_len {α β : Type} {xs : List α} {ys : List β} (h : xs.length = ys.length) : xs.isEmpty = ys.isEmpty := by
  cases xs <;> cases ys <;> simp at h ⊢
theorem mkStr_length (s : Cs) : (mkStr s).length = s.length := by simp [mkStr, Str.length]
theorem truV_of {Γ : Gam} {F H : Hp} {v : V} {t : T} {k : Bool} (s : Sub F H) (r : Rp Γ F v t) (h : truT t = some k) : TruV Γ.K v H k := by
  cases t with
  | non =>
    simp only [Rp] at r
    simp only [truT, Option.some.injEq] at h
    subst r
    exact h.symm
  | bl b =>
    simp only [Rp] at r
    simp only [truT, Option.some.injEq] at h
    subst r
    exact h.symm
  | int i =>
    simp only [Rp] at r
    simp only [truT, Option.some.injEq] at h
    subst r
    exact h.symm
  | str z =>
    simp only [Rp] at r
    subst r
    simp only [truT] at h
    split at h
    · rename_i hl
      simp only [Option.some.injEq] at h
      refine ⟨by rw [mkStr_length, sizeLine_eq]; exact hl, ?_⟩
      rw [← h, mkStr_length]
      cases z <;> simp
      omega
    · cases h
  | tup l =>
    simp only [Rp] at r
    simp only [truT, Option.some.injEq] at h
    obtain ⟨a, xs, rfl, hx, rl⟩ := r
    refine .inr (.inl ⟨xs, .of (s _ _ hx), ?_⟩)
    rw [← h, isEmpty_len (RpL.length l xs rl)]
  | lst l =>
    simp only [Rp] at r
    simp only [truT, Option.some.injEq] at h
    obtain ⟨a, xs, rfl, hx, rl⟩ := r
    refine .inl ⟨xs, .inl (.inl (s _ _ hx)), ?_⟩
    rw [← h, isEmpty_len (RpL.length l xs rl)]
  | dic k l => cases h
  | dct k l => cases h
  | obj c l => cases h
  | scr l => cases h
  | ktp l => cases h
  | ty l => cases h
  | kl l => cases h
theorem dt_truth {d : DE} (hK : X.K = Ψ.Γ.K) (ha : PE X a (tE Ψ d)) (he : ∀ whole, isTrue a X.env whole = (do let v ← whole; standAt a.pos; holding [v] (truthy v)) := by intro _; rfl) : PT X a (tT Ψ (dTru d)) := by
  refine PT.imp (pt_truth ha he) fun σ H Q ⟨B, τ, tm, F, ω, rl, hio, q⟩ => ?_
  unfold dTru at q
  rw [R.sat_bind] at q
  refine ⟨B, τ, tm, F, ω, rl, hio, R.sat_mono q (fun s τ1 q1 v1 H1 F1 ω1 r1 s1 p1 => ?_) (fun _ _ _ x => x)⟩
  cases z : truT s with
  | none => rw [z] at q1; exact q1.elim
  | some k =>
    rw [z] at q1
    exact ⟨k, by rw [hK]; exact truV_of r1.fh p1 z, q1 H1 F1 ω1 r1 s1⟩

/-! ### and, or, not; conditional expressions -/
def dAnd (p q : DB) : DB := fun τ => (p τ).bind fun x τ1 => match x with
  | true => q τ1
  | false => .ok false τ1
def dOr (p q : DB) : DB := fun τ => (p τ).bind fun x τ1 => match x with
  | true => .ok true τ1
  | false => q τ1
def dNot (p : DB) : DB := fun τ => (p τ).map fun x => !x
variable {p q : DB} {rest : List Expr}
theorem dw_and1 (ha : PT X a (tT Ψ p)) : PW X (.BoolOp .And [a] pos) (tT Ψ p) := pw_and1 ha
theorem dw_or1 (ha : PT X a (tT Ψ p)) : PW X (.BoolOp .Or [a] pos) (tT Ψ p) := pw_or1 ha
theorem dw_and (ha : PT X a (tT Ψ p)) (hb : PW X (.BoolOp .And (b :: rest) pos) (tT Ψ q)) : PW X (.BoolOp .And (a :: b :: rest) pos) (tT Ψ (dAnd p q)) := by
  refine PW.imp (pw_and ha hb) fun σ H Q ⟨B, τ, tm, F, ω, rl, hio, w⟩ => ?_
  unfold dAnd at w
  rw [R.sat_bind] at w
  refine ⟨B, τ, tm, F, ω, rl, hio, R.sat_mono w (fun s τ1 q1 H1 F1 ω1 r1 s1 => ?_) (fun _ _ _ x => x)⟩
  cases s with
  | true =>
    rw [if_pos rfl]
    exact ⟨B, τ1, tm, F1, ω1, r1, hio, R.sat_mono q1 (fun s τ1 q1 H2 F2 ω2 r2 s2 => q1 H2 F2 ω2 r2 (s1.trans s2)) (fun _ _ _ x => x)⟩
  | false =>
    rw [if_neg Bool.false_ne_true]
    exact q1 H1 F1 ω1 r1 s1
theorem dw_or (ha : PT X a (tT Ψ p)) (hb : PW X (.BoolOp .Or (b :: rest) pos) (tT Ψ q)) : PW X (.BoolOp .Or (a :: b :: rest) pos) (tT Ψ (dOr p q)) := by
  refine PW.imp (pw_or ha hb) fun σ H Q ⟨B, τ, tm, F, ω, rl, hio, w⟩ => ?_
  unfold dOr at w
  rw [R.sat_bind] at w
  refine ⟨B, τ, tm, F, ω, rl, hio, R.sat_mono w (fun s τ1 q1 H1 F1 ω1 r1 s1 => ?_) (fun _ _ _ x => x)⟩
  cases s with
  | false =>
    rw [if_neg Bool.false_ne_true]
    exact ⟨B, τ1, tm, F1, ω1, r1, hio, R.sat_mono q1 (fun s τ1 q1 H2 F2 ω2 r2 s2 => q1 H2 F2 ω2 r2 (s1.trans s2)) (fun _ _ _ x => x)⟩
  | true =>
    rw [if_pos rfl]
    exact q1 H1 F1 ω1 r1 s1
theorem dt_w (h : PW X a (tT Ψ p)) : PT X a (tT Ψ p) := h.pt
theorem dt_not (ha : PT X a (tT Ψ p)) : PT X (.UnaryOp .Not a pos) (tT Ψ (dNot p)) := by
  refine PT.imp (pt_not ha) fun σ H Q ⟨B, τ, tm, F, ω, rl, hio, w⟩ => ?_
  unfold dNot at w
  rw [R.sat_map] at w
  exact ⟨B, τ, tm, F, ω, rl, hio, w⟩
/-- as values -/
def dBV (p : DB) : DE := fun τ => (p τ).map T.bl
def dIf (p : DB) (da db : DE) : DE := fun τ => (p τ).bind fun x τ1 => match x with
  | true => da τ1
  | false => db τ1
def dIfO (p : DB) (da db : DO) : DO := fun τ => (p τ).bind fun x τ1 => match x with
  | true => da τ1
  | false => db τ1
theorem de_ifExp (hp : PT X c (tT Ψ p)) (ha : PE X a (tE Ψ da)) (hb : PE X b (tE Ψ db)) : PE X (.IfExp c a b pos) (tE Ψ (dIf p da db)) := by
  refine PE.imp (pe_ifExp hp ha hb) fun σ H Q ⟨B, τ, tm, F, ω, rl, hio, w⟩ => ?_
  unfold dIf at w
  rw [R.sat_bind] at w
  refine ⟨B, τ, tm, F, ω, rl, hio, R.sat_mono w (fun s τ1 q1 H1 F1 ω1 r1 s1 => ?_) (fun _ _ _ x => x)⟩
  cases s with
  | true =>
    rw [if_pos rfl]
    exact ⟨B, τ1, tm, F1, ω1, r1, hio, R.sat_mono q1 (fun s τ1 q1 v H2 F2 ω2 r2 s2 p2 => q1 v H2 F2 ω2 r2 (s1.trans s2) p2) (fun _ _ _ x => x)⟩
  | false =>
    rw [if_neg Bool.false_ne_true]
    exact ⟨B, τ1, tm, F1, ω1, r1, hio, R.sat_mono q1 (fun s τ1 q1 v H2 F2 ω2 r2 s2 p2 => q1 v H2 F2 ω2 r2 (s1.trans s2) p2) (fun _ _ _ x => x)⟩
theorem do_ifExp {da db : DO} (hp : PT X c (tT Ψ p)) (ha : PE X a (tO Ψ da)) (hb : PE X b (tO Ψ db)) : PE X (.IfExp c a b pos) (tO Ψ (dIfO p da db)) := by
  refine PE.imp (pe_ifExp hp ha hb) fun σ H Q ⟨B, τ, tm, F, ω, rl, hio, w⟩ => ?_
  unfold dIfO at w
  rw [R.sat_bind] at w
  refine ⟨B, τ, tm, F, ω, rl, hio, R.sat_mono w (fun s τ1 q1 H1 F1 ω1 r1 s1 => ?_) (fun _ _ _ x => x)⟩
  cases s with
  | true =>
    rw [if_pos rfl]
    exact ⟨B, τ1, tm, F1, ω1, r1, hio, R.sat_mono q1 (fun s τ1 q1 v H2 F2 ω2 r2 s2 => q1 v H2 F2 ω2 r2 (s1.trans s2)) (fun _ _ _ x => x)⟩
  | false =>
    rw [if_neg Bool.false_ne_true]
    exact ⟨B, τ1, tm, F1, ω1, r1, hio, R.sat_mono q1 (fun s τ1 q1 v H2 F2 ω2 r2 s2 => q1 v H2 F2 ω2 r2 (s1.trans s2)) (fun _ _ _ x => x)⟩
/-- an owned thing is frozen; a frozen thing is handed on as one -/
def dFz (d : DO) : DE := fun τ => (d τ).map O.er
def dOf (d : DE) : DO := fun τ => (d τ).map O.fz
theorem de_fz {d : DO} (h : PE X e (tO Ψ d)) : PE X e (tE Ψ (dFz d)) := by
  refine PE.imp (pe_lk h) fun σ H Q ⟨B, τ, tm, F, ω, rl, hio, w⟩ => ?_
  unfold dFz at w
  rw [R.sat_map] at w
  refine ⟨B, τ, tm, F, ω, rl, hio, R.sat_mono w (fun s τ1 q1 v H1 F1 ω1 r1 s1 => ⟨atR ω1 (TB + tm.length), fun od => ?_⟩) (fun _ _ _ x => x)⟩
  obtain ⟨F2, ω2, r2, s2, p2⟩ := r1.frzT (od := od)
  exact q1 v _ F2 ω2 r2 (s1.trans s2) p2
theorem do_of {d : DE} (h : PE X e (tE Ψ d)) : PE X e (tO Ψ (dOf d)) := by
  refine PE.imp h fun σ H Q ⟨B, τ, tm, F, ω, rl, hio, w⟩ => ?_
  unfold dOf at w
  rw [R.sat_map] at w
  exact ⟨B, τ, tm, F, ω, rl, hio, R.sat_mono w (fun s τ1 q1 v H1 F1 ω1 r1 s1 p1 => q1 v H1 F1 ω1 (r1.pushF p1) s1) (fun _ _ _ x => x)⟩

/-! ### argument lists, displays -/
def dNil : DL := fun τ => .ok [] τ
def dCons (d : DE) (r : DL) : DL := fun τ => (d τ).bind fun x τ1 => (r τ1).map fun xs => x :: xs
theorem da_nil : PA X [] (tA Ψ dNil) := PA.imp pa_nil fun σ H Q ⟨B, τ, tm, F, ω, rl, hio, w⟩ => w [] H F ω rl (fun _ _ e => e) (by simp only [RpL])
theorem da_cons {es : List Expr} {d : DE} {r : DL} (h : PE X e (tE Ψ d)) (hr : PA X es (tA Ψ r)) (hs : starEach (e :: es) X.env = (false, eval e X.env) :: starEach es X.env := by rfl) : PA X (e :: es) (tA Ψ (dCons d r)) := by
  refine PA.imp (pa_cons h hr hs) fun σ H Q ⟨B, τ, tm, F, ω, rl, hio, w⟩ => ?_
  unfold dCons at w
  rw [R.sat_bind] at w
  refine ⟨B, τ, tm, F, ω, rl, hio, R.sat_mono w (fun s τ1 q1 v H1 F1 ω1 r1 s1 p1 => ?_) (fun _ _ _ x => x)⟩
  rw [R.sat_map] at q1
  refine ⟨B, τ1, tm, F1, ω1, r1, hio, R.sat_mono q1 (fun ss τ2 q2 vs H2 F2 ω2 r2 s2 p2 => ?_) (fun _ _ _ x => x)⟩
  exact q2 (v :: vs) H2 F2 ω2 r2 (s1.trans s2) (RpL.cons (Rp.mono s2 s v p1) p2)
def dTup (d : DL) : DE := fun τ => (d τ).bind fun ts τ1 => if ts.length ≤ 16777216 then .ok (.tup ts) τ1 else .st
def dLst (d : DL) : DO := fun τ => (d τ).bind fun ts τ1 => if ts.length ≤ 16777216 then .ok (.lst (ts.map .fz)) τ1 else .st
theorem de_tup {es : List Expr} {d : DL} {x1} (h : PA X es (tA Ψ d)) : PE X (.Tuple es x1 pos) (tE Ψ (dTup d)) := by
  refine PE.imp (pe_tup h) fun σ H Q ⟨B, τ, tm, F, ω, rl, hio, w⟩ => ?_
  unfold dTup at w
  rw [R.sat_bind] at w
  refine ⟨B, τ, tm, F, ω, rl, hio, R.sat_mono w (fun s τ1 q1 vs H1 F1 ω1 r1 s1 p1 => ?_) (fun _ _ _ x => x)⟩
  split at q1
  · rename_i hl
    refine ⟨by rw [RpL.length _ _ p1, sizeLine_eq]; exact hl, fun p hp => ?_⟩
    refine q1 (.ref p) _ _ ω1 (r1.newF hp) (s1.trans (Grow.new r1.fh hp).ff) ?_
    simp only [Rp]
    exact ⟨p, vs, rfl, upd_same, RpL.mono (Grow.new r1.fh hp).ff _ _ p1⟩
  · exact q1.elim
theorem do_lst {es : List Expr} {d : DL} (h : PA X es (tA Ψ d)) : PE X (.List es pos) (tO Ψ (dLst d)) := by
  refine PE.imp (pe_lst h) fun σ H Q ⟨B, τ, tm, F, ω, rl, hio, w⟩ => ?_
  unfold dLst at w
  rw [R.sat_bind] at w
  refine ⟨B, τ, tm, F, ω, rl, hio, R.sat_mono w (fun s τ1 q1 vs H1 F1 ω1 r1 s1 p1 => ?_) (fun _ _ _ x => x)⟩
  split at q1
  · rename_i hl
    refine ⟨by rw [RpL.length _ _ p1, sizeLine_eq]; exact hl, fun p hp => ?_⟩
    obtain ⟨ω2, r2⟩ := r1.newList hp p1
    exact q1 (.ref p) _ _ ω2 r2 s1
  · exact q1.elim
/-- an empty dict: its keys will be ints and texts, or tuples of them -/
def dDicK : DO := fun τ => .ok (.dic [] []) τ
def dDicT : DO := fun τ => .ok (.dct [] []) τ
theorem do_dicK : PE X (.Dict [] [] pos) (tO Ψ dDicK) := by
  refine PE.imp pe_dnewK fun σ H Q ⟨B, τ, tm, F, ω, rl, hio, w⟩ => fun p hp => ?_
  obtain ⟨ω2, r2⟩ := rl.newT (o := .dic [] []) (ob := .dK []) hp fun ω' e => by
    simp only [Ow]
    exact ⟨p, [], rfl, e, upd_same, rfl, by simp only [OwL]⟩
  exact w (.ref p) _ _ ω2 r2 (fun _ _ e => e)
theorem do_dicT : PE X (.Dict [] [] pos) (tO Ψ dDicT) := by
  refine PE.imp pe_dnewT fun σ H Q ⟨B, τ, tm, F, ω, rl, hio, w⟩ => fun p hp => ?_
  obtain ⟨ω2, r2⟩ := rl.newT (o := .dct [] []) (ob := .dT []) hp fun ω' e => by
    simp only [Ow]
    exact ⟨p, [], rfl, e, upd_same, rfl, by simp only [OwL]⟩
  exact w (.ref p) _ _ ω2 r2 (fun _ _ e => e)

/-! ### a look that changes nothing: all that is owned is looked at as if it were frozen; the answer is flat -/
def ro (τ : Env) : Env := τ.map fun x => x.map fun o => O.fz o.er
def flatT : T → Bool
  | .non | .bl _ | .int _ | .str _ => true
  | _ => false
def dRo (d : DE) : DE := fun τ => match d (ro τ) with
  | .ok t _ => if flatT t then .ok t τ else .st
  | _ => .st
def dRoB (d : DB) : DB := fun τ => match d (ro τ) with
  | .ok t _ => .ok t τ
  | _ => .st
theorem ro_get {τ : Env} {i : Nat} {o : O} (h : (ro τ)[i]? = some (some o)) : ∃ o', τ[i]? = some (some o') ∧ o = .fz o'.er := by
  unfold ro at h
  rw [List.getElem?_map] at h
  cases z : τ[i]? with
  | none => rw [z] at h; cases h
  | some w =>
    rw [z] at h
    cases w with
    | none => cases h
    | some o' =>
      refine ⟨o', rfl, ?_⟩
      simp at h
      exact h.symm
theorem Rel.look {Γ : Gam} {B : Bs} {τ : Env} {tm : List (V × O)} {σ : St} {H F : Hp} {ω : Lab} {od : Addr → Obj} (r : Rel Γ B τ tm σ H F ω) :
    ∃ F', Sub F F' ∧ Rel Γ ⟨lockH (fun b => (ω b).isSome = true) od H, F', B.io, B.iv⟩ (ro τ) [] σ (lockH (fun b => (ω b).isSome = true) od H) F' (fun _ => none) := by
  have out : ∀ {b : Addr}, ω b = none → lockH (fun b => (ω b).isSome = true) od H b = H b := fun {b} e => lockH_out fun z => by rw [e] at z; cases z
  have sub : Sub F (fun b => if (ω b).isSome = true then lockH (fun b => (ω b).isSome = true) od H b else F b) := fun b o e => by
    show (if (ω b).isSome = true then lockH (fun b => (ω b).isSome = true) od H b else F b) = some o
    rw [r.fo b o e]
    exact e
  refine ⟨fun b => if (ω b).isSome = true then lockH (fun b => (ω b).isSome = true) od H b else F b, sub, by rw [r.len]; simp [ro], by simp only [ro, List.length_map]; exact r.lt, fun b o e => ?_, fun _ _ _ => rfl, fun _ _ e => (by cases e), fun _ _ e => e, fun _ _ _ => rfl, fun b o u e e' => ⟨u, e'⟩, fun _ _ e => e, fun i o e => ?_, fun j v o e => by simp at e, r.io⟩
  · have e : (if (ω b).isSome = true then lockH (fun b => (ω b).isSome = true) od H b else F b) = some o := e
    split at e
    · exact e
    · rename_i hn
      rw [lockH_out hn]
      exact r.fh b o e
  · obtain ⟨o', e1, rfl⟩ := ro_get e
    obtain ⟨v, h1, h2⟩ := r.slot i o' e1
    refine ⟨v, h1, ?_⟩
    simp only [Ow]
    refine Ow.freeze sub o' [] v (fun b q z => ?_) h2
    show LkO (H b) (if (ω b).isSome = true then lockH (fun b => (ω b).isSome = true) od H b else F b)
    have hb : (ω b).isSome = true := by rw [z]; rfl
    rw [if_pos hb]
    exact lockH_lk (p := fun b => (ω b).isSome = true) hb
theorem Rel.unlook {Γ : Gam} {B : Bs} {τ τ' : Env} {tm tm' : List (V × O)} {σ : St} {H F H' F1 F2 : Hp} {ω ω' : Lab} {p : Addr → Prop} {od : Addr → Obj} (r : Rel Γ B τ tm σ H F ω) (hp : ∀ b, p b → ∃ q, ω b = some q) (r' : Rel Γ ⟨lockH p od H, F1, B.io, B.iv⟩ τ' tm' σ H' F2 ω') :
    (∀ b u, p b → H b = some u → H' b = some (lockO (od b) u)) ∧ Rel Γ B τ tm σ (unlH p H H') F ω ∧ Sub H (unlH p H H') := by
  have e1 : ∀ b u, p b → H b = some u → H' b = some (lockO (od b) u) := fun b u h e => r'.gh b _ (by show lockH p od H b = _; rw [lockH_in h, e]; rfl)
  have e2 : Sub H (unlH p H H') := fun b o e => by
    by_cases hn : p b ∧ isDO (H b) = true
    · rw [unlH_in hn]; exact e
    · rw [unlH_out hn]
      refine r'.gh b o ?_
      by_cases hb : p b
      · show lockH p od H b = some o
        rw [lockH_in hb, e]
        have : isDO (H b) ≠ true := fun z => hn ⟨hb, z⟩
        rw [e] at this
        cases o <;> first | rfl | exact absurd rfl this
      · show lockH p od H b = some o
        rw [lockH_out hb, e]
  exact ⟨e1, r.grow ⟨e2, fun _ _ e => e, fun b o e => e2 b o (r.fh b o e), fun b o e e' => by rw [e] at e'; cases e'⟩, e2⟩
theorem flat_rp {Γ : Gam} {F F' : Hp} {v : V} {t : T} (h : flatT t = true) (r : Rp Γ F v t) : Rp Γ F' v t := by
  cases t <;> first
    | (simp only [Rp] at r ⊢; exact r)
    | cases h
theorem de_ro {d : DE} (h : PE X e (tE Ψ d)) : PE X e (tE Ψ (dRo d)) := by
  refine PE.imp (pe_lkU h) fun σ H Q ⟨B, τ, tm, F, ω, rl, hio, w⟩ => ⟨fun b => (ω b).isSome = true, fun od => ?_⟩
  obtain ⟨F1, s1, r1⟩ := rl.look (od := od)
  refine ⟨⟨_, F1, B.io, B.iv⟩, ro τ, [], F1, _, r1, ⟨hio.1, hio.2.1, fun p hp => (lockH_out (p := fun b => (ω b).isSome = true) (by show ¬ ((ω p.1).isSome = true); rw [rl.go _ _ (hio.2.2 p hp)]; decide)).trans (rl.gh _ _ (hio.2.2 p hp))⟩, ?_⟩
  unfold dRo at w
  cases z : d (ro τ) with
  | ok t τ1 =>
    rw [z] at w
    intro v H' F' ω' r' s' p'
    cases zf : flatT t with
    | true =>
      simp only [zf, if_true] at w
      obtain ⟨u1, u2, _⟩ := rl.unlook (fun b hb => Option.isSome_iff_exists.mp hb) r'
      exact ⟨u1, w v _ F ω u2 (fun _ _ e => e) (flat_rp zf p')⟩
    | false =>
      simp only [zf] at w
      exact w.elim
  | er e fs τ1 => rw [z] at w; exact w.elim
  | st => rw [z] at w; exact w.elim
/-- a look, told more nearly: nothing that stood has changed -/
def tRo (Ψ : Sx) (d : DE) : TE := fun σ H Q => ∃ B τ tm F ω t τ1, Rel Ψ.Γ B τ tm σ H F ω ∧ Ψ.okB B ∧ d (ro τ) = .ok t τ1 ∧ flatT t = true ∧ ∀ v H', Sub H H' → Rel Ψ.Γ B τ tm σ H' F ω → Rp Ψ.Γ F v t → Q v H'
theorem pe_ro {d : DE} (h : PE X e (tE Ψ d)) : PE X e (tRo Ψ d) := by
  refine PE.imp (pe_lkU h) fun σ H Q ⟨B, τ, tm, F, ω, t, τ1, rl, hio, z, zf, w⟩ => ⟨fun b => (ω b).isSome = true, fun od => ?_⟩
  obtain ⟨F1, s1, r1⟩ := rl.look (od := od)
  refine ⟨⟨_, F1, B.io, B.iv⟩, ro τ, [], F1, _, r1, ⟨hio.1, hio.2.1, fun p hp => (lockH_out (p := fun b => (ω b).isSome = true) (by show ¬ ((ω p.1).isSome = true); rw [rl.go _ _ (hio.2.2 p hp)]; decide)).trans (rl.gh _ _ (hio.2.2 p hp))⟩, ?_⟩
  rw [z]
  intro v H' F' ω' r' s' p'
  obtain ⟨u1, u2, u3⟩ := rl.unlook (fun b hb => Option.isSome_iff_exists.mp hb) r'
  exact ⟨u1, w v _ u3 u2 (flat_rp zf p')⟩
theorem dt_ro {d : DB} (h : PT X e (tT Ψ d)) : PT X e (tT Ψ (dRoB d)) := by
  refine PT.imp (pt_lkU h) fun σ H Q ⟨B, τ, tm, F, ω, rl, hio, w⟩ => ⟨fun b => (ω b).isSome = true, fun od => ?_⟩
  obtain ⟨F1, s1, r1⟩ := rl.look (od := od)
  refine ⟨⟨_, F1, B.io, B.iv⟩, ro τ, [], F1, _, r1, ⟨hio.1, hio.2.1, fun p hp => (lockH_out (p := fun b => (ω b).isSome = true) (by show ¬ ((ω p.1).isSome = true); rw [rl.go _ _ (hio.2.2 p hp)]; decide)).trans (rl.gh _ _ (hio.2.2 p hp))⟩, ?_⟩
  unfold dRoB at w
  cases z : d (ro τ) with
  | ok t τ1 =>
    rw [z] at w
    intro H' F' ω' r' s'
    obtain ⟨u1, u2, _⟩ := rl.unlook (fun b hb => Option.isSome_iff_exists.mp hb) r'
    exact ⟨u1, w _ F ω u2 (fun _ _ e => e)⟩
  | er e fs τ1 => rw [z] at w; exact w.elim
  | st => rw [z] at w; exact w.elim
end
end TL
set_option Elab.async false
set_option linter.all false
set_option maxRecDepth 100000
set_option maxHeartbeats 0
/-! TL4: operators, comparisons, places, slices, built-in calls over trees. -/
namespace TL
open PySem PySem.Spec L2

abbrev SZ : Nat := 16777216
theorem szL {n : Nat} (h : n ≤ SZ) : n ≤ sizeLine := by rw [sizeLine_eq]; exact h

/-! ### the functions -/
def small64 (i : Int) : Bool := decide (-(2 ^ 64) < i) && decide (i < 2 ^ 64)
def wideI (i : Int) : Bool := decide (i.natAbs < 2 ^ 4000)
def reps (n : Nat) (l : List α) : List α := (List.replicate n l).flatten
def addT : T → T → Option T
  | .int i, .int j => some (.int (i + j))
  | .str s, .str z => if s.length + z.length ≤ SZ then some (.str (s ++ z)) else none
  | .lst l, .lst m => if l.length + m.length ≤ SZ then some (.lst (l ++ m)) else none
  | .tup l, .tup m => if l.length + m.length ≤ SZ then some (.tup (l ++ m)) else none
  | _, _ => none
def subT : T → T → Option T
  | .int i, .int j => some (.int (i - j))
  | _, _ => none
def mulT : T → T → Option T
  | .int i, .int j => if small64 i || small64 j || (wideI i && wideI j) then some (.int (i * j)) else none
  | .str s, .int k => if k < 2 ^ 62 ∧ -(2 ^ 62) ≤ k ∧ s.length * k.toNat ≤ SZ then some (.str (reps k.toNat s)) else none
  | .lst l, .int k => if k < 2 ^ 62 ∧ -(2 ^ 62) ≤ k ∧ l.length * k.toNat ≤ SZ then some (.lst (reps k.toNat l)) else none
  | _, _ => none
def modT : T → T → Option T
  | .int i, .int j => if 0 < j then some (.int (i % j)) else none
  | _, _ => none
def fdivT : T → T → Option T
  | .int i, .int j => if 0 < j ∧ j.natAbs < 2 ^ 4000 then some (.int (i / j)) else none
  | _, _ => none
def powT : T → T → Option T
  | .int i, .int j => if 0 ≤ j ∧ j ≤ 1000000 ∧ i.natAbs < 2 ^ 64 then some (.int (i ^ j.toNat)) else none
  | _, _ => none
def ltT : T → T → Option T
  | .int i, .int j => some (.bl (decide (i < j)))
  | .str s, .str z => some (.bl (decide (s < z)))
  | _, _ => none
def leT : T → T → Option T
  | .int i, .int j => some (.bl (decide (i ≤ j)))
  | .str s, .str z => some (.bl (!decide (z < s)))
  | _, _ => none
def gtT : T → T → Option T
  | .int i, .int j => some (.bl (decide (j < i)))
  | .str s, .str z => some (.bl (decide (z < s)))
  | _, _ => none
def geT : T → T → Option T
  | .int i, .int j => some (.bl (decide (j ≤ i)))
  | .str s, .str z => some (.bl (!decide (s < z)))
  | _, _ => none
mutual
def T.pd : T → PyData
  | .non => .none
  | .bl b => .bool b
  | .int i => .int i
  | .str s => .str (mkStr s)
  | .tup l => .tuple (pds l)
  | .lst l => .list (pds l)
  | _ => .none
def pds : List T → List PyData
  | [] => []
  | t :: r => t.pd :: pds r
end
mutual
def T.isD : T → Bool
  | .non | .bl _ | .int _ | .str _ => true
  | .tup l => areD l
  | .lst l => areD l
  | _ => false
def areD : List T → Bool
  | [] => true
  | t :: r => t.isD && areD r
end
def okD (t : T) : Bool := t.isD && SeqAt.shaped t.pd
def eqT : T → T → Option T
  | .int i, .int j => some (.bl (decide (i = j)))
  | .str s, .str z => some (.bl (decide (s = z)))
  | .bl s, .bl z => some (.bl (decide (s = z)))
  | s, t => if okD s && okD t then some (.bl (PyData.eqv s.pd t.pd)) else none
def neT (s t : T) : Option T := match eqT s t with
  | some (.bl b) => some (.bl (!b))
  | _ => none
def isNT : T → T → Option T
  | .non, .non => some (.bl true)
  | _, .non => some (.bl false)
  | _, _ => none
def notNT : T → T → Option T
  | .non, .non => some (.bl false)
  | _, .non => some (.bl true)
  | _, _ => none
def eqF : T → T → Bool
  | .non, .non => true
  | .bl a, .bl b => a == b
  | .bl a, .int b => (if a then 1 else 0) == b
  | .int a, .bl b => a == (if b then 1 else 0)
  | .int a, .int b => a == b
  | .str a, .str b => decide (a = b)
  | _, _ => false
def keyT : T → Option K1
  | .int i => some (.inl i)
  | .str s => some (.inr s)
  | _ => none
def keysT : List T → Option (List K1)
  | [] => some []
  | t :: r => match keyT t, keysT r with
    | some k, some ks => some (k :: ks)
    | _, _ => none
def getA {κ α : Type} [DecidableEq κ] : List κ → List α → κ → Option α
  | k :: ks, v :: vs, j => if k = j then some v else getA ks vs j
  | _, _, _ => none
def inT : T → T → Option Bool
  | .str [c], .str z => some (decide (c ∈ z))
  | x, .lst l => if flatT x && l.all flatT then some (l.any fun y => eqF y x) else none
  | x, .tup l => if flatT x && l.all flatT then some (l.any fun y => eqF y x) else none
  | x, .ktp l => if flatT x && l.all flatT then some (l.any fun y => eqF y x) else none
  | x, .dic ks vs => (keyT x).map fun k => (getA ks vs k).isSome
  | .tup l, .dct ks vs => (keysT l).map fun k => (getA ks vs k).isSome
  | _, _ => none
def inV' (s t : T) : Option T := (inT s t).map .bl
def notInV (s t : T) : Option T := (inT s t).map fun b => .bl (!b)
/-- a[i] of a list, a tuple, a text -/
def ixT : T → T → Option T
  | .lst l, .int i => atI l i
  | .tup l, .int i => atI l i
  | .ktp l, .int i => atI l i
  | .str s, .int i => if s.length ≤ SZ then (atI s i).map fun c => .str [c] else none
  | _, _ => none
/-- d[k] -/
def getT : T → T → Option T
  | .dic ks vs, x => (keyT x).bind fun k => getA ks vs k
  | .dct ks vs, .tup l => (keysT l).bind fun k => getA ks vs k
  | _, _ => none
def cutL (l : List α) (lo hi : Option Int) : List α := (l.drop (HT.sIx l.length 0 lo)).take (HT.sIx l.length l.length hi - HT.sIx l.length 0 lo)
def slT : T → Option Int → Option Int → Option T
  | .lst l, lo, hi => some (.lst (cutL l lo hi))
  | .tup l, lo, hi => some (.tup (cutL l lo hi))
  | .str s, lo, hi => if s.length ≤ SZ then some (.str (cutL s lo hi)) else none
  | _, _, _ => none
def negT : T → Option T
  | .int i => some (.int (-i))
  | _ => none

/-! ### they are what the operators do -/
section
variable {Γ : Gam} {X : Cx} {F H : Hp} {v x y : V} {Q : VK}
theorem eqV_flat {s t : T} (hs : flatT s = true) (ht : flatT t = true) (rs : Rp Γ F x s) (rt : Rp Γ F y t) : eqV x y = eqF s t ∧ flatV x = true ∧ flatV y = true := by
  cases s <;> first | cases hs | skip
  all_goals (cases t <;> first | cases ht | skip)
  all_goals (simp only [Rp] at rs rt; subst rs; subst rt; refine ⟨?_, rfl, rfl⟩)
  all_goals first | rfl | skip
  simp only [eqV, eqF]
  rename_i a b
  by_cases h : a = b
  · subst h; simp
  · have h2 : ¬ mkStr a = mkStr b := fun z => h (mkStr_inj z)
    rw [decide_eq_false h]
    exact beq_eq_false_iff_ne.mpr h2
theorem flats_of : ∀ {l : List T} {xs : List V}, l.all flatT = true → RpL Γ F xs l → xs.all flatV = true ∧ ∀ {t : T}, flatT t = true → Rp Γ F y t → inV y xs = l.any fun u => eqF u t
  | [], xs, _, r => by
    simp only [RpL] at r
    subst r
    exact ⟨rfl, fun _ _ => rfl⟩
  | u :: l, xs, h, r => by
    simp only [RpL] at r
    obtain ⟨z, s, rfl, p, q⟩ := r
    rw [List.all_cons, Bool.and_eq_true] at h
    obtain ⟨ih1, ih2⟩ := flats_of h.2 q
    have fz : flatV z = true := by
      have := (eqV_flat h.1 h.1 p p).2.1
      exact this
    refine ⟨by rw [List.all_cons, fz, ih1]; rfl, fun {t} ht rt => ?_⟩
    have e1 := (eqV_flat h.1 ht p rt).1
    have e2 := ih2 ht rt
    unfold inV at e2 ⊢
    rw [List.any_cons, List.any_cons, e1, e2]
theorem key_rp {t : T} {k : K1} (h : keyT t = some k) (r : Rp Γ F v t) : v = kV (kK k) := by
  cases t <;> first | cases h | skip
  · simp only [Rp] at r; subst r; rfl
  · simp only [Rp] at r; subst r; rfl
theorem keys_rp : ∀ {l : List T} {ks : List K1} {xs : List V}, keysT l = some ks → RpL Γ F xs l → xs = (ks.map kK).map kV
  | [], ks, xs, h, r => by
    simp only [RpL] at r
    simp only [keysT, Option.some.injEq] at h
    subst r; subst h
    rfl
  | t :: l, ks, xs, h, r => by
    simp only [RpL] at r
    obtain ⟨z, s, rfl, p, q⟩ := r
    simp only [keysT] at h
    cases h1 : keyT t with
    | none => rw [h1] at h; simp at h
    | some k =>
      cases h2 : keysT l with
      | none => rw [h1, h2] at h; simp at h
      | some kr =>
        rw [h1, h2] at h
        simp only [Option.some.injEq] at h
        subst h
        rw [key_rp h1 p, keys_rp h2 q]
        rfl
theorem valV_zip {κ μ : Type} [DecidableEq κ] [DecidableEq μ] (f : κ → μ) (hf : ∀ a b, f a = f b → a = b) (k : κ) : ∀ (ks : List κ) (xs : List V) , valV ((ks.map f).zip xs) (f k) = getA ks xs k
  | [], xs => by simp [valV, getA]
  | j :: ks, [] => by simp [valV, getA]
  | j :: ks, x :: xs => by
    rw [List.map_cons, List.zip_cons_cons]
    simp only [getA]
    by_cases h : j = k
    · rw [if_pos h, valV_pos (by rw [h])]
    · rw [if_neg h, valV_neg (fun z => h (hf _ _ z)), valV_zip f hf k ks xs]
theorem kKs_inj {a b : List K1} (h : a.map kK = b.map kK) : a = b := by
  induction a generalizing b with
  | nil => cases b with
    | nil => rfl
    | cons => cases h
  | cons x a ih => cases b with
    | nil => cases h
    | cons y b =>
      rw [List.map_cons, List.map_cons] at h
      injection h with h1 h2
      rw [kK_inj h1, ih h2]
theorem getA_rp {κ : Type} [DecidableEq κ] {k : κ} : ∀ {ks : List κ} {vs : List T} {xs : List V}, RpL Γ F xs vs → xs.length = ks.length →
    (∀ t, getA ks vs k = some t → ∃ x, getA ks xs k = some x ∧ Rp Γ F x t) ∧ (getA ks vs k = none → getA ks xs k = none)
  | [], vs, xs, r, h => by simp [getA]
  | j :: ks, [], xs, r, h => by
    simp only [RpL] at r
    subst r
    simp at h
  | j :: ks, t :: vs, xs, r, h => by
    simp only [RpL] at r
    obtain ⟨z, s, rfl, p, q⟩ := r
    simp only [getA]
    by_cases e : j = k
    · rw [if_pos e, if_pos e]
      refine ⟨fun u hu => ⟨z, rfl, ?_⟩, fun hu => by cases hu⟩
      cases hu
      exact p
    · rw [if_neg e, if_neg e]
      exact getA_rp q (by simpa using h)
/-- a dict is asked -/
theorem dget_dic {ks : List K1} {vs : List T} {t : T} {k : K1} (s : Sub F H) (r : Rp Γ F x (.dic ks vs)) (hk : keyT t = some k) (rt : Rp Γ F y t) :
    ∃ a o, x = .ref a ∧ DGet H a y o ∧ (∀ u, getA ks vs k = some u → ∃ z, o = some z ∧ Rp Γ F z u) ∧ (getA ks vs k = none → o = none) := by
  simp only [Rp] at r
  obtain ⟨a, xs, rfl, ⟨od, hd⟩, hl, rl⟩ := r
  obtain ⟨g1, g2⟩ := getA_rp (k := k) rl hl
  refine ⟨a, getA ks xs k, rfl, .inl ⟨_, kK k, s.rd (.inr ⟨od, hd⟩), key_rp hk rt, ?_⟩, g1, g2⟩
  rw [valV_zip kK (fun _ _ => kK_inj)]
theorem dget_dct {ks : List (List K1)} {vs : List T} {l : List T} {k : List K1} (s : Sub F H) (r : Rp Γ F x (.dct ks vs)) (hk : keysT l = some k) (rt : Rp Γ F y (.tup l)) :
    ∃ a o, x = .ref a ∧ DGet H a y o ∧ (∀ u, getA ks vs k = some u → ∃ z, o = some z ∧ Rp Γ F z u) ∧ (getA ks vs k = none → o = none) := by
  simp only [Rp] at r rt
  obtain ⟨a, xs, rfl, ⟨od, hd⟩, hl, rl⟩ := r
  obtain ⟨b, ys, rfl, hb, rb⟩ := rt
  obtain ⟨g1, g2⟩ := getA_rp (k := k) rl hl
  refine ⟨a, getA ks xs k, rfl, .inr ⟨_, k.map kK, b, s.rd (.inr ⟨od, hd⟩), rfl, ?_, ?_⟩, g1, g2⟩
  · rw [s _ _ hb, keys_rp hk rb]
  · rw [valV_zip (fun z : List K1 => z.map kK) (fun _ _ => kKs_inj)]
theorem pd_at (s : Sub F H) : ∀ (t : T) (v : V), t.isD = true → Rp Γ F v t → Dp Γ.K H v t.pd
  | .non, v, h, r => by simp only [Rp] at r; subst r; exact .non
  | .bl b, v, h, r => by simp only [Rp] at r; subst r; exact .bl b
  | .int i, v, h, r => by simp only [Rp] at r; subst r; exact .int i
  | .str z, v, h, r => by simp only [Rp] at r; subst r; exact .str _
  | .tup l, v, h, r => by
    simp only [Rp] at r
    obtain ⟨a, xs, rfl, e, q⟩ := r
    simp only [T.pd]
    exact .tup (.of (s _ _ e)) (pds_at s l xs (by simpa only [T.isD] using h) q)
  | .lst l, v, h, r => by
    simp only [Rp] at r
    obtain ⟨a, xs, rfl, e, q⟩ := r
    simp only [T.pd]
    exact .lst (.of (s _ _ e)) (pds_at s l xs (by simpa only [T.isD] using h) q)
  | .ktp l, v, h, r => by simp only [T.isD] at h; cases h
  | .dic _ _, v, h, r => by simp only [T.isD] at h; cases h
  | .dct _ _, v, h, r => by simp only [T.isD] at h; cases h
  | .obj _ _, v, h, r => by simp only [T.isD] at h; cases h
  | .scr _, v, h, r => by simp only [T.isD] at h; cases h
  | .ty _, v, h, r => by simp only [T.isD] at h; cases h
  | .kl _, v, h, r => by simp only [T.isD] at h; cases h
where
  pds_at (s : Sub F H) : ∀ (l : List T) (xs : List V), areD l = true → RpL Γ F xs l → DpAll Γ.K H xs (pds l)
  | [], xs, h, r => by simp only [RpL] at r; subst r; exact .nil
  | t :: l, xs, h, r => by
    simp only [RpL] at r
    obtain ⟨z, w, rfl, p, q⟩ := r
    simp only [areD, Bool.and_eq_true] at h
    exact .cons (pd_at s t z h.1 p) (pds_at s l w h.2 q)

/-- from a rule by values -/
theorem opT_of {f : Value → Value → Sem Value} {g : T → T → Option T} {r : R2} (h : OpR X f r) (hr : ∀ s t u H F x y Q, g s t = some u → Sub F H → Rp Γ F x s → Rp Γ F y t → Nw Γ H F u Q → r x y H Q) : OpT Γ X f g := ⟨r, h, hr⟩
theorem rp_int {i : Int} : Rp Γ F (.int i) (.int i) := by simp only [Rp]
theorem rp_bl {i : Bool} : Rp Γ F (.bl i) (.bl i) := by simp only [Rp]
theorem rp_str {s : Cs} : Rp Γ F (.str (mkStr s)) (.str s) := by simp only [Rp]
theorem rp_non : Rp Γ F .non .non := by simp only [Rp]
theorem mkStr_app (s z : Cs) : mkStr s ++ mkStr z = mkStr (s ++ z) := by
  show Str.append _ _ = _
  simp [Str.append, mkStr]
theorem newList_rp {p : Addr} {xs : List V} {ts : List T} (r : RpL Γ F xs ts) (s : Sub F H) (hp : H p = none) : Rp Γ (upd F p (.lst xs)) (.ref p) (.lst ts) := by
  simp only [Rp]
  exact ⟨p, xs, rfl, upd_same, RpL.mono (Grow.new s hp).ff _ _ r⟩
theorem newTup_rp {p : Addr} {xs : List V} {ts : List T} (r : RpL Γ F xs ts) (s : Sub F H) (hp : H p = none) : Rp Γ (upd F p (.tup xs)) (.ref p) (.tup ts) := by
  simp only [Rp]
  exact ⟨p, xs, rfl, upd_same, RpL.mono (Grow.new s hp).ff _ _ r⟩
theorem RpL.reps {ts : List T} {xs : List V} (r : RpL Γ F xs ts) : ∀ n, RpL Γ F (List.replicate n xs).flatten (reps n ts)
  | 0 => by simp [TL.reps, RpL]
  | n + 1 => by
    unfold TL.reps
    rw [List.replicate_succ, List.replicate_succ, List.flatten_cons, List.flatten_cons]
    exact RpL.append r (RpL.reps r n)
theorem op_strMul : OpR X (binaryOp .Mult) (fun x y H Q => ∃ (s : Cs) (k : Int), x = .str (mkStr s) ∧ y = .int k ∧ -(2 ^ 62) ≤ k ∧ k < 2 ^ 62 ∧ s.length * k.toNat ≤ SZ ∧ Q (.str (mkStr (TL.reps k.toNat s))) H) := by
  intro pins s σ H x y v u Q I rx ry h
  obtain ⟨z, k, rfl, rfl, h1, h2, h3, q⟩ := h
  obtain ⟨t, rfl⟩ := rx
  obtain ⟨t', rfl⟩ := ry
  have hz : (mkStr z).length = z.length := mkStr_length z
  refine P.mul_str (by
    have a1 : ¬ k < -(2 ^ 63 : Int) := by omega
    have a2 : ¬ k ≥ 2 ^ 63 := by omega
    rw [decide_eq_false a1, decide_eq_false a2]; rfl) (fun a1 a2 => ?_) (fun a1 a2 => ?_) ?_
  · intro c
    have hk : 0 < k := by omega
    have e1 : ((mkStr z).length : Int) * k ≤ SZ := by
      rw [hz]
      have : ((z.length * k.toNat : Nat) : Int) ≤ SZ := by exact_mod_cast h3
      rw [Int.natCast_mul, Int.toNat_of_nonneg (by omega)] at this
      exact this
    have e2 : ((2 ^ 63 - 1 : Int) / k + 1) ≤ ((mkStr z).length : Int) := by omega
    have e3 : ((2 ^ 63 - 1 : Int) / k + 1) * k ≤ ((mkStr z).length : Int) * k := Int.mul_le_mul_of_nonneg_right e2 (by omega)
    have e4 := Int.lt_ediv_add_one_mul_self (2 ^ 63 - 1) hk
    have : (SZ : Int) < 2 ^ 63 - 1 := by decide
    omega
  · rw [hz]
    unfold Builtin.Str.tooLong
    rw [decide_eq_false_iff_not]
    have := szL h3
    omega
  · have e0 : (List.replicate k.toNat (mkStr z).cps).foldl (· ++ ·) #[] = (mkStr (TL.reps k.toNat z)).cps := by
      have gen : ∀ (n : Nat) (acc : Array Nat), (List.replicate n (mkStr z).cps).foldl (· ++ ·) acc = acc ++ (TL.reps n z).toArray := by
        intro n
        induction n with
        | zero => intro acc; simp [TL.reps]
        | succ n ih =>
          intro acc
          rw [List.replicate_succ, List.foldl_cons, ih]
          unfold TL.reps
          rw [List.replicate_succ, List.flatten_cons]
          simp [mkStr, Array.append_assoc]
      rw [gen]
      simp [mkStr]
    by_cases hk : k < 1
    · rw [if_pos hk]
      have : k.toNat = 0 := by omega
      rw [this] at q
      exact ⟨Nat.zero_le _, .str _, H, I.tok _, ⟨_, rfl⟩, q⟩
    · rw [if_neg hk]
      by_cases hc : (k == 1 || (mkStr z).length == 0) = true
      · rw [if_pos hc]
        refine ⟨.str _, H, I, ⟨t, ?_⟩, q⟩
        rw [Bool.or_eq_true] at hc
        rcases hc with hc | hc
        · have : k = 1 := by simpa using hc
          subst this
          simp [TL.reps]
        · have : z = [] := by
            have : (mkStr z).length = 0 := by simpa using hc
            rw [hz] at this
            exact List.length_eq_zero_iff.mp this
          subst this
          have gen : ∀ n, TL.reps n ([] : Cs) = [] := by
            intro n
            unfold TL.reps
            induction n with
            | zero => rfl
            | succ n ih => rw [List.replicate_succ, List.flatten_cons, ih]; rfl
          rw [gen]
      · rw [if_neg hc]
        rw [e0]
        refine ⟨?_, .str _, H, I.tok _, ⟨_, rfl⟩, q⟩
        show (mkStr (TL.reps k.toNat z)).length ≤ sizeLine
        rw [mkStr_length]
        have gl : ∀ n, (TL.reps n z).length = n * z.length := by
          intro n
          unfold TL.reps
          induction n with
          | zero => simp
          | succ n ih => rw [List.replicate_succ, List.flatten_cons, List.length_append, ih, Nat.succ_mul, Nat.add_comm]
        rw [gl, Nat.mul_comm]
        exact szL h3

/-! ### the operators -/
theorem reps_length {α : Type} (n : Nat) (l : List α) : (TL.reps n l).length = n * l.length := by
  unfold TL.reps
  induction n with
  | zero => simp
  | succ n ih => rw [List.replicate_succ, List.flatten_cons, List.length_append, ih, Nat.succ_mul, Nat.add_comm]
theorem opT_add (hK : X.K = Γ.K) : OpT Γ X (binaryOp .Add) addT := by
  refine opT_of (op_add.or (op_add_str.or (op_cat.or op_catA))) fun s t u H F x y Q h sub rx ry n => ?_
  unfold addT at h
  split at h
  · cases h
    simp only [Rp] at rx ry
    exact .inl ⟨_, _, rx, ry, n.same sub rp_int⟩
  · simp only [Rp] at rx ry
    split at h
    · rename_i hl
      cases h
      refine .inr (.inl ⟨_, _, rx, ry, ?_, ?_⟩)
      · rw [mkStr_length, mkStr_length]
        exact szL hl
      · rw [mkStr_app]
        exact n.same sub rp_str
    · cases h
  · simp only [Rp] at rx ry
    obtain ⟨a, xs, rfl, ha, ra⟩ := rx
    obtain ⟨b, ys, rfl, hb, rb⟩ := ry
    split at h
    · rename_i hl
      cases h
      refine .inr (.inr (.inl ⟨a, b, xs, ys, rfl, rfl, sub _ _ ha, sub _ _ hb, ?_, fun p hp => ?_⟩))
      · rw [RpL.length _ _ ra, RpL.length _ _ rb]
        exact szL hl
      · exact n.new sub hp (newList_rp (RpL.append ra rb) sub hp)
    · cases h
  · simp only [Rp] at rx ry
    obtain ⟨a, xs, rfl, ha, ra⟩ := rx
    obtain ⟨b, ys, rfl, hb, rb⟩ := ry
    split at h
    · rename_i hl
      cases h
      have hz := RpL.append ra rb
      refine .inr (.inr (.inr ⟨a, b, xs, ys, rfl, rfl, .of (sub _ _ ha), .of (sub _ _ hb), ?_, fun z => ?_, fun z z' => ?_, fun _ _ p hp => ?_⟩))
      · rw [RpL.length _ _ ra, RpL.length _ _ rb]
        exact szL hl
      · refine n.same sub ?_
        subst z
        simp only [Rp]
        exact ⟨b, ys, rfl, hb, by simpa using hz⟩
      · refine n.same sub ?_
        subst z'
        simp only [Rp]
        exact ⟨a, xs, rfl, ha, by simpa using hz⟩
      · exact n.new sub hp (newTup_rp hz sub hp)
    · cases h
  · cases h
theorem opT_sub : OpT Γ X (binaryOp .Sub) subT := by
  refine opT_of op_sub fun s t u H F x y Q h sub rx ry n => ?_
  unfold subT at h
  split at h
  · cases h
    simp only [Rp] at rx ry
    exact ⟨_, _, rx, ry, n.same sub rp_int⟩
  · cases h
theorem opT_mul : OpT Γ X (binaryOp .Mult) mulT := by
  refine opT_of (op_mul.or (op_mulW.or (op_strMul.or op_rep))) fun s t u H F x y Q h sub rx ry n => ?_
  unfold mulT at h
  split at h
  · split at h
    · rename_i hc
      cases h
      simp only [Rp] at rx ry
      rw [Bool.or_eq_true, Bool.or_eq_true] at hc
      have sm : ∀ {k : Int}, TL.small64 k = true → -(2 ^ 64) < k ∧ k < 2 ^ 64 := fun {k} z => by
        unfold TL.small64 at z
        rw [Bool.and_eq_true] at z
        exact ⟨of_decide_eq_true z.1, of_decide_eq_true z.2⟩
      rcases hc with (hc | hc) | hc
      · exact .inl ⟨_, _, rx, ry, .inl (sm hc), n.same sub rp_int⟩
      · exact .inl ⟨_, _, rx, ry, .inr (sm hc), n.same sub rp_int⟩
      · rw [Bool.and_eq_true] at hc
        exact .inr (.inl ⟨_, _, rx, ry, wide_mul (of_decide_eq_true hc.1) (of_decide_eq_true hc.2) (by decide) (by decide) (by decide), n.same sub rp_int⟩)
    · cases h
  · split at h
    · rename_i hc
      cases h
      simp only [Rp] at rx ry
      exact .inr (.inr (.inl ⟨_, _, rx, ry, hc.2.1, hc.1, hc.2.2, n.same sub rp_str⟩))
    · cases h
  · split at h
    · rename_i hc
      cases h
      simp only [Rp] at rx ry
      obtain ⟨a, xs, rfl, ha, ra⟩ := rx
      refine .inr (.inr (.inr ⟨a, _, xs, rfl, ry, sub _ _ ha, by omega, by omega, ?_, fun p hp => ?_⟩))
      · rw [RpL.length _ _ ra]
        exact szL hc.2.2
      · exact n.new sub hp (newList_rp (RpL.reps ra _) sub hp)
    · cases h
  · cases h
theorem opT_mod : OpT Γ X (binaryOp .Mod) modT := by
  refine opT_of op_mod fun s t u H F x y Q h sub rx ry n => ?_
  unfold modT at h
  split at h
  · split at h
    · rename_i hc
      cases h
      simp only [Rp] at rx ry
      exact ⟨_, _, rx, ry, hc, n.same sub rp_int⟩
    · cases h
  · cases h
theorem opT_fdiv : OpT Γ X (binaryOp .FloorDiv) fdivT := by
  refine opT_of op_fdivW fun s t u H F x y Q h sub rx ry n => ?_
  unfold fdivT at h
  split at h
  · split at h
    · rename_i hc
      cases h
      simp only [Rp] at rx ry
      exact ⟨_, _, rx, ry, wide_div hc.1 hc.2 (by decide) (by decide), n.same sub rp_int⟩
    · cases h
  · cases h
theorem opT_pow : OpT Γ X (binaryOp .Pow) powT := by
  refine opT_of op_pow fun s t u H F x y Q h sub rx ry n => ?_
  unfold powT at h
  split at h
  · split at h
    · rename_i hc
      cases h
      simp only [Rp] at rx ry
      exact ⟨_, _, rx, ry, hc, n.same sub rp_int⟩
    · cases h
  · cases h
theorem cps_list (s : Cs) : (mkStr s).cps.toList = s := by simp [mkStr]
theorem opT_lt : OpT Γ X (compareOp .Lt) ltT := by
  refine opT_of (op_lt.or op_lt_str) fun s t u H F x y Q h sub rx ry n => ?_
  unfold ltT at h
  split at h
  · cases h
    simp only [Rp] at rx ry
    exact .inl ⟨_, _, rx, ry, n.same sub rp_bl⟩
  · cases h
    simp only [Rp] at rx ry
    refine .inr ⟨_, _, rx, ry, ?_⟩
    simp only [cps_list]
    exact n.same sub rp_bl
  · cases h
theorem opT_le : OpT Γ X (compareOp .LtE) leT := by
  refine opT_of (op_le.or op_le_str) fun s t u H F x y Q h sub rx ry n => ?_
  unfold leT at h
  split at h
  · cases h
    simp only [Rp] at rx ry
    exact .inl ⟨_, _, rx, ry, n.same sub rp_bl⟩
  · cases h
    simp only [Rp] at rx ry
    refine .inr ⟨_, _, rx, ry, ?_⟩
    simp only [cps_list]
    exact n.same sub rp_bl
  · cases h
theorem opT_gt : OpT Γ X (compareOp .Gt) gtT := by
  refine opT_of (op_gt.or op_gt_str) fun s t u H F x y Q h sub rx ry n => ?_
  unfold gtT at h
  split at h
  · cases h
    simp only [Rp] at rx ry
    exact .inl ⟨_, _, rx, ry, n.same sub rp_bl⟩
  · cases h
    simp only [Rp] at rx ry
    refine .inr ⟨_, _, rx, ry, ?_⟩
    simp only [cps_list]
    exact n.same sub rp_bl
  · cases h
theorem opT_ge : OpT Γ X (compareOp .GtE) geT := by
  refine opT_of (op_ge.or op_ge_str) fun s t u H F x y Q h sub rx ry n => ?_
  unfold geT at h
  split at h
  · cases h
    simp only [Rp] at rx ry
    exact .inl ⟨_, _, rx, ry, n.same sub rp_bl⟩
  · cases h
    simp only [Rp] at rx ry
    refine .inr ⟨_, _, rx, ry, ?_⟩
    simp only [cps_list]
    exact n.same sub rp_bl
  · cases h
theorem dec_str' {a b : Cs} : decide (V.str (mkStr a) = V.str (mkStr b)) = decide (a = b) := by
  by_cases h : a = b
  · subst h; simp
  · rw [decide_eq_false h, decide_eq_false fun z => h (mkStr_inj (V.str.inj z))]
theorem opT_eq (hK : X.K = Γ.K) (hu : X.A.units + 64 < cLine) : OpT Γ X (compareOp .Eq) eqT := by
  refine opT_of (op_eq.or (op_eqD hu)) fun s t u H F x y Q h sub rx ry n => ?_
  unfold eqT at h
  split at h
  · cases h
    simp only [Rp] at rx ry
    subst rx; subst ry
    refine .inl ⟨rfl, ?_⟩
    rw [dec_int, Bool.beq_eq_decide_eq]
    exact n.same sub rp_bl
  · cases h
    simp only [Rp] at rx ry
    subst rx; subst ry
    refine .inl ⟨rfl, ?_⟩
    rw [dec_str']
    exact n.same sub rp_bl
  · cases h
    simp only [Rp] at rx ry
    subst rx; subst ry
    refine .inl ⟨rfl, ?_⟩
    rw [dec_bl, Bool.beq_eq_decide_eq]
    exact n.same sub rp_bl
  · split at h
    · rename_i hc
      cases h
      rw [Bool.and_eq_true] at hc
      obtain ⟨c1, c2⟩ := hc
      unfold okD at c1 c2
      rw [Bool.and_eq_true] at c1 c2
      refine .inr ⟨_, _, by rw [hK]; exact pd_at sub _ x c1.1 rx, by rw [hK]; exact pd_at sub _ y c2.1 ry, c1.2, c2.2, n.same sub rp_bl⟩
    · cases h
theorem opT_ne (hK : X.K = Γ.K) (hu : X.A.units + 64 < cLine) : OpT Γ X (compareOp .NotEq) neT := by
  refine opT_of (op_ne.or (op_neD hu)) fun s t u H F x y Q h sub rx ry n => ?_
  unfold neT at h
  split at h
  · rename_i b hb
    cases h
    unfold eqT at hb
    split at hb
    · cases hb
      simp only [Rp] at rx ry
      subst rx; subst ry
      refine .inl ⟨rfl, ?_⟩
      rw [dec_int, Bool.beq_eq_decide_eq]
      exact n.same sub rp_bl
    · cases hb
      simp only [Rp] at rx ry
      subst rx; subst ry
      refine .inl ⟨rfl, ?_⟩
      rw [dec_str']
      exact n.same sub rp_bl
    · cases hb
      simp only [Rp] at rx ry
      subst rx; subst ry
      refine .inl ⟨rfl, ?_⟩
      rw [dec_bl, Bool.beq_eq_decide_eq]
      exact n.same sub rp_bl
    · split at hb
      · rename_i hc
        cases hb
        rw [Bool.and_eq_true] at hc
        obtain ⟨c1, c2⟩ := hc
        unfold okD at c1 c2
        rw [Bool.and_eq_true] at c1 c2
        refine .inr ⟨_, _, by rw [hK]; exact pd_at sub _ x c1.1 rx, by rw [hK]; exact pd_at sub _ y c2.1 ry, c1.2, c2.2, n.same sub rp_bl⟩
      · cases hb
  · cases h
theorem rp_ne_non {t : T} {v : V} (r : Rp Γ F v t) : decide (v = .non) = match t with | .non => true | _ => false := by
  cases t <;> simp only [Rp] at r
  case non => subst r; rfl
  case bl => subst r; rfl
  case int => subst r; rfl
  case str => subst r; rfl
  case tup => obtain ⟨_, _, rfl, _⟩ := r; rfl
  case lst => obtain ⟨_, _, rfl, _⟩ := r; rfl
  case dic => obtain ⟨_, _, rfl, _⟩ := r; rfl
  case dct => obtain ⟨_, _, rfl, _⟩ := r; rfl
  case obj => obtain ⟨_, _, _, rfl, _⟩ := r; rfl
  case scr => obtain ⟨_, rfl, _⟩ := r; rfl
  case ktp => obtain ⟨_, _, rfl, _⟩ := r; rfl
  case ty => subst r; rfl
  case kl => subst r; rfl
theorem opT_isN : OpT Γ X (compareOp .Is) isNT := by
  refine opT_of op_isN fun s t u H F x y Q h sub rx ry n => ?_
  cases t <;> first | (cases s <;> cases h; done) | skip
  refine ⟨by simpa only [Rp] using ry, ?_⟩
  rw [rp_ne_non rx]
  cases s <;> cases h <;> exact n.same sub rp_bl
theorem opT_notN : OpT Γ X (compareOp .IsNot) notNT := by
  refine opT_of op_notN fun s t u H F x y Q h sub rx ry n => ?_
  cases t <;> first | (cases s <;> cases h; done) | skip
  refine ⟨by simpa only [Rp] using ry, ?_⟩
  rw [rp_ne_non rx]
  cases s <;> cases h <;> exact n.same sub rp_bl
theorem op_din (hu : X.A.units + 1 < cLine) : OpR X (compareOp .In) (fun y x H Q => ∃ a o, x = .ref a ∧ DGet H a y o ∧ Q (.bl o.isSome) H) := by
  intro pins s σ H y x u v Q I ry rx h
  obtain ⟨a, o, rfl, g, q⟩ := h
  obtain rfl : v = Value.ref a := rx
  exact d_in hu I g ry fun s' I' => ⟨.bl _, H, I', rfl, q⟩
theorem op_dnotIn (hu : X.A.units + 1 < cLine) : OpR X (compareOp .NotIn) (fun y x H Q => ∃ a o, x = .ref a ∧ DGet H a y o ∧ Q (.bl (!o.isSome)) H) := by
  intro pins s σ H y x u v Q I ry rx h
  obtain ⟨a, o, rfl, g, q⟩ := h
  obtain rfl : v = Value.ref a := rx
  exact d_notIn hu I g ry fun s' I' => ⟨.bl _, H, I', rfl, q⟩
theorem dget_some {o : Option V} {w : Option T} (h1 : ∀ u, w = some u → ∃ z, o = some z ∧ Rp Γ F z u) (h2 : w = none → o = none) : o.isSome = w.isSome := by
  cases w with
  | none => rw [h2 rfl]; rfl
  | some u =>
    obtain ⟨z, e, _⟩ := h1 u rfl
    rw [e]
    rfl
/-- what in asks, one road for in and not in -/
theorem in_road {s t : T} {b : Bool} (hK : X.K = Γ.K) (sub : Sub F H) (rx : Rp Γ F x s) (ry : Rp Γ F y t) (h : inT s t = some b) :
    (∃ (c : Nat) (z : Str), x = .str ⟨#[c]⟩ ∧ y = .str z ∧ decide (c ∈ z.cps.toList) = b) ∨ (∃ p xs, y = .ref p ∧ (SqL X.K H p xs ∨ SqT X.K H p xs) ∧ flatV x = true ∧ xs.all flatV = true ∧ inV x xs = b) ∨
      (∃ a o, y = .ref a ∧ DGet H a x o ∧ o.isSome = b) := by
  unfold inT at h
  split at h
  · cases h
    simp only [Rp] at rx ry
    subst rx; subst ry
    exact .inl ⟨_, _, rfl, rfl, by rw [cps_list]⟩
  · split at h
    · rename_i hc
      cases h
      rw [Bool.and_eq_true] at hc
      simp only [Rp] at ry
      obtain ⟨a, xs, rfl, ha, ra⟩ := ry
      obtain ⟨f1, f2⟩ := flats_of (y := x) hc.2 ra
      exact .inr (.inl ⟨a, xs, rfl, .inl (.of (sub _ _ ha)), (eqV_flat hc.1 hc.1 rx rx).2.1, f1, f2 hc.1 rx⟩)
    · cases h
  · split at h
    · rename_i hc
      cases h
      rw [Bool.and_eq_true] at hc
      simp only [Rp] at ry
      obtain ⟨a, xs, rfl, ha, ra⟩ := ry
      obtain ⟨f1, f2⟩ := flats_of (y := x) hc.2 ra
      exact .inr (.inl ⟨a, xs, rfl, .inr (.of (sub _ _ ha)), (eqV_flat hc.1 hc.1 rx rx).2.1, f1, f2 hc.1 rx⟩)
    · cases h
  · split at h
    · rename_i hc
      cases h
      rw [Bool.and_eq_true] at hc
      simp only [Rp] at ry
      obtain ⟨a, xs, rfl, ha, ra⟩ := ry
      obtain ⟨f1, f2⟩ := flats_of (y := x) hc.2 ra
      exact .inr (.inl ⟨a, xs, rfl, .inr (by rw [hK]; exact sub.sqT ha), (eqV_flat hc.1 hc.1 rx rx).2.1, f1, f2 hc.1 rx⟩)
    · cases h
  · cases hk : keyT s with
    | none => rw [hk] at h; cases h
    | some k =>
      rw [hk] at h
      cases h
      obtain ⟨a, o, e, g, g1, g2⟩ := dget_dic sub ry hk rx
      exact .inr (.inr ⟨a, o, e, g, dget_some g1 g2⟩)
  · rename_i l ks vs
    cases hk : keysT l with
    | none => rw [hk] at h; cases h
    | some k =>
      rw [hk] at h
      cases h
      obtain ⟨a, o, e, g, g1, g2⟩ := dget_dct sub ry hk rx
      exact .inr (.inr ⟨a, o, e, g, dget_some g1 g2⟩)
  · cases h
theorem opT_in (hK : X.K = Γ.K) (hu : X.A.units + 1 < cLine) : OpT Γ X (compareOp .In) inV' := by
  refine opT_of (op_in_sign.or (op_in_seq.or (op_din hu))) fun s t u H F x y Q h sub rx ry n => ?_
  unfold inV' at h
  cases hi : inT s t with
  | none => rw [hi] at h; cases h
  | some b =>
    rw [hi] at h
    cases h
    have q : Q (.bl b) H := n.same sub rp_bl
    rcases in_road hK sub rx ry hi with ⟨c, z, e1, e2, e3⟩ | ⟨p, xs, e1, e2, e3, e4, e5⟩ | ⟨a, o, e1, e2, e3⟩
    · exact .inl ⟨c, z, e1, e2, by rw [e3]; exact q⟩
    · refine .inr (.inl ⟨p, xs, e1, e2, e3, e4, ?_⟩)
      rw [if_neg Bool.false_ne_true, e5]
      exact q
    · exact .inr (.inr ⟨a, o, e1, e2, by rw [e3]; exact q⟩)
theorem opT_notIn (hK : X.K = Γ.K) (hu : X.A.units + 1 < cLine) : OpT Γ X (compareOp .NotIn) notInV := by
  refine opT_of (op_notIn_sign.or (op_notIn_seq.or (op_dnotIn hu))) fun s t u H F x y Q h sub rx ry n => ?_
  unfold notInV at h
  cases hi : inT s t with
  | none => rw [hi] at h; cases h
  | some b =>
    rw [hi] at h
    cases h
    have q : Q (.bl !b) H := n.same sub rp_bl
    rcases in_road hK sub rx ry hi with ⟨c, z, e1, e2, e3⟩ | ⟨p, xs, e1, e2, e3, e4, e5⟩ | ⟨a, o, e1, e2, e3⟩
    · exact .inl ⟨c, z, e1, e2, by rw [e3]; exact q⟩
    · refine .inr (.inl ⟨p, xs, e1, e2, e3, e4, ?_⟩)
      rw [if_pos rfl, e5]
      exact q
    · exact .inr (.inr ⟨a, o, e1, e2, by rw [e3]; exact q⟩)
end
end TL
set_option Elab.async false
set_option linter.all false
set_option maxRecDepth 100000
set_option maxHeartbeats 0
/-! TL5: places, slices, chains, values of and / or, built-in calls and methods, over trees. -/
namespace TL
open PySem PySem.Spec L2

theorem PE.or2 {X : Cx} {e : Expr} {t t' : TE} (h : PE X e t) (h' : PE X e t') : PE X e (fun σ H Q => t σ H Q ∨ t' σ H Q) := ⟨fun pins s σ H Q I q => q.elim (h.run pins s σ H Q I) (h'.run pins s σ H Q I)⟩
def ixG (s t : T) : Option T := match s with
  | .dic ks vs => getT (.dic ks vs) t
  | .dct ks vs => getT (.dct ks vs) t
  | s => ixT s t
section
variable {X : Cx} {Ψ : Sx} {e a b c : Expr} {pos : Pos} {da db dc : DE}
theorem atI_rp {Γ : Gam} {F : Hp} {l : List T} {xs : List V} {i : Int} {t : T} (r : RpL Γ F xs l) (h : atI l i = some t) : ∃ x, atI xs i = some x ∧ Rp Γ F x t := by
  unfold atI at h ⊢
  rw [RpL.length _ _ r]
  cases z : ixN l.length i with
  | none => rw [z] at h; cases h
  | some j =>
    rw [z] at h
    exact RpL.get r h
theorem ix_road {Γ : Gam} {K : PySem.W.Frag} {F H : Hp} {x y : V} {s t u : T} {Q : VK} (hK : K = Γ.K) (sub : Sub F H) (rx : Rp Γ F x s) (ry : Rp Γ F y t) (h : ixT s t = some u) (n : ∀ v, Rp Γ F v u → Q v H) : rIx K x y H Q := by
  unfold ixT at h
  split at h
  · simp only [Rp] at rx ry
    obtain ⟨a, xs, rfl, ha, ra⟩ := rx
    obtain ⟨z, e1, e2⟩ := atI_rp ra h
    exact .inl ⟨a, xs, _, z, rfl, ry, .of (sub _ _ ha), e1, n z e2⟩
  · simp only [Rp] at rx ry
    obtain ⟨a, xs, rfl, ha, ra⟩ := rx
    obtain ⟨z, e1, e2⟩ := atI_rp ra h
    exact .inr (.inl ⟨a, xs, _, z, rfl, ry, .of (sub _ _ ha), e1, n z e2⟩)
  · simp only [Rp] at rx ry
    obtain ⟨a, xs, rfl, ha, ra⟩ := rx
    obtain ⟨z, e1, e2⟩ := atI_rp ra h
    exact .inr (.inl ⟨a, xs, _, z, rfl, ry, by rw [hK]; exact sub.sqT ha, e1, n z e2⟩)
  · simp only [Rp] at rx ry
    split at h
    · rename_i s i hl
      cases z : atI s i with
      | none => rw [z] at h; cases h
      | some c =>
        rw [z] at h
        cases h
        refine .inr (.inr ⟨_, i, c, rx, ry, by rw [mkStr_length]; exact szL hl, ?_, n _ rp_str⟩)
        rw [cps_list]
        exact z
    · cases h
  · cases h
theorem de_ix (hK : X.K = Ψ.Γ.K) (hu : X.A.units + 1 < cLine) (ha : PE X a (tE Ψ da)) (hb : PE X b (tE Ψ db)) (hs : PlainIx b := by intro _ _; rfl) : PE X (.Subscript a b pos) (tE Ψ (dOp ixG da db)) := by
  refine PE.imp (PE.or2 (pe_ix ix_seq ha hb hs) (pe_dget hu ha hb hs)) fun σ H Q q => ?_
  obtain ⟨B, τ, tm, F, ω, rl, hio, q⟩ := q
  unfold dOp at q
  rw [R.sat_bind] at q
  -- which road
  have left : (∀ s τ1, da τ = .ok s τ1 → ∀ t u, ixG s t = some u → ixT s t = some u) → tOp (rIx X.K) (tE Ψ da) (tE Ψ db) σ H Q := fun hz => by
    cases zd : da τ with
    | ok s τ1 =>
      rw [zd] at q
      refine ⟨B, τ, tm, F, ω, rl, hio, ?_⟩
      rw [zd]
      intro v1 H1 F1 ω1 r1 s1 p1
      have q1 := q
      rw [R.sat, R.sat_bind] at q1
      refine ⟨B, τ1, tm, F1, ω1, r1, hio, R.sat_mono q1 (fun t τ2 q2 v2 H2 F2 ω2 r2 s2 p2 => ?_) (fun _ _ _ x => x)⟩
      cases z : ixG s t with
      | none => rw [z] at q2; exact q2.elim
      | some u =>
        rw [z] at q2
        exact ix_road hK r2.fh (Rp.mono s2 s v1 p1) p2 (hz s τ1 zd t u z) fun v p => q2 v H2 F2 ω2 r2 (s1.trans s2) p
    | er e fs τ1 => rw [zd] at q; exact ⟨B, τ, tm, F, ω, rl, hio, by rw [zd]; exact q⟩
    | st => rw [zd] at q; exact q.elim
  cases zd : da τ with
  | er e fs τ1 => exact .inl (left fun s τ1 h => by rw [zd] at h; cases h)
  | st => rw [zd] at q; exact q.elim
  | ok s τ1 =>
    have dict : (∀ t u, ixG s t = some u → ∀ (H2 F2 : Hp) (v1 v2 : V), Sub F2 H2 → Rp Ψ.Γ F2 v1 s → Rp Ψ.Γ F2 v2 t → ∃ a z, v1 = .ref a ∧ DGet H2 a v2 (some z) ∧ Rp Ψ.Γ F2 z u) → tDGet (tE Ψ da) (tE Ψ db) σ H Q := fun hz => by
      rw [zd] at q
      refine ⟨B, τ, tm, F, ω, rl, hio, ?_⟩
      rw [zd]
      intro v1 H1 F1 ω1 r1 s1 p1
      have q1 := q
      rw [R.sat, R.sat_bind] at q1
      refine ⟨B, τ1, tm, F1, ω1, r1, hio, R.sat_mono q1 (fun t τ2 q2 v2 H2 F2 ω2 r2 s2 p2 => ?_) (fun _ _ _ x => x)⟩
      cases z : ixG s t with
      | none => rw [z] at q2; exact q2.elim
      | some u =>
        rw [z] at q2
        obtain ⟨a, w, e1, e2, e3⟩ := hz t u z H2 F2 v1 v2 r2.fh (Rp.mono s2 s v1 p1) p2
        exact ⟨a, w, e1, e2, q2 w H2 F2 ω2 r2 (s1.trans s2) e3⟩
    cases s with
    | dic ks vs =>
      refine .inr (dict fun t u hz H2 F2 v1 v2 sub p1 p2 => ?_)
      simp only [ixG, getT] at hz
      cases hk : keyT t with
      | none => rw [hk] at hz; cases hz
      | some k =>
        rw [hk] at hz
        obtain ⟨a, o, e, g, g1, g2⟩ := dget_dic sub p1 hk p2
        obtain ⟨z, rfl, h2⟩ := g1 u hz
        exact ⟨a, z, e, g, h2⟩
    | dct ks vs =>
      refine .inr (dict fun t u hz H2 F2 v1 v2 sub p1 p2 => ?_)
      cases t with
      | tup l =>
        simp only [ixG, getT] at hz
        cases hk : keysT l with
        | none => rw [hk] at hz; cases hz
        | some k =>
          rw [hk] at hz
          obtain ⟨a, o, e, g, g1, g2⟩ := dget_dct sub p1 hk p2
          obtain ⟨z, rfl, h2⟩ := g1 u hz
          exact ⟨a, z, e, g, h2⟩
      | _ => simp only [ixG, getT] at hz; cases hz
    | _ => exact .inl (left fun s τ2 h t u hz => by rw [zd] at h; cases h; exact hz)

/-! ### slices -/
abbrev DP := Env → R (Option Int)
def tP (Ψ : Sx) (d : DP) : TO := fun σ H Q => ∃ B τ tm F ω, Rel Ψ.Γ B τ tm σ H F ω ∧ Ψ.okB B ∧ (d τ).sat (fun o τ' => ∀ H' F' ω', Rel Ψ.Γ B τ' tm σ H' F' ω' → Sub F F' → Q o H') (exP Ψ B σ)
def dNoP : DP := fun τ => .ok none τ
def dPart (d : DE) : DP := fun τ => (d τ).bind fun t τ1 => match t with
  | .int i => .ok (some i) τ1
  | _ => .st
theorem PO.imp {X : Cx} {e : Option Expr} {t t' : TO} (h : PO X e t) (i : ∀ σ H Q, t' σ H Q → t σ H Q) : PO X e t' := ⟨fun pins s σ H Q I q => h.run pins s σ H Q I (i σ H Q q)⟩
theorem dp_none : PO X none (tP Ψ dNoP) := PO.imp po_none fun σ H Q ⟨B, τ, tm, F, ω, rl, hio, q⟩ => q H F ω rl (fun _ _ e => e)
theorem dp_some {d : DE} (h : PE X e (tE Ψ d)) : PO X (some e) (tP Ψ (dPart d)) := by
  refine PO.imp (po_some h) fun σ H Q ⟨B, τ, tm, F, ω, rl, hio, q⟩ => ?_
  unfold dPart at q
  rw [R.sat_bind] at q
  refine ⟨B, τ, tm, F, ω, rl, hio, R.sat_mono q (fun s τ1 q1 v1 H1 F1 ω1 r1 s1 p1 => ?_) (fun _ _ _ x => x)⟩
  cases s with
  | int i =>
    simp only [Rp] at p1
    exact ⟨i, p1, q1 H1 F1 ω1 r1 s1⟩
  | _ => exact q1.elim
def dSl (d : DE) (lo hi : DP) : DE := fun τ => (d τ).bind fun t τ1 => (lo τ1).bind fun l τ2 => (hi τ2).bind fun h τ3 => match slT t l h with
  | some u => .ok u τ3
  | none => .st
theorem cut_rp {Γ : Gam} {F : Hp} {l : List T} {xs : List V} {lo hi : Option Int} (r : RpL Γ F xs l) : RpL Γ F (cutV xs lo hi) (cutL l lo hi) := by
  unfold cutV cutL
  rw [RpL.length _ _ r]
  exact RpL.take _ (RpL.drop _ r)
theorem de_slice {lo hi : Option Expr} {dl dh : DP} {p2 : Pos} (hK : X.K = Ψ.Γ.K) (he : PE X e (tE Ψ da)) (hl : PO X lo (tP Ψ dl)) (hu : PO X hi (tP Ψ dh)) : PE X (.Subscript e (.Slice lo hi none p2) pos) (tE Ψ (dSl da dl dh)) := by
  refine PE.imp (pe_slice (sl_list.or (sl_tupA.or sl_str)) he hl hu) fun σ H Q ⟨B, τ, tm, F, ω, rl, hio, q⟩ => ?_
  unfold dSl at q
  rw [R.sat_bind] at q
  refine ⟨B, τ, tm, F, ω, rl, hio, R.sat_mono q (fun s τ1 q1 v1 H1 F1 ω1 r1 s1 p1 => ?_) (fun _ _ _ x => x)⟩
  rw [R.sat_bind] at q1
  refine ⟨B, τ1, tm, F1, ω1, r1, hio, R.sat_mono q1 (fun l τ2 q2 H2 F2 ω2 r2 s2 => ?_) (fun _ _ _ x => x)⟩
  rw [R.sat_bind] at q2
  refine ⟨B, τ2, tm, F2, ω2, r2, hio, R.sat_mono q2 (fun h τ3 q3 H3 F3 ω3 r3 s3 => ?_) (fun _ _ _ x => x)⟩
  have p3 := Rp.mono (s2.trans s3) s v1 p1
  have ss := s1.trans (s2.trans s3)
  cases z : slT s l h with
  | none => rw [z] at q3; exact q3.elim
  | some u =>
    rw [z] at q3
    unfold slT at z
    split at z
    · cases z
      simp only [Rp] at p3
      obtain ⟨a, xs, rfl, hx, rx⟩ := p3
      refine .inl ⟨a, xs, rfl, .of (r3.fh _ _ hx), fun p hp => ?_⟩
      exact q3 _ _ _ ω3 (r3.newF hp) (ss.trans (Grow.new r3.fh hp).ff) (newList_rp (cut_rp rx) r3.fh hp)
    · cases z
      simp only [Rp] at p3
      obtain ⟨a, xs, rfl, hx, rx⟩ := p3
      refine .inr (.inl ⟨a, xs, rfl, .of (r3.fh _ _ hx), fun hw => ?_, fun hw p hp => ?_⟩)
      · refine q3 _ _ _ ω3 r3 ss ?_
        have e : cutV xs l h = xs := by
          unfold cutV
          rw [hw.1, hw.2]
          simp
        simp only [Rp]
        exact ⟨a, xs, rfl, hx, by rw [← e]; exact cut_rp rx⟩
      · exact q3 _ _ _ ω3 (r3.newF hp) (ss.trans (Grow.new r3.fh hp).ff) (newTup_rp (cut_rp rx) r3.fh hp)
    · split at z
      · rename_i hl
        cases z
        simp only [Rp] at p3
        refine .inr (.inr ⟨_, p3, by rw [mkStr_length]; exact szL hl, ?_⟩)
        have e : ∀ z : Cs, cutS (mkStr z) l h = mkStr (cutL z l h) := fun z => by
          unfold cutS cutL
          rw [cps_list, mkStr_length]
          rfl
        rw [e]
        exact q3 _ _ _ ω3 r3 ss rp_str
      · cases z
    · cases z

/-! ### one place -/
def dUn (g : T → Option T) (d : DE) : DE := fun τ => (d τ).bind fun t τ1 => match g t with
  | some u => .ok u τ1
  | none => .st
theorem de_neg (ha : PE X a (tE Ψ da)) : PE X (.UnaryOp .USub a pos) (tE Ψ (dUn negT da)) := by
  refine PE.imp (pe_un un_neg ha) fun σ H Q ⟨B, τ, tm, F, ω, rl, hio, q⟩ => ?_
  unfold dUn at q
  rw [R.sat_bind] at q
  refine ⟨B, τ, tm, F, ω, rl, hio, R.sat_mono q (fun s τ1 q1 v1 H1 F1 ω1 r1 s1 p1 => ?_) (fun _ _ _ x => x)⟩
  cases s with
  | int i =>
    simp only [Rp] at p1
    exact ⟨i, p1, q1 _ H1 F1 ω1 r1 s1 rp_int⟩
  | _ => exact q1.elim

/-! ### chains, and, or, not as values -/
def dChain (g g' : T → T → Option T) (da db dc : DE) : DE := fun τ => (da τ).bind fun x τ1 => (db τ1).bind fun y τ2 => match g x y with
  | some (.bl true) => (dc τ2).bind fun z τ3 => match g' y z with
    | some u => .ok u τ3
    | none => .st
  | some (.bl false) => .ok (.bl false) τ2
  | _ => .st
theorem bl_rp {Γ : Gam} {F : Hp} {v : V} {k : Bool} (r : Rp Γ F v (.bl k)) : v = .bl k := by simpa only [Rp] using r
theorem chain_road {r r' : R2} {g g' : T → T → Option T}
    (h : ∀ s t u H F x y Q, g s t = some u → Sub F H → Rp Ψ.Γ F x s → Rp Ψ.Γ F y t → Nw Ψ.Γ H F u Q → r x y H Q) (h' : ∀ s t u H F x y Q, g' s t = some u → Sub F H → Rp Ψ.Γ F x s → Rp Ψ.Γ F y t → Nw Ψ.Γ H F u Q → r' x y H Q)
    {σ : St} {H : Hp} {Q : VK} (q : tE Ψ (dChain g g' da db dc) σ H Q) : tChain r r' (tE Ψ da) (tE Ψ db) (tE Ψ dc) σ H Q := by
  obtain ⟨B, τ, tm, F, ω, rl, hio, q⟩ := q
  unfold dChain at q
  rw [R.sat_bind] at q
  refine ⟨B, τ, tm, F, ω, rl, hio, R.sat_mono q (fun s τ1 q1 v1 H1 F1 ω1 r1 s1 p1 => ?_) (fun _ _ _ x => x)⟩
  rw [R.sat_bind] at q1
  refine ⟨B, τ1, tm, F1, ω1, r1, hio, R.sat_mono q1 (fun t τ2 q2 v2 H2 F2 ω2 r2 s2 p2 => ?_) (fun _ _ _ x => x)⟩
  cases z : g s t with
  | none => rw [z] at q2; exact q2.elim
  | some u =>
    rw [z] at q2
    refine h s t u H2 F2 v1 v2 _ z r2.fh (Rp.mono s2 s v1 p1) p2 fun v H' F' gr p => ?_
    have r3 := r2.grow gr
    cases u with
    | bl k =>
      refine ⟨k, bl_rp p, ?_⟩
      cases k with
      | true =>
        rw [if_pos rfl]
        have q3 : R.sat ((dc τ2).bind fun z τ3 => match g' t z with | some u => .ok u τ3 | none => .st) _ _ := q2
        rw [R.sat_bind] at q3
        refine ⟨B, τ2, tm, F', ω2, r3, hio, R.sat_mono q3 (fun w τ3 q4 v3 H3 F3 ω3 r4 s4 p4 => ?_) (fun _ _ _ x => x)⟩
        cases z' : g' t w with
        | none => rw [z'] at q4; exact q4.elim
        | some u' =>
          rw [z'] at q4
          exact h' t w u' H3 F3 v2 v3 Q z' r4.fh (Rp.mono (gr.ff.trans s4) t v2 p2) p4 fun v H4 F4 gr4 p5 => q4 v H4 F4 ω3 (r4.grow gr4) (s1.trans (s2.trans (gr.ff.trans (s4.trans gr4.ff)))) p5
      | false =>
        rw [if_neg Bool.false_ne_true]
        exact q2 _ H' F' ω2 r3 (s1.trans (s2.trans gr.ff)) rp_bl
    | _ => exact q2.elim
theorem de_chain {op op' : CmpOp} {g g' : T → T → Option T} (ho : OpT Ψ.Γ X (compareOp op) g) (ho' : OpT Ψ.Γ X (compareOp op') g') (ha : PE X a (tE Ψ da)) (hb : PE X b (tE Ψ db)) (hc : PE X c (tE Ψ dc))
    (h1 : ∀ {r r' : R2} {ta tb tc : TE}, OpR X (compareOp op) r → OpR X (compareOp op') r' → PE X a ta → PE X b tb → PE X c tc → PE X (.Compare a [op, op'] [b, c] pos) (tChain r r' ta tb tc)) : PE X (.Compare a [op, op'] [b, c] pos) (tE Ψ (dChain g g' da db dc)) := by
  obtain ⟨r, h3, h4⟩ := ho
  obtain ⟨r', h5, h6⟩ := ho'
  exact PE.imp (h1 h3 h5 ha hb hc) fun σ H Q q => chain_road h4 h6 q
theorem dt_chain {op op' : CmpOp} {g g' : T → T → Option T} (ho : OpT Ψ.Γ X (compareOp op) g) (ho' : OpT Ψ.Γ X (compareOp op') g') (ha : PE X a (tE Ψ da)) (hb : PE X b (tE Ψ db)) (hc : PE X c (tE Ψ dc))
    (h1 : ∀ {r r' : R2} {ta tb tc : TE}, OpR X (compareOp op) r → OpR X (compareOp op') r' → PE X a ta → PE X b tb → PE X c tc → PT X (.Compare a [op, op'] [b, c] pos) (tTest (tChain r r' ta tb tc))) : PT X (.Compare a [op, op'] [b, c] pos) (tT Ψ (dBl (dChain g g' da db dc))) := by
  obtain ⟨r, h3, h4⟩ := ho
  obtain ⟨r', h5, h6⟩ := ho'
  exact PT.imp (h1 h3 h5 ha hb hc) fun σ H Q q => chain_road h4 h6 (bl_of q)
def dAndV (da db : DE) : DE := fun τ => (da τ).bind fun x τ1 => match x with
  | .bl true => db τ1
  | .bl false => .ok (.bl false) τ1
  | _ => .st
def dOrV (da db : DE) : DE := fun τ => (da τ).bind fun x τ1 => match x with
  | .bl false => db τ1
  | .bl true => .ok (.bl true) τ1
  | _ => .st
def notT : T → Option T
  | .bl b => some (.bl (!b))
  | _ => none
variable {rest : List Expr}
theorem de_one {op} (h : PE X a (tE Ψ da)) : PE X (.BoolOp op [a] pos) (tE Ψ da) := pe_one h
theorem de_and (ha : PE X a (tE Ψ da)) (hb : PE X (.BoolOp .And (b :: rest) pos) (tE Ψ db)) : PE X (.BoolOp .And (a :: b :: rest) pos) (tE Ψ (dAndV da db)) := by
  refine PE.imp (pe_and ha hb) fun σ H Q ⟨B, τ, tm, F, ω, rl, hio, w⟩ => ?_
  unfold dAndV at w
  rw [R.sat_bind] at w
  refine ⟨B, τ, tm, F, ω, rl, hio, R.sat_mono w (fun s τ1 q1 v H1 F1 ω1 r1 s1 p1 => ?_) (fun _ _ _ x => x)⟩
  cases s with
  | bl k =>
    refine ⟨k, bl_rp p1, ?_⟩
    cases k with
    | true =>
      rw [if_pos rfl]
      exact ⟨B, τ1, tm, F1, ω1, r1, hio, R.sat_mono q1 (fun s τ1 q1 v H2 F2 ω2 r2 s2 p2 => q1 v H2 F2 ω2 r2 (s1.trans s2) p2) (fun _ _ _ x => x)⟩
    | false =>
      rw [if_neg Bool.false_ne_true]
      exact q1 _ H1 F1 ω1 r1 s1 rp_bl
  | _ => exact q1.elim
theorem de_or (ha : PE X a (tE Ψ da)) (hb : PE X (.BoolOp .Or (b :: rest) pos) (tE Ψ db)) : PE X (.BoolOp .Or (a :: b :: rest) pos) (tE Ψ (dOrV da db)) := by
  refine PE.imp (pe_or ha hb) fun σ H Q ⟨B, τ, tm, F, ω, rl, hio, w⟩ => ?_
  unfold dOrV at w
  rw [R.sat_bind] at w
  refine ⟨B, τ, tm, F, ω, rl, hio, R.sat_mono w (fun s τ1 q1 v H1 F1 ω1 r1 s1 p1 => ?_) (fun _ _ _ x => x)⟩
  cases s with
  | bl k =>
    refine ⟨k, bl_rp p1, ?_⟩
    cases k with
    | false =>
      rw [if_neg Bool.false_ne_true]
      exact ⟨B, τ1, tm, F1, ω1, r1, hio, R.sat_mono q1 (fun s τ1 q1 v H2 F2 ω2 r2 s2 p2 => q1 v H2 F2 ω2 r2 (s1.trans s2) p2) (fun _ _ _ x => x)⟩
    | true =>
      rw [if_pos rfl]
      exact q1 _ H1 F1 ω1 r1 s1 rp_bl
  | _ => exact q1.elim
theorem de_not (ha : PE X a (tE Ψ da)) : PE X (.UnaryOp .Not a pos) (tE Ψ (dUn notT da)) := by
  refine PE.imp (pe_not ha) fun σ H Q ⟨B, τ, tm, F, ω, rl, hio, w⟩ => ?_
  unfold dUn at w
  rw [R.sat_bind] at w
  refine ⟨B, τ, tm, F, ω, rl, hio, R.sat_mono w (fun s τ1 q1 v H1 F1 ω1 r1 s1 p1 => ?_) (fun _ _ _ x => x)⟩
  cases s with
  | bl k => exact ⟨k, bl_rp p1, q1 _ H1 F1 ω1 r1 s1 rp_bl⟩
  | _ => exact q1.elim

/-! ### built-in calls -/
def dCall (g : List T → Option T) (d : DL) : DE := fun τ => (d τ).bind fun ts τ1 => match g ts with
  | some u => .ok u τ1
  | none => .st
def dCallN (g : List T → Option (List T)) (d : DL) : DO := fun τ => (d τ).bind fun ts τ1 => match g ts with
  | some us => .ok (.lst (us.map .fz)) τ1
  | none => .st
def CallT (Γ : Gam) (X : Cx) (f : Value) (g : List T → Option T) : Prop :=
  ∃ r : List V → Hp → VK → Prop, CallR X f r ∧ ∀ ts u H F xs Q, g ts = some u → Sub F H → RpL Γ F xs ts → Nw Γ H F u Q → r xs H Q
/-- a call that makes a new list -/
def CallN (Γ : Gam) (X : Cx) (f : Value) (g : List T → Option (List T)) : Prop :=
  ∃ r : List V → Hp → VK → Prop, CallR X f r ∧ ∀ ts us H F xs Q, g ts = some us → Sub F H → RpL Γ F xs ts → (∀ p ys, H p = none → RpL Γ F ys us → Q (.ref p) (upd H p (.lst ys))) → r xs H Q
theorem callT_road {es : List Expr} {d : DL} {g : List T → Option T} {r : List V → Hp → VK → Prop} (h : ∀ ts u H F xs Q, g ts = some u → Sub F H → RpL Ψ.Γ F xs ts → Nw Ψ.Γ H F u Q → r xs H Q) {σ : St} {H : Hp} {Q : VK} (q : tE Ψ (dCall g d) σ H Q) : tCB r (tA Ψ d) σ H Q := by
  obtain ⟨B, τ, tm, F, ω, rl, hio, q⟩ := q
  unfold dCall at q
  rw [R.sat_bind] at q
  refine ⟨B, τ, tm, F, ω, rl, hio, R.sat_mono q (fun s τ1 q1 vs H1 F1 ω1 r1 s1 p1 => ?_) (fun _ _ _ x => x)⟩
  cases z : g s with
  | none => rw [z] at q1; exact q1.elim
  | some u =>
    rw [z] at q1
    exact h s u H1 F1 vs Q z r1.fh p1 fun v H' F' gr p => q1 v H' F' ω1 (r1.grow gr) (s1.trans gr.ff) p
theorem callN_road {es : List Expr} {d : DL} {g : List T → Option (List T)} {r : List V → Hp → VK → Prop} (h : ∀ ts us H F xs Q, g ts = some us → Sub F H → RpL Ψ.Γ F xs ts → (∀ p ys, H p = none → RpL Ψ.Γ F ys us → Q (.ref p) (upd H p (.lst ys))) → r xs H Q)
    {σ : St} {H : Hp} {Q : VK} (q : tO Ψ (dCallN g d) σ H Q) : tCB r (tA Ψ d) σ H Q := by
  obtain ⟨B, τ, tm, F, ω, rl, hio, q⟩ := q
  unfold dCallN at q
  rw [R.sat_bind] at q
  refine ⟨B, τ, tm, F, ω, rl, hio, R.sat_mono q (fun s τ1 q1 vs H1 F1 ω1 r1 s1 p1 => ?_) (fun _ _ _ x => x)⟩
  cases z : g s with
  | none => rw [z] at q1; exact q1.elim
  | some u =>
    rw [z] at q1
    refine h s u H1 F1 vs Q z r1.fh p1 fun p ys hp ry => ?_
    obtain ⟨ω2, r2⟩ := r1.newList hp ry
    exact q1 _ _ _ ω2 r2 s1
variable {es : List Expr} {d : DL} {x : Str} {p : Pos} {id : String}
theorem de_callB {g : List T → Option T} (hc : CallT Ψ.Γ X (.builtin id) g) (hg : Gl X x) (hm : X.mg x = none) (hv : bootBuiltins x = some (.builtin id)) (ha : PA X (e :: es) (tA Ψ d)) (hn : x ≠ "__name__" := by decide) (hdb : (x == ("__debug__" : Str)) = false := by decide)
    (he : starEach (e :: es) X.env = (false, eval e X.env) :: starEach es X.env := by rfl) (hpl : (backTo pos (starEach es X.env)).any (·.1) = false := by rfl) : PE X (.Call (.Name x p) (e :: es) [] pos) (tE Ψ (dCall g d)) := by
  obtain ⟨r, h1, h2⟩ := hc
  exact PE.imp (pe_callB h1 hg hm hv ha hn hdb he hpl) fun σ H Q q => callT_road (es := es) h2 q
theorem do_callB {g : List T → Option (List T)} (hc : CallN Ψ.Γ X (.builtin id) g) (hg : Gl X x) (hm : X.mg x = none) (hv : bootBuiltins x = some (.builtin id)) (ha : PA X (e :: es) (tA Ψ d)) (hn : x ≠ "__name__" := by decide) (hdb : (x == ("__debug__" : Str)) = false := by decide)
    (he : starEach (e :: es) X.env = (false, eval e X.env) :: starEach es X.env := by rfl) (hpl : (backTo pos (starEach es X.env)).any (·.1) = false := by rfl) : PE X (.Call (.Name x p) (e :: es) [] pos) (tO Ψ (dCallN g d)) := by
  obtain ⟨r, h1, h2⟩ := hc
  exact PE.imp (pe_callB h1 hg hm hv ha hn hdb he hpl) fun σ H Q q => callN_road (es := es) h2 q
theorem de_callTy {g : List T → Option T} (hc : CallT Ψ.Γ X (.type id) g) (hg : Gl X x) (hm : X.mg x = none) (hv : bootBuiltins x = some (.type id)) (ha : PA X (e :: es) (tA Ψ d)) (hn : x ≠ "__name__" := by decide) (hdb : (x == ("__debug__" : Str)) = false := by decide)
    (he : starEach (e :: es) X.env = (false, eval e X.env) :: starEach es X.env := by rfl) (hpl : (backTo pos (starEach es X.env)).any (·.1) = false := by rfl) : PE X (.Call (.Name x p) (e :: es) [] pos) (tE Ψ (dCall g d)) := by
  obtain ⟨r, h1, h2⟩ := hc
  exact PE.imp (pe_callTy h1 hg hm hv ha hn hdb he hpl) fun σ H Q q => callT_road (es := es) h2 q
theorem do_callTy {g : List T → Option (List T)} (hc : CallN Ψ.Γ X (.type id) g) (hg : Gl X x) (hm : X.mg x = none) (hv : bootBuiltins x = some (.type id)) (ha : PA X (e :: es) (tA Ψ d)) (hn : x ≠ "__name__" := by decide) (hdb : (x == ("__debug__" : Str)) = false := by decide)
    (he : starEach (e :: es) X.env = (false, eval e X.env) :: starEach es X.env := by rfl) (hpl : (backTo pos (starEach es X.env)).any (·.1) = false := by rfl) : PE X (.Call (.Name x p) (e :: es) [] pos) (tO Ψ (dCallN g d)) := by
  obtain ⟨r, h1, h2⟩ := hc
  exact PE.imp (pe_callTy h1 hg hm hv ha hn hdb he hpl) fun σ H Q q => callN_road (es := es) h2 q
end
end TL
set_option Elab.async false
set_option linter.all false
set_option maxRecDepth 100000
set_option maxHeartbeats 0
/-! TL6: statements, targets, loops, over trees. -/
namespace TL
open PySem PySem.Spec L2

inductive Fl where
  | nx | rt (o : O) | bk | ct
abbrev DS := Env → R Fl
abbrev DG := T → Env → Option Env
abbrev DGs := List T → Env → Option Env
def OptP (o : Option Env) (P : Env → Prop) : Prop := match o with
  | some τ => P τ
  | none => False

section
variable (Ψ : Sx)
def exS (B : Bs) : Nat → List T → Env → Prop := fun e fs τ' => ∀ cls d σ' H' F' ω' tm', Rel Ψ.Γ B τ' tm' σ' H' F' ω' → Ψ.Γ.xr e fs cls d H' → Ψ.W cls d σ' H'
def flP (B : Bs) (tm : List (V × O)) (D : Ends) : Fl → Env → Prop := fun f τ' => match f with
  | .nx => ∀ σ' H' F' ω', Rel Ψ.Γ B τ' tm σ' H' F' ω' → D.nx σ' H'
  | .rt o => ∀ v σ' H' F' ω', Rel Ψ.Γ B τ' (tm ++ [(v, o)]) σ' H' F' ω' → D.rt v H'
  | .bk => ∀ σ' H' F' ω', Rel Ψ.Γ B τ' tm σ' H' F' ω' → D.bk σ' H'
  | .ct => ∀ σ' H' F' ω', Rel Ψ.Γ B τ' tm σ' H' F' ω' → D.ct σ' H'
/-- at a statement no temporaries stand -/
def _root_.TL.Sx.okS (B : Bs) (tm : List (V × O)) : Prop := Ψ.okB B ∧ tm = []
instance {Ψ : Sx} {B : Bs} {tm : List (V × O)} : CoeOut (Ψ.okS B tm) (Ψ.okB B) := ⟨fun h => h.1⟩
def tS (d : DS) : TS := fun D σ H => ∃ B τ tm F ω, Rel Ψ.Γ B τ tm σ H F ω ∧ Ψ.okS B tm ∧ (d τ).sat (flP Ψ B tm D) (exS Ψ B)
/-- two rows of slots are alike but at vs -/
def Alk (vs : List Nat) (σ σ' : St) : Prop := σ'.length = σ.length ∧ ∀ j, j ∉ vs → σ'[j]? = σ[j]?
def tG (vs : List Nat) (g : DG) : TG := fun v σ H Q => ∃ B τ tm F ω t, Rel Ψ.Γ B τ tm σ H F ω ∧ Ψ.okB B ∧ Rp Ψ.Γ F v t ∧ OptP (g t τ) fun τ' => ∀ σ' H' F' ω', Rel Ψ.Γ B τ' tm σ' H' F' ω' → Sub F F' → Alk vs σ σ' → Q σ' H'
def tGs (ws : List Nat) (g : DGs) : TGs := fun vs σ H Q => ∃ B τ tm F ω ts, Rel Ψ.Γ B τ tm σ H F ω ∧ Ψ.okB B ∧ RpL Ψ.Γ F vs ts ∧ OptP (g ts τ) fun τ' => ∀ σ' H' F' ω', Rel Ψ.Γ B τ' tm σ' H' F' ω' → Sub F F' → Alk ws σ σ' → Q σ' H'
theorem Alk.refl (vs : List Nat) (σ : St) : Alk vs σ σ := ⟨rfl, fun _ _ => rfl⟩
theorem Alk.trans {vs ws : List Nat} {σ σ1 σ2 : St} (a : Alk vs σ σ1) (b : Alk ws σ1 σ2) : Alk (vs ++ ws) σ σ2 := ⟨b.1.trans a.1, fun j hj => by
  rw [List.mem_append] at hj
  exact (b.2 j fun z => hj (.inr z)).trans (a.2 j fun z => hj (.inl z))⟩
theorem Alk.set (i : Nat) (σ : St) (w : Option V) : Alk [i] σ (σ.set i w) := ⟨by simp, fun j hj => by rw [List.getElem?_set_ne]; intro e; exact hj (by rw [e]; exact List.mem_singleton.mpr rfl)⟩
end
theorem PG.imp {X : Cx} {e : Expr} {t t' : TG} (h : PG X e t) (i : ∀ v σ H Q, t' v σ H Q → t v σ H Q) : PG X e t' := ⟨fun pins s σ H v u Q I r q => h.run pins s σ H v u Q I r (i v σ H Q q)⟩
theorem PGs.imp {X : Cx} {e : List Expr} {t t' : TGs} (h : PGs X e t) (i : ∀ v σ H Q, t' v σ H Q → t v σ H Q) : PGs X e t' := ⟨fun pins s σ H v u Q I r q => h.run pins s σ H v u Q I r (i v σ H Q q)⟩
theorem PI.imp {X : Cx} {tg e : Expr} {t t' : TI} (h : PI X tg e t) (i : ∀ σ H Q, t' σ H Q → t σ H Q) : PI X tg e t' := ⟨fun pins s σ H R I q => h.run pins s σ H R I (i σ H R q)⟩
section
variable {X : Cx} {Ψ : Sx} {e a b c : Expr} {pos : Pos} {da db dc : DE} {st : Stmt} {rest : List Stmt} {ds dr : DS}
theorem exS.exP {B : Bs} {σ : St} {e : Nat} {fs : List T} {τ : Env} (h : exS Ψ B e fs τ) : exP Ψ B σ e fs τ := fun cls d H' F' ω' tm' r x => h cls d σ H' F' ω' tm' r x

/-! ### blocks -/
def dNx : DS := fun τ => .ok .nx τ
def dSeq (p q : DS) : DS := fun τ => (p τ).bind fun f τ1 => match f with
  | .nx => q τ1
  | .rt o => .ok (.rt o) τ1
  | .bk => .ok .bk τ1
  | .ct => .ok .ct τ1
theorem dss_nil : PSs X [] (tS Ψ dNx) := PSs.imp pss_nil fun D σ H ⟨B, τ, tm, F, ω, r, hio, q⟩ => q σ H F ω r
theorem dss_cons (h1 : PS X st (tS Ψ ds)) (h2 : PSs X rest (tS Ψ dr)) : PSs X (st :: rest) (tS Ψ (dSeq ds dr)) := by
  refine PSs.imp (pss_cons h1 h2) fun D σ H ⟨B, τ, tm, F, ω, r, hio, q⟩ => ?_
  unfold dSeq at q
  rw [R.sat_bind] at q
  refine ⟨B, τ, tm, F, ω, r, hio, R.sat_mono q (fun f τ1 q1 => ?_) (fun _ _ _ x => x)⟩
  cases f with
  | nx => exact fun σ' H' F' ω' r1 => ⟨B, τ1, tm, F', ω', r1, hio, q1⟩
  | rt o => exact q1
  | bk => exact q1
  | ct => exact q1
theorem dss_one (h1 : PS X st (tS Ψ ds)) : PSs X [st] (tS Ψ ds) := pss_one h1
def dBk : DS := fun τ => .ok .bk τ
def dCt : DS := fun τ => .ok .ct τ
theorem ds_pass : PS X (.Pass pos) (tS Ψ dNx) := PS.imp ps_pass fun D σ H ⟨B, τ, tm, F, ω, r, hio, q⟩ => q σ H F ω r
theorem ds_break : PS X (.Break pos) (tS Ψ dBk) := PS.imp ps_break fun D σ H ⟨B, τ, tm, F, ω, r, hio, q⟩ => q σ H F ω r
theorem ds_continue : PS X (.Continue pos) (tS Ψ dCt) := PS.imp ps_continue fun D σ H ⟨B, τ, tm, F, ω, r, hio, q⟩ => q σ H F ω r
theorem ds_doc {x j pos pos'} : PS X (.Expr (.Constant (.str x) j pos) pos') (tS Ψ dNx) := PS.imp ps_doc fun D σ H ⟨B, τ, tm, F, ω, r, hio, q⟩ => q σ H F ω r
def dStuck : DS := fun _ => .st
theorem ds_never : PS X st (tS Ψ dStuck) := PS.imp ps_never fun D σ H ⟨B, τ, tm, F, ω, r, hio, q⟩ => q
def dDrop (d : DE) : DS := fun τ => (d τ).bind fun _ τ1 => .ok .nx τ1
theorem ds_expr (he : PE X e (tE Ψ da)) (hs : swapsWith e none pos.line X.env = pure false := by rfl) : PS X (.Expr e pos) (tS Ψ (dDrop da)) := by
  refine PS.imp (ps_expr he hs) fun D σ H ⟨B, τ, tm, F, ω, r, hio, q⟩ => ?_
  unfold dDrop at q
  rw [R.sat_bind] at q
  exact ⟨B, τ, tm, F, ω, r, hio, R.sat_mono q (fun f τ1 q1 v H' F' ω' r1 s1 p1 => q1 σ H' F' ω' r1) (fun _ _ _ x => x.exP)⟩
def dRet (d : DO) : DS := fun τ => (d τ).bind fun o τ1 => .ok (.rt o) τ1
theorem ds_ret {d : DO} (he : PE X e (tO Ψ d)) : PS X (.Return (some e) pos) (tS Ψ (dRet d)) := by
  refine PS.imp (ps_ret he) fun D σ H ⟨B, τ, tm, F, ω, r, hio, q⟩ => ?_
  unfold dRet at q
  rw [R.sat_bind] at q
  exact ⟨B, τ, tm, F, ω, r, hio, R.sat_mono q (fun f τ1 q1 v H' F' ω' r1 s1 => q1 v σ H' F' ω' r1) (fun _ _ _ x => x.exP)⟩
def dRetN : DS := fun τ => .ok (.rt (.fz .non)) τ
theorem ds_retN : PS X (.Return none pos) (tS Ψ dRetN) := PS.imp ps_retN fun D σ H ⟨B, τ, tm, F, ω, r, hio, q⟩ => q .non σ H F ω (r.pushF rp_non)
def dIfS (p : DB) (d d' : DS) : DS := fun τ => (p τ).bind fun x τ1 => match x with
  | true => d τ1
  | false => d' τ1
theorem ds_if {as bs : List Stmt} {p : DB} (hc : PT X c (tT Ψ p)) (ha : PSs X as (tS Ψ ds)) (hb : PSs X bs (tS Ψ dr)) : PS X (.If c as bs pos) (tS Ψ (dIfS p ds dr)) := by
  refine PS.imp (ps_if hc ha hb) fun D σ H ⟨B, τ, tm, F, ω, r, hio, q⟩ => ?_
  unfold dIfS at q
  rw [R.sat_bind] at q
  refine ⟨B, τ, tm, F, ω, r, hio, R.sat_mono q (fun f τ1 q1 H' F' ω' r1 s1 => ?_) (fun _ _ _ x => x.exP)⟩
  cases f with
  | true => exact ⟨B, τ1, tm, F', ω', r1, hio, q1⟩
  | false => exact ⟨B, τ1, tm, F', ω', r1, hio, q1⟩

/-! ### targets, stores -/
theorem Rel.fromSlot {Γ : Gam} {B : Bs} {τ : Env} {tm : List (V × O)} {σ : St} {H F : Hp} {ω : Lab} {i : Nat} {o : O} (r : Rel Γ B τ tm σ H F ω) (hi : τ[i]? = some (some o)) : ∃ v ω', σ[i]? = some (some v) ∧ Rel Γ B (τ.set i none) (tm ++ [(v, o)]) σ H F ω' := by
  obtain ⟨v, h1, h2⟩ := r.slot i o hi
  have hlt := (List.getElem?_eq_some_iff.mp hi).1
  have hTB := r.lt
  refine ⟨v, mv ω i (TB + tm.length) [], h1, r.relab (by simpa using r.len) (by simpa using r.lt) r.fh (fun _ _ e => e) r.fh (fun b o e => mv_none.mpr (r.fo b o e)) (fun b p e => let ⟨q, hq⟩ := mv_some e; r.oh b q hq) r.gh (fun b o e => mv_none.mpr (r.go b o e)) (fun _ _ _ _ e => e) (fun j o' e => ?_) (fun j v' o' e => ?_) r.io⟩
  · by_cases hj : j = i
    · subst hj
      rw [List.getElem?_set_self hlt] at e
      cases e
    · rw [List.getElem?_set_ne (Ne.symm hj)] at e
      obtain ⟨u, h3, h4⟩ := r.slot j o' e
      exact ⟨u, h3, Ow.move (fun _ _ e => e) _ [] [] u (fun b q z => ⟨mv_ne z hj, rfl⟩) h4⟩
  · by_cases hj : j < tm.length
    · rw [List.getElem?_append_left hj] at e
      exact Ow.move (fun _ _ e => e) _ [] [] v' (fun b q z => ⟨mv_ne z (by omega), rfl⟩) (r.tmp j v' o' e)
    · rw [List.getElem?_append_right (by omega)] at e
      have hj' : j - tm.length = 0 := by
        have := (List.getElem?_eq_some_iff.mp e).1
        simp at this
        omega
      rw [hj'] at e
      simp at e
      obtain ⟨rfl, rfl⟩ := e
      have : j = tm.length := by omega
      subst this
      exact Ow.move (fun _ _ e => e) _ [] [] v (fun b q z => ⟨by
        have := mv_at (i' := TB + tm.length) (s := []) z
        simpa using this, rfl⟩) h2
def dMv (i : Nat) : DO := fun τ => match τ[i]? with
  | some (some o) => .ok o (τ.set i none)
  | _ => .st
theorem do_mv {i : Nat} (h : PE X e (tVar i)) : PE X e (tO Ψ (dMv i)) := by
  refine PE.imp h fun σ H Q ⟨B, τ, tm, F, ω, r, hio, q⟩ => ?_
  unfold dMv at q
  cases z : τ[i]? with
  | none => rw [z] at q; exact q.elim
  | some w =>
    cases w with
    | none => rw [z] at q; exact q.elim
    | some o =>
      rw [z] at q
      obtain ⟨v, ω', h1, h2⟩ := r.fromSlot z
      exact ⟨v, h1, q v H F ω' h2 (fun _ _ e => e)⟩
def gN (i : Nat) : DG := fun t τ => some (τ.set i (some (.fz t)))
theorem dg_name {i : Nat} {x : Str} (hN : X.N.Nodup) (hi : X.N[i]? = some x) (hx : Loc X.env.scope x) (hn : i ∉ Ψ.io) (hf : X.fn x = true ∨ X.env.scope.names.lookup x = some .local := by first | exact .inl rfl | exact .inr rfl | assumption) : PG X (.Name x pos) (tG Ψ [i] (gN i)) :=
  PG.imp (pg_name hN hi hx hf) fun v σ H Q ⟨B, τ, tm, F, ω, t, r, hio, p, q⟩ => q _ _ F ω (r.setF p (by rw [hio.1]; exact hn)) (fun _ _ e => e) (Alk.set _ _ _)
def gsNil : DGs := fun ts τ => match ts with
  | [] => some τ
  | _ => none
def gsCons (g : DG) (gs : DGs) : DGs := fun ts τ => match ts with
  | t :: r => (g t τ).bind fun τ1 => gs r τ1
  | [] => none
def gT (n : Nat) (gs : DGs) : DG := fun t τ => match t with
  | .tup l => if l.length = n then gs l τ else none
  | _ => none
theorem dgs_nil : PGs X [] (tGs Ψ [] gsNil) := by
  refine PGs.imp pgs_nil fun v σ H Q ⟨B, τ, tm, F, ω, t, r, hio, p, q⟩ => ?_
  cases t with
  | nil =>
    simp only [RpL] at p
    exact ⟨p, q σ H F ω r (fun _ _ e => e) (Alk.refl _ _)⟩
  | cons => exact q.elim
theorem dgs_cons {es : List Expr} {g : DG} {gs : DGs} {v1 v2 : List Nat} (h1 : PG X e (tG Ψ v1 g)) (h2 : PGs X es (tGs Ψ v2 gs)) (hs : (assignEach (e :: es) X.env).map (·.2) = assign e X.env :: (assignEach es X.env).map (·.2) := by rfl) : PGs X (e :: es) (tGs Ψ (v1 ++ v2) (gsCons g gs)) := by
  refine PGs.imp (pgs_cons h1 h2 hs) fun v σ H Q ⟨B, τ, tm, F, ω, t, r, hio, p, q⟩ => ?_
  cases t with
  | nil => exact q.elim
  | cons t ts =>
    simp only [RpL] at p
    obtain ⟨x, w, rfl, p1, p2⟩ := p
    unfold gsCons at q
    cases z : g t τ with
    | none => simp only [z, Option.bind_none] at q; exact q.elim
    | some τ1 =>
      simp only [z, Option.bind_some] at q
      refine ⟨x, w, rfl, B, τ, tm, F, ω, t, r, hio, p1, ?_⟩
      rw [z]
      intro σ' H' F' ω' r1 s1 a1
      refine ⟨B, τ1, tm, F', ω', ts, r1, hio, RpL.mono s1 _ _ p2, ?_⟩
      cases z2 : gs ts τ1 with
      | none => rw [z2] at q; exact q.elim
      | some τ2 =>
        rw [z2] at q
        exact fun σ2 H2 F2 ω2 r2 s2 a2 => q σ2 H2 F2 ω2 r2 (s1.trans s2) (a1.trans a2)
theorem dg_tup {es : List Expr} {k : Nat} {gs : DGs} {n : Nat} {vs : List Nat} (hc : X.calm = true) (h : PGs X es (tGs Ψ vs gs))
    (hn : (assignEach es X.env).length = n := by rfl) (hst : (assignEach es X.env).findIdx? (·.1) = none := by rfl) : PG X (.Tuple es k pos) (tG Ψ vs (gT n gs)) := by
  refine PG.imp (pg_tup hc h hn hst) fun v σ H Q ⟨B, τ, tm, F, ω, t, r, hio, p, q⟩ => ?_
  cases t with
  | tup l =>
    simp only [Rp] at p
    obtain ⟨a, xs, rfl, ha, ra⟩ := p
    unfold gT at q
    dsimp only at q
    split at q
    · rename_i hl
      exact ⟨a, xs, rfl, .of (r.fh _ _ ha), by rw [RpL.length _ _ ra]; exact hl, B, τ, tm, F, ω, l, r, hio, ra, q⟩
    · exact q.elim
  | _ => exact q.elim
def dAsg (d : DE) (g : DG) : DS := fun τ => (d τ).bind fun t τ1 => match g t τ1 with
  | some τ2 => .ok .nx τ2
  | none => .st
theorem asg_road {g : DG} {vs : List Nat} {D : Ends} {σ : St} {H : Hp} (q : tS Ψ (dAsg da g) D σ H) : tAsg (tE Ψ da) (tG Ψ vs g) D σ H := by
  obtain ⟨B, τ, tm, F, ω, r, hio, q⟩ := q
  unfold dAsg at q
  rw [R.sat_bind] at q
  refine ⟨B, τ, tm, F, ω, r, hio, R.sat_mono q (fun t τ1 q1 v H' F' ω' r1 s1 p1 => ?_) (fun _ _ _ x => x.exP)⟩
  refine ⟨B, τ1, tm, F', ω', t, r1, hio, p1, ?_⟩
  cases z : g t τ1 with
  | some τ2 =>
    rw [z] at q1
    exact fun σ2 H2 F2 ω2 r2 s2 _ => q1 σ2 H2 F2 ω2 r2
  | none => rw [z] at q1; exact q1.elim
theorem ds_asg {tg : Expr} {g : DG} {vs : List Nat} (he : PE X e (tE Ψ da)) (hg : PG X tg (tG Ψ vs g)) (hs : swapsWithSole [tg] e pos.line X.env = pure false := by rfl) (hw : swappedStores [tg] e X.env = pure none := by rfl)
    (h1 : (assignEach [tg] X.env).map (·.2) = [assign tg X.env] := by rfl) : PS X (.Assign [tg] e pos) (tS Ψ (dAsg da g)) := PS.imp (ps_asg he hg hs hw h1) fun D σ H q => asg_road q
/-- name = a frozen thing; name = an owned thing -/
def dSet (i : Nat) (d : DE) : DS := fun τ => (d τ).bind fun t τ1 => .ok .nx (τ1.set i (some (.fz t)))
def dSetO (i : Nat) (d : DO) : DS := fun τ => (d τ).bind fun o τ1 => if i < τ1.length then .ok .nx (τ1.set i (some o)) else .st
theorem ds_set {i : Nat} {x : Str} {pos' : Pos} (hN : X.N.Nodup) (hi : X.N[i]? = some x) (hx : Loc X.env.scope x) (hn : i ∉ Ψ.io) (he : PE X e (tE Ψ da)) (hs : swapsWith e (some (.Name x pos')) pos.line X.env = pure false := by rfl) (hf : X.fn x = true ∨ X.env.scope.names.lookup x = some .local := by first | exact .inl rfl | exact .inr rfl | assumption) :
    PS X (.Assign [.Name x pos'] e pos) (tS Ψ (dSet i da)) := by
  refine PS.imp (ps_set hN hi hx he hs hf) fun D σ H ⟨B, τ, tm, F, ω, r, hio, q⟩ => ?_
  unfold dSet at q
  rw [R.sat_bind] at q
  exact ⟨B, τ, tm, F, ω, r, hio, R.sat_mono q (fun t τ1 q1 v H' F' ω' r1 s1 p1 => q1 _ H' F' ω' (r1.setF p1 (by rw [hio.1.1]; exact hn))) (fun _ _ _ x => x.exP)⟩
theorem ds_setO {i : Nat} {x : Str} {pos' : Pos} {d : DO} (hN : X.N.Nodup) (hi : X.N[i]? = some x) (hx : Loc X.env.scope x) (hn : i ∉ Ψ.io) (he : PE X e (tO Ψ d)) (hs : swapsWith e (some (.Name x pos')) pos.line X.env = pure false := by rfl) (hf : X.fn x = true ∨ X.env.scope.names.lookup x = some .local := by first | exact .inl rfl | exact .inr rfl | assumption) :
    PS X (.Assign [.Name x pos'] e pos) (tS Ψ (dSetO i d)) := by
  refine PS.imp (ps_set hN hi hx he hs hf) fun D σ H ⟨B, τ, tm, F, ω, r, hio, q⟩ => ?_
  unfold dSetO at q
  rw [R.sat_bind] at q
  refine ⟨B, τ, tm, F, ω, r, hio, R.sat_mono q (fun o τ1 q1 v H' F' ω' r1 s1 => ?_) (fun _ _ _ x => x.exP)⟩
  split at q1
  · rename_i hl
    obtain ⟨ω2, r2⟩ := r1.toSlot hl (by rw [hio.1.1]; exact hn)
    exact q1 _ H' F' ω2 r2
  · exact q1.elim
/-- name op= e, flat things -/
def IpT (Γ : Gam) (X : Cx) (op : Operator) (g : T → T → Option T) : Prop := ∃ r : TIp, PIp X op r ∧ ∀ s t u H F x y Q, g s t = some u → Sub F H → Rp Γ F x s → Rp Γ F y t → Nw Γ H F u Q → r x y H Q
def dAug (i : Nat) (g : T → T → Option T) (d : DE) : DS := fun τ => match τ[i]? with
  | some (some (.fz s)) => (d τ).bind fun t τ1 => match g s t with
    | some u => .ok .nx (τ1.set i (some (.fz u)))
    | none => .st
  | _ => .st
theorem ds_aug {i : Nat} {x : Str} {op : Operator} {g : T → T → Option T} {pos' : Pos} (hN : X.N.Nodup) (hi : X.N[i]? = some x) (hx : Loc X.env.scope x) (hn : i ∉ Ψ.io) (he : PE X e (tE Ψ da)) (ho : IpT Ψ.Γ X op g) (hf : X.fn x = true ∨ X.env.scope.names.lookup x = some .local := by first | exact .inl rfl | exact .inr rfl | assumption) :
    PS X (.AugAssign (.Name x pos') op e pos) (tS Ψ (dAug i g da)) := by
  obtain ⟨ti, h1, h2⟩ := ho
  refine PS.imp (ps_aug hN hi hx he h1 hf) fun D σ H ⟨B, τ, tm, F, ω, r, hio, q⟩ => ?_
  unfold dAug at q
  split at q
  · rename_i s hs
    obtain ⟨v, e1, e2⟩ := r.slot i _ hs
    simp only [Ow] at e2
    rw [R.sat_bind] at q
    refine ⟨v, e1, B, τ, tm, F, ω, r, hio, R.sat_mono q (fun t τ1 q1 v1 H' F' ω' r1 s1 p1 => ?_) (fun _ _ _ x => x.exP)⟩
    cases z : g s t with
    | none => rw [z] at q1; exact q1.elim
    | some u =>
      rw [z] at q1
      exact h2 s t u H' F' v v1 _ z r1.fh (Rp.mono s1 s v e2) p1 fun w H2 F2 gr p2 => q1 _ H2 F2 ω' ((r1.grow gr).setF p2 (by rw [hio.1.1]; exact hn))
  · exact q.elim
def iaddT : T → T → Option T
  | .int i, .int j => some (.int (i + j))
  | .str s, .str z => if s.length + z.length ≤ SZ then some (.str (s ++ z)) else none
  | _, _ => none
theorem ipT_add : IpT Ψ.Γ X .Add iaddT := by
  refine ⟨fun x y H Q => ipI (fun i j => i + j) x y H Q ∨ (∃ i j, x = .str i ∧ y = .str j ∧ i.length + j.length ≤ sizeLine ∧ Q (.str (i ++ j)) H), ?_, ?_⟩
  · intro pins s σ H x y v u Q I rx ry h
    rcases h with h | h
    · exact ip_add pins s σ H x y v u Q I rx ry h
    · exact iop_add_str pins s σ H x y v u Q I rx ry h
  · intro s t u H F x y Q h sub rx ry n
    unfold iaddT at h
    split at h
    · cases h
      simp only [Rp] at rx ry
      exact .inl ⟨_, _, rx, ry, n.same sub rp_int⟩
    · split at h
      · rename_i hl
        cases h
        simp only [Rp] at rx ry
        refine .inr ⟨_, _, rx, ry, ?_, ?_⟩
        · rw [mkStr_length, mkStr_length]
          exact szL hl
        · rw [mkStr_app]
          exact n.same sub rp_str
      · cases h
    · cases h
theorem ipT_sub : IpT Ψ.Γ X .Sub subT := by
  refine ⟨ipI fun i j => i - j, ip_sub, ?_⟩
  intro s t u H F x y Q h sub rx ry n
  unfold subT at h
  split at h
  · cases h
    simp only [Rp] at rx ry
    exact ⟨_, _, rx, ry, n.same sub rp_int⟩
  · cases h
end
end TL
set_option Elab.async false
set_option linter.all false
set_option maxRecDepth 100000
set_option maxHeartbeats 0
/-! TL7: what is walked, for, while, comprehensions, over trees. -/
namespace TL
open PySem PySem.Spec L2

/-- J yields the trees ts, whatever grows meanwhile -/
def Walk (Γ : Gam) (J : It) (ts : List T) (F : Hp) : Prop := ∀ i H' F', Sub F F' → Sub F' H' →
  (∀ t, ts[i]? = some t → J.go i H' ∧ ∀ x H2, J.yld i H' x H2 → ∃ F2, Grow H' F' H2 F2 ∧ Rp Γ F2 x t) ∧ (ts.length = i → J.stop i H')
def tI (Ψ : Sx) (d : DL) : TI := fun σ H R => ∃ B τ tm F ω, Rel Ψ.Γ B τ tm σ H F ω ∧ Ψ.okB B ∧ (d τ).sat (fun ts τ' => ∀ J H' F' ω', Rel Ψ.Γ B τ' tm σ H' F' ω' → Sub F F' → Walk Ψ.Γ J ts F' → R J H') (exP Ψ B σ)
section
variable {X : Cx} {Ψ : Sx} {tg e a b c : Expr} {es : List Expr} {pos p : Pos} {da db dc : DE} {d : DL}
/-- a list, a tuple, a text, the script, by its things -/
def itemsT : T → Option (List T)
  | .lst l => some l
  | .tup l => some l
  | .ktp l => some l
  | .scr ns => some (ns.map .int)
  | .str s => some (s.map fun c => .str [c])
  | _ => none
def dItems (d : DE) : DL := fun τ => (d τ).bind fun t τ1 => match itemsT t with
  | some l => .ok l τ1
  | none => .st
theorem walk_list {Γ : Gam} {F : Hp} {a : Addr} {xs : List V} {l : List T} (h : SqL Γ.K F a xs) (hi : ∀ H ys, SqL Γ.K H a ys → SqL Γ.K H a xs → ys = xs) (r : RpL Γ F xs l) : Walk Γ (Itl Γ.K a) l F := by
  intro i H' F' s1 s2
  have hx := (s1.trans s2).sqL h
  refine ⟨fun t ht => ?_, fun hl => ⟨xs, hx, by rw [RpL.length _ _ r]; exact Nat.le_of_eq hl⟩⟩
  obtain ⟨x, e1, e2⟩ := RpL.get r ht
  refine ⟨⟨xs, x, hx, e1⟩, fun y H2 hy => ?_⟩
  obtain ⟨rfl, hy⟩ := hy
  have e3 := hy xs hx
  rw [e1] at e3
  cases e3
  exact ⟨F', .refl s2, Rp.mono s1 t x e2⟩
theorem walk_list' {Γ : Gam} {F : Hp} {a : Addr} {xs : List V} {l : List T} (h : SqL Γ.K F a xs) (r : RpL Γ F xs l) : Walk Γ (Itl Γ.K a) l F := by
  intro i H' F' s1 s2
  have hx := (s1.trans s2).sqL h
  refine ⟨fun t ht => ?_, fun hl => ⟨xs, hx, by rw [RpL.length _ _ r]; exact Nat.le_of_eq hl⟩⟩
  obtain ⟨x, e1, e2⟩ := RpL.get r ht
  refine ⟨⟨xs, x, hx, e1⟩, fun y H2 hy => ?_⟩
  obtain ⟨rfl, hy⟩ := hy
  have e3 := hy xs hx
  rw [e1] at e3
  cases e3
  exact ⟨F', .refl s2, Rp.mono s1 t x e2⟩
theorem walk_tup {Γ : Gam} {F : Hp} {a : Addr} {xs : List V} {l : List T} (h : SqT Γ.K F a xs) (r : RpL Γ F xs l) : Walk Γ (Itt Γ.K a) l F := by
  intro i H' F' s1 s2
  have hx := (s1.trans s2).sqT h
  refine ⟨fun t ht => ?_, fun hl => ⟨xs, hx, by rw [RpL.length _ _ r]; exact Nat.le_of_eq hl⟩⟩
  obtain ⟨x, e1, e2⟩ := RpL.get r ht
  refine ⟨⟨xs, x, hx, e1⟩, fun y H2 hy => ?_⟩
  obtain ⟨rfl, hy⟩ := hy
  have e3 := hy xs hx
  rw [e1] at e3
  cases e3
  exact ⟨F', .refl s2, Rp.mono s1 t x e2⟩
theorem walk_str {Γ : Gam} {F : Hp} {s : Cs} : Walk Γ (Its (mkStr s)) (s.map fun c => .str [c]) F := by
  intro i H' F' s1 s2
  refine ⟨fun t ht => ?_, fun hl => ?_⟩
  · rw [List.getElem?_map] at ht
    cases z : s[i]? with
    | none => rw [z] at ht; cases ht
    | some c =>
      rw [z] at ht
      cases ht
      have hlt := (List.getElem?_eq_some_iff.mp z).1
      refine ⟨by show i < s.toArray.size; simpa using hlt, fun y H2 hy => ?_⟩
      obtain ⟨rfl, c', hc, rfl⟩ := hy
      have : c' = c := by
        have e : (s.toArray)[i]? = some c' := hc
        rw [List.getElem?_toArray, z] at e
        exact (Option.some.inj e).symm
      subst this
      exact ⟨F', .refl s2, rp_str⟩
  · show s.toArray.size ≤ i
    (simp at hl ⊢; omega)
theorem ints_rp {Γ : Gam} {F : Hp} : ∀ ns : List Int, RpL Γ F (ns.map V.int) (ns.map T.int)
  | [] => by simp [RpL]
  | n :: r => RpL.cons rp_int (ints_rp r)
/-- over a list or the script; over a tuple; over a text -/
theorem PI.or2 {t t' : TI} (h : PI X tg e t) (h' : PI X tg e t') : PI X tg e (fun σ H Q => t σ H Q ∨ t' σ H Q) := ⟨fun pins s σ H R I q => q.elim (h.run pins s σ H R I) (h'.run pins s σ H R I)⟩
theorem di_items (hK : X.K = Ψ.Γ.K) (he : PE X e (tE Ψ da)) : PI X tg e (tI Ψ (dItems da)) := by
  refine PI.imp (PI.or2 (pi_list he) (PI.or2 (pi_tup he) (pi_str he))) fun σ H Rr ⟨B, τ, tm, F, ω, r, hio, q⟩ => ?_
  unfold dItems at q
  cases zd : da τ with
  | er e fs τ1 => rw [zd] at q; exact .inl ⟨B, τ, tm, F, ω, r, hio, by rw [zd]; exact q⟩
  | st => rw [zd] at q; exact q.elim
  | ok s τ1 =>
    rw [zd, R.bind_ok] at q
    cases zi : itemsT s with
    | none => rw [zi] at q; exact q.elim
    | some l =>
      rw [zi] at q
      have mk : ∀ {α : Prop}, (∀ v H' F' ω', Rel Ψ.Γ B τ1 tm σ H' F' ω' → Sub F F' → Rp Ψ.Γ F' v s → α) → α ∨ ¬ ∃ v H' F' ω', Rel Ψ.Γ B τ1 tm σ H' F' ω' ∧ Sub F F' ∧ Rp Ψ.Γ F' v s := fun {α} h => by
        by_cases hz : ∃ v H' F' ω', Rel Ψ.Γ B τ1 tm σ H' F' ω' ∧ Sub F F' ∧ Rp Ψ.Γ F' v s
        · obtain ⟨v, H', F', ω', h1, h2, h3⟩ := hz
          exact .inl (h v H' F' ω' h1 h2 h3)
        · exact .inr hz
      cases s with
      | lst l' =>
        refine .inl ⟨B, τ, tm, F, ω, r, hio, ?_⟩
        rw [zd]
        intro v H' F' ω' r1 s1 p1
        cases zi
        simp only [Rp] at p1
        obtain ⟨a, xs, rfl, ha, ra⟩ := p1
        refine ⟨a, rfl, ⟨xs, .of (r1.fh _ _ ha)⟩, ?_⟩
        rw [hK]
        exact q _ H' F' ω' r1 s1 (walk_list' (.of ha) ra)
      | scr ns =>
        refine .inl ⟨B, τ, tm, F, ω, r, hio, ?_⟩
        rw [zd]
        intro v H' F' ω' r1 s1 p1
        cases zi
        simp only [Rp] at p1
        obtain ⟨a, rfl, ha⟩ := p1
        refine ⟨a, rfl, ⟨_, by rw [hK]; exact r1.sub.sqL ha⟩, ?_⟩
        rw [hK]
        exact q _ H' F' ω' r1 s1 (walk_list' ha (ints_rp ns))
      | tup l' =>
        refine .inr (.inl ⟨B, τ, tm, F, ω, r, hio, ?_⟩)
        rw [zd]
        intro v H' F' ω' r1 s1 p1
        cases zi
        simp only [Rp] at p1
        obtain ⟨a, xs, rfl, ha, ra⟩ := p1
        refine ⟨a, rfl, ⟨xs, .of (r1.fh _ _ ha)⟩, ?_⟩
        rw [hK]
        exact q _ H' F' ω' r1 s1 (walk_tup (.of ha) ra)
      | ktp l' =>
        refine .inr (.inl ⟨B, τ, tm, F, ω, r, hio, ?_⟩)
        rw [zd]
        intro v H' F' ω' r1 s1 p1
        cases zi
        simp only [Rp] at p1
        obtain ⟨a, xs, rfl, ha, ra⟩ := p1
        refine ⟨a, rfl, ⟨xs, by rw [hK]; exact r1.sub.sqT ha⟩, ?_⟩
        rw [hK]
        exact q _ H' F' ω' r1 s1 (walk_tup ha ra)
      | str z =>
        refine .inr (.inr ⟨B, τ, tm, F, ω, r, hio, ?_⟩)
        rw [zd]
        intro v H' F' ω' r1 s1 p1
        cases zi
        simp only [Rp] at p1
        exact ⟨_, p1, q _ H' F' ω' r1 s1 walk_str⟩
      | _ => cases zi
/-- range -/
def rngL (lo hi : Int) : List T := (List.range (hi - lo).toNat).map fun i => .int (lo + (i : Nat))
def inR (i : Int) : Bool := decide (-(2 ^ 62) ≤ i) && decide (i < 2 ^ 62)
def dRng1 (d : DL) : DL := fun τ => (d τ).bind fun ts τ1 => match ts with
  | [.int j] => if inR j then .ok (rngL 0 j) τ1 else .st
  | _ => .st
def dRng2 (d : DL) : DL := fun τ => (d τ).bind fun ts τ1 => match ts with
  | [.int i, .int j] => if inR i && inR j then .ok (rngL i j) τ1 else .st
  | _ => .st
def rngD (i j : Int) : List T := (List.range (i - j).toNat).map fun m => .int (i - (m : Nat))
def dRng3 (d : DL) : DL := fun τ => (d τ).bind fun ts τ1 => match ts with
  | [.int i, .int j, .int k] => if inR i && inR j && decide (k = -1) then .ok (rngD i j) τ1 else .st
  | _ => .st
theorem inR_ok {i : Int} (h : inR i = true) : -(2 ^ 62) ≤ i ∧ i < 2 ^ 62 := by
  unfold inR at h
  rw [Bool.and_eq_true] at h
  exact ⟨of_decide_eq_true h.1, of_decide_eq_true h.2⟩
theorem range_get {α : Type} {n i : Nat} {f : Nat → α} {t : α} (h : ((List.range n).map f)[i]? = some t) : i < n ∧ t = f i := by
  rw [List.getElem?_map] at h
  cases z : (List.range n)[i]? with
  | none => rw [z] at h; cases h
  | some j =>
    rw [z] at h
    obtain ⟨h1, h2⟩ := List.getElem?_eq_some_iff.mp z
    simp at h1 h2
    subst h2
    cases h
    exact ⟨h1, rfl⟩
theorem walk_rng {Γ : Gam} {F : Hp} {lo hi : Int} : Walk Γ (Itr lo (hi - lo).toNat) (rngL lo hi) F := by
  intro i H' F' s1 s2
  refine ⟨fun t ht => ?_, fun hl => ?_⟩
  · obtain ⟨h1, rfl⟩ := range_get ht
    refine ⟨h1, fun y H2 hy => ?_⟩
    obtain ⟨rfl, rfl⟩ := hy
    exact ⟨F', .refl s2, rp_int⟩
  · show (hi - lo).toNat ≤ i
    (simp [rngL] at hl ⊢; omega)
theorem walk_down {Γ : Gam} {F : Hp} {i j : Int} : Walk Γ (Itc i (-1) (i - j).toNat) (rngD i j) F := by
  intro k H' F' s1 s2
  refine ⟨fun t ht => ?_, fun hl => ?_⟩
  · obtain ⟨h1, rfl⟩ := range_get ht
    refine ⟨h1, fun y H2 hy => ?_⟩
    obtain ⟨rfl, rfl⟩ := hy
    refine ⟨F', .refl s2, ?_⟩
    rw [show i + (k : Nat) * (-1 : Int) = i - (k : Nat) by omega]
    exact rp_int
  · show (i - j).toNat ≤ k
    (simp [rngD] at hl ⊢; omega)
theorem rp1 {Γ : Gam} {F : Hp} {vs : List V} {t : T} (h : RpL Γ F vs [t]) : ∃ x, vs = [x] ∧ Rp Γ F x t := by
  simp only [RpL] at h
  obtain ⟨x, _, rfl, h1, rfl⟩ := h
  exact ⟨x, rfl, h1⟩
theorem rp2 {Γ : Gam} {F : Hp} {vs : List V} {t u : T} (h : RpL Γ F vs [t, u]) : ∃ x y, vs = [x, y] ∧ Rp Γ F x t ∧ Rp Γ F y u := by
  simp only [RpL] at h
  obtain ⟨x, _, rfl, h1, y, _, rfl, h2, rfl⟩ := h
  exact ⟨x, y, rfl, h1, h2⟩
theorem rp3 {Γ : Gam} {F : Hp} {vs : List V} {t u w : T} (h : RpL Γ F vs [t, u, w]) : ∃ x y z, vs = [x, y, z] ∧ Rp Γ F x t ∧ Rp Γ F y u ∧ Rp Γ F z w := by
  simp only [RpL] at h
  obtain ⟨x, _, rfl, h1, y, _, rfl, h2, z, _, rfl, h3, rfl⟩ := h
  exact ⟨x, y, z, rfl, h1, h2, h3⟩
theorem di_rng1 (hg : Gl X "range") (hm : X.mg "range" = none) (ha : PA X [a] (tA Ψ d)) (hs : starEach [a] X.env = [(false, eval a X.env)] := by rfl) : PI X tg (.Call (.Name "range" p) [a] [] pos) (tI Ψ (dRng1 d)) := by
  refine PI.imp (pi_range1 hg hm ha hs) fun σ H Rr ⟨B, τ, tm, F, ω, r, hio, q⟩ => ?_
  unfold dRng1 at q
  rw [R.sat_bind] at q
  refine ⟨B, τ, tm, F, ω, r, hio, R.sat_mono q (fun ts τ1 q1 vs H' F' ω' r1 s1 p1 => ?_) (fun _ _ _ x => x)⟩
  split at q1
  · split at q1
    · rename_i j hj
      obtain ⟨x, rfl, hx⟩ := rp1 p1
      simp only [Rp] at hx
      obtain ⟨h1, h2⟩ := inR_ok hj
      refine ⟨j, by rw [hx], h1, h2, ?_⟩
      exact q1 (Itr 0 j.toNat) H' F' ω' r1 s1 (by have w := walk_rng (Γ := Ψ.Γ) (F := F') (lo := 0) (hi := j); simpa using w)
    · exact q1.elim
  · exact q1.elim
theorem di_rng2 (hg : Gl X "range") (hm : X.mg "range" = none) (ha : PA X [a, b] (tA Ψ d)) (hs : starEach [a, b] X.env = [(false, eval a X.env), (false, eval b X.env)] := by rfl) (hs2 : starEach [b] X.env = [(false, eval b X.env)] := by rfl) :
    PI X tg (.Call (.Name "range" p) [a, b] [] pos) (tI Ψ (dRng2 d)) := by
  refine PI.imp (pi_range2 hg hm ha hs hs2) fun σ H Rr ⟨B, τ, tm, F, ω, r, hio, q⟩ => ?_
  unfold dRng2 at q
  rw [R.sat_bind] at q
  refine ⟨B, τ, tm, F, ω, r, hio, R.sat_mono q (fun ts τ1 q1 vs H' F' ω' r1 s1 p1 => ?_) (fun _ _ _ x => x)⟩
  split at q1
  · split at q1
    · rename_i i j hj
      rw [Bool.and_eq_true] at hj
      obtain ⟨x, y, rfl, hx, hy⟩ := rp2 p1
      simp only [Rp] at hx hy
      obtain ⟨h1, h2⟩ := inR_ok hj.1
      obtain ⟨h3, h4⟩ := inR_ok hj.2
      refine ⟨i, j, by rw [hx, hy], ⟨h1, h2, h3, h4⟩, ?_⟩
      exact q1 (Itr i (j - i).toNat) H' F' ω' r1 s1 walk_rng
    · exact q1.elim
  · exact q1.elim
theorem di_rng3 (hg : Gl X "range") (hm : X.mg "range" = none) (ha : PA X [a, b, c] (tA Ψ d)) (h1 : ∀ {ta : TA}, PA X [a, b, c] ta → PI X tg (.Call (.Name "range" p) [a, b, c] [] pos) (iRng3 ta)) :
    PI X tg (.Call (.Name "range" p) [a, b, c] [] pos) (tI Ψ (dRng3 d)) := by
  refine PI.imp (h1 ha) fun σ H Rr ⟨B, τ, tm, F, ω, r, hio, q⟩ => ?_
  unfold dRng3 at q
  rw [R.sat_bind] at q
  refine ⟨B, τ, tm, F, ω, r, hio, R.sat_mono q (fun ts τ1 q1 vs H' F' ω' r1 s1 p1 => ?_) (fun _ _ _ x => x)⟩
  split at q1
  · split at q1
    · rename_i i j k hj
      rw [Bool.and_eq_true, Bool.and_eq_true] at hj
      have hk : k = -1 := of_decide_eq_true hj.2
      subst hk
      obtain ⟨x, y, z, rfl, hx, hy, hz⟩ := rp3 p1
      simp only [Rp] at hx hy hz
      obtain ⟨h1, h2⟩ := inR_ok hj.1.1
      obtain ⟨h3, h4⟩ := inR_ok hj.1.2
      refine ⟨i, j, -1, _, by rw [hx, hy, hz], RgC.neg h1 h2 h3 h4, ?_⟩
      exact q1 _ H' F' ω' r1 s1 walk_down
    · exact q1.elim
  · exact q1.elim
/-- enumerate(xs), zip(xs, ys): a new pair at each turn -/
def dEnum (d : DL) : DL := fun τ => (d τ).bind fun ts τ1 => match ts with
  | [.lst l] => .ok (l.zipIdx.map fun p => .tup [.int (p.2 : Nat), p.1]) τ1
  | _ => .st
def dZip (d : DL) : DL := fun τ => (d τ).bind fun ts τ1 => match ts with
  | [.lst l, .lst m] => .ok ((l.zip m).map fun p => .tup [p.1, p.2]) τ1
  | _ => .st
theorem pair_rp {Γ : Gam} {F H : Hp} {q : Addr} {x y : V} {s t : T} (h1 : Rp Γ F x s) (h2 : Rp Γ F y t) (sub : Sub F H) (hq : H q = none) : Rp Γ (upd F q (.tup [x, y])) (.ref q) (.tup [s, t]) :=
  newTup_rp (RpL.cons h1 (RpL.one h2)) sub hq

/-! ### for -/
def forL (g : DG) (body : DS) : List T → Env → R Fl
  | [], τ => .ok .nx τ
  | t :: ts, τ => match g t τ with
    | none => .st
    | some τ1 => (body τ1).bind fun f τ2 => match f with
      | .nx => forL g body ts τ2
      | .ct => forL g body ts τ2
      | .bk => .ok .nx τ2
      | .rt o => .ok (.rt o) τ2
def dFor (di : DL) (g : DG) (body : DS) : DS := fun τ => (di τ).bind fun ts τ1 => forL g body ts τ1
theorem Rel.toF {Γ : Gam} {B : Bs} {τ : Env} {tm : List (V × O)} {σ : St} {H F : Hp} {ω : Lab} (r : Rel Γ B τ tm σ H F ω) : Rel Γ ⟨B.G, F, B.io, B.iv⟩ τ tm σ H F ω :=
  r.base (fun _ _ e => e) (fun _ _ e => e) (fun b o u _ e' => ⟨u, e'⟩) fun i hi => ⟨hi, rfl⟩
theorem Rel.ofF {Γ : Gam} {B : Bs} {τ τ' : Env} {tm tm' : List (V × O)} {σ σ' : St} {H F H' F' : Hp} {ω ω' : Lab} (r : Rel Γ B τ tm σ H F ω) (r' : Rel Γ ⟨B.G, F, B.io, B.iv⟩ τ' tm' σ' H' F' ω') : Rel Γ B τ' tm' σ' H' F' ω' :=
  r'.base (fun _ _ e => e) (fun b o e => r'.f0 b o (r.f0 b o e)) (fun b o u e e' => by
    obtain ⟨u', hu'⟩ := r'.gf b o u e e'
    exact r.gf b o u' e hu') fun i hi => ⟨hi, rfl⟩
theorem flP_ofF {B : Bs} {τ : Env} {tm : List (V × O)} {σ : St} {H F : Hp} {ω : Lab} {D : Ends} (r : Rel Ψ.Γ B τ tm σ H F ω) {f : Fl} {τ' : Env} (h : flP Ψ B tm D f τ') : flP Ψ ⟨B.G, F, B.io, B.iv⟩ tm D f τ' := by
  cases f with
  | nx => exact fun σ' H' F' ω' r' => h σ' H' F' ω' (r.ofF r')
  | rt o => exact fun v σ' H' F' ω' r' => h v σ' H' F' ω' (r.ofF r')
  | bk => exact fun σ' H' F' ω' r' => h σ' H' F' ω' (r.ofF r')
  | ct => exact fun σ' H' F' ω' r' => h σ' H' F' ω' (r.ofF r')
theorem exS_ofF {B : Bs} {τ : Env} {tm : List (V × O)} {σ : St} {H F : Hp} {ω : Lab} (r : Rel Ψ.Γ B τ tm σ H F ω) {e : Nat} {fs : List T} {τ' : Env} (h : exS Ψ B e fs τ') : exS Ψ ⟨B.G, F, B.io, B.iv⟩ e fs τ' :=
  fun cls d σ' H' F' ω' tm' r' x => h cls d σ' H' F' ω' tm' (r.ofF r') x
theorem ds_for {iter : Expr} {body : List Stmt} {di : DL} {g : DG} {db : DS} {vs : List Nat} (hp : PassesOwn (model X.prog X.w) X.A X.env X.xe) (hc : X.calm = true) (hi : PI X tg iter (tI Ψ di)) (hg : PG X tg (tG Ψ vs g)) (hb : PSs X body (tS Ψ db))
    (hs : ∀ x, foldedSetIterable iter X.env x = pure x := by intro _; rfl) : PS X (.For tg iter body [] pos) (tS Ψ (dFor di g db)) := by
  refine PS.imp (ps_for hp hc hi hg hb hs) fun D σ H ⟨B, τ, tm, F, ω, r, hio, q⟩ => ?_
  unfold dFor at q
  rw [R.sat_bind] at q
  refine ⟨B, τ, tm, F, ω, r, hio, R.sat_mono q (fun ts τ1 q1 J H1 F1 ω1 r1 s1 wk => ?_) (fun _ _ _ x => x.exP)⟩
  refine ⟨fun i m σ' H' => i ≤ ts.length ∧ m = ts.length - i ∧ ∃ τ' F' ω', Rel Ψ.Γ ⟨B.G, F1, B.io, B.iv⟩ τ' tm σ' H' F' ω' ∧ (forL g db (ts.drop i) τ').sat (flP Ψ B tm D) (exS Ψ B), ⟨_, Nat.zero_le _, rfl, τ1, F1, ω1, r1.toF, q1⟩, ?_⟩
  rintro i m σ' H' ⟨hi', rfl, τ', F', ω', r', q'⟩
  have sub : Sub F1 F' := r'.f0
  obtain ⟨w1, w2⟩ := wk i H' F' sub r'.fh
  by_cases hlt : i < ts.length
  · obtain ⟨t, ht⟩ : ∃ t, ts[i]? = some t := ⟨_, List.getElem?_eq_getElem hlt⟩
    obtain ⟨g1, g2⟩ := w1 t ht
    have hd : ts.drop i = t :: ts.drop (i + 1) := by
      rw [List.drop_eq_getElem_cons hlt]
      have := List.getElem?_eq_getElem hlt
      rw [ht] at this
      rw [Option.some.inj this]
    rw [hd] at q'
    refine .inr ⟨g1, fun σ2 H2 => i + 1 ≤ ts.length ∧ ∃ τ' F' ω', Rel Ψ.Γ ⟨B.G, F1, B.io, B.iv⟩ τ' tm σ2 H2 F' ω' ∧ (forL g db (ts.drop (i + 1)) τ').sat (flP Ψ B tm D) (exS Ψ B), fun σ2 H2 ⟨h1, h2⟩ => ⟨ts.length - (i + 1), by omega, h1, rfl, h2⟩, fun x H2 hy => ?_⟩
    obtain ⟨F2, gr, px⟩ := g2 x H2 hy
    simp only [forL] at q'
    cases zg : g t τ' with
    | none => rw [zg] at q'; exact q'.elim
    | some τ2 =>
      rw [zg] at q'
      dsimp only at q'
      rw [R.sat_bind] at q'
      refine ⟨_, τ', tm, F2, ω', t, r'.grow gr, hio.1, px, ?_⟩
      rw [zg]
      intro σ3 H3 F3 ω3 r3 s3 _
      refine ⟨_, τ2, tm, F3, ω3, r3, hio, R.sat_mono q' (fun f τ4 q4 => ?_) (fun _ _ _ x => exS_ofF r1 x)⟩
      cases f with
      | nx => exact fun σ4 H4 F4 ω4 r4 => ⟨hlt, τ4, F4, ω4, r4, q4⟩
      | ct => exact fun σ4 H4 F4 ω4 r4 => ⟨hlt, τ4, F4, ω4, r4, q4⟩
      | bk => exact fun σ4 H4 F4 ω4 r4 => q4 σ4 H4 F4 ω4 (r1.ofF r4)
      | rt o => exact fun v σ4 H4 F4 ω4 r4 => q4 v σ4 H4 F4 ω4 (r1.ofF r4)
  · have e : i = ts.length := by omega
    rw [e, List.drop_length] at q'
    exact .inl ⟨w2 (by omega), q' σ' H' F' ω' (r1.ofF r')⟩

/-! ### while -/
def whl (c : DB) (body : DS) : Nat → Env → R Fl
  | 0, _ => .st
  | n + 1, τ => (c τ).bind fun b τ1 => match b with
    | false => .ok .nx τ1
    | true => (body τ1).bind fun f τ2 => match f with
      | .nx => whl c body n τ2
      | .ct => whl c body n τ2
      | .bk => .ok .nx τ2
      | .rt o => .ok (.rt o) τ2
def dWhile (n : Nat) (c : DB) (body : DS) : DS := fun τ => whl c body n τ
theorem ds_while {n : Nat} {body : List Stmt} {p : DB} {db : DS} (hp : PassesOwn (model X.prog X.w) X.A X.env X.xe) (hc : PT X c (tT Ψ p)) (hb : PSs X body (tS Ψ db)) : PS X (.While c body [] pos) (tS Ψ (dWhile n p db)) := by
  refine PS.imp (ps_while hp hc hb) fun D σ H ⟨B, τ, tm, F, ω, r, hio, q⟩ => ?_
  refine ⟨fun m σ' H' => ∃ τ' F' ω', Rel Ψ.Γ B τ' tm σ' H' F' ω' ∧ (whl p db m τ').sat (flP Ψ B tm D) (exS Ψ B), ⟨n, τ, F, ω, r, q⟩, ?_⟩
  rintro m σ' H' ⟨τ', F', ω', r', q'⟩
  cases m with
  | zero => exact q'.elim
  | succ m =>
    simp only [whl] at q'
    rw [R.sat_bind] at q'
    refine ⟨B, τ', tm, F', ω', r', hio, R.sat_mono q' (fun b τ1 q1 H1 F1 ω1 r1 s1 => ?_) (fun _ _ _ x => x.exP)⟩
    cases b with
    | false =>
      rw [if_neg Bool.false_ne_true]
      exact q1 σ' H1 F1 ω1 r1
    | true =>
      rw [if_pos rfl]
      dsimp only at q1
      rw [R.sat_bind] at q1
      refine ⟨fun σ2 H2 => ∃ τ' F' ω', Rel Ψ.Γ B τ' tm σ2 H2 F' ω' ∧ (whl p db m τ').sat (flP Ψ B tm D) (exS Ψ B), fun σ2 H2 h => ⟨m, Nat.lt_succ_self m, h⟩, B, τ1, tm, F1, ω1, r1, hio, R.sat_mono q1 (fun f τ2 q2 => ?_) (fun _ _ _ x => x)⟩
      cases f with
      | nx => exact fun σ4 H4 F4 ω4 r4 => ⟨τ2, F4, ω4, r4, q2⟩
      | ct => exact fun σ4 H4 F4 ω4 r4 => ⟨τ2, F4, ω4, r4, q2⟩
      | bk => exact fun σ4 H4 F4 ω4 r4 => q2 σ4 H4 F4 ω4 r4
      | rt o => exact fun v σ4 H4 F4 ω4 r4 => q2 v σ4 H4 F4 ω4 r4
end
end TL
set_option Elab.async false
set_option linter.all false
set_option maxRecDepth 100000
set_option maxHeartbeats 0
/-! TL8: list comprehensions over trees. -/
namespace TL
open PySem PySem.Spec L2

def R.noX {α : Type} (r : R α) : R α := match r with
  | .er _ _ _ => .st
  | r => r
theorem R.noX_sat {α : Type} {r : R α} {p : α → Env → Prop} {x x' : Nat → List T → Env → Prop} (h : r.noX.sat p x) : r.sat p x' := by
  cases r with
  | ok a τ => exact h
  | er e fs τ => exact h.elim
  | st => exact h
def wipeE (τ : Env) : List Nat → Env
  | [] => τ
  | v :: vs => (wipeE τ vs).set v none
abbrev Sx.nox (Ψ : Sx) : Sx := { Ψ with W := fun _ _ _ _ => False, ix := [], ig := [] }
section
variable {Γ : Gam} {B : Bs} {τ : Env} {tm : List (V × O)} {σ : St} {H F H' F' : Hp} {ω : Lab}
theorem Rel.wipe (r : Rel Γ B τ tm σ H F ω) : ∀ {vs : List Nat}, (∀ i ∈ vs, i ∉ B.io) → Rel Γ B (wipeE τ vs) tm (L2.wipe σ vs) H F ω
  | [], _ => r
  | v :: vs, h => (Rel.wipe r fun i hi => h i (List.mem_cons_of_mem _ hi)).setN (h v List.mem_cons_self)
theorem wipeE_none {vs : List Nat} : ∀ {i : Nat} {o : O}, (wipeE τ vs)[i]? = some (some o) → i ∉ vs ∧ τ[i]? = some (some o) := by
  induction vs with
  | nil => intro i o h; exact ⟨by simp, h⟩
  | cons v vs ih =>
    intro i o h
    simp only [wipeE] at h
    by_cases e : i = v
    · subst e
      rw [List.getElem?_set] at h
      simp at h
    · rw [List.getElem?_set_ne (Ne.symm e)] at h
      obtain ⟨h1, h2⟩ := ih h
      refine ⟨fun z => ?_, h2⟩
      rcases List.mem_cons.mp z with z | z
      · exact e z
      · exact h1 z
theorem Rel.unwipe {vs : List Nat} {σ' : St} (r : Rel Γ B (wipeE τ vs) tm σ' H F ω) (a : Alk vs σ σ') (h : ∀ i ∈ vs, i ∉ B.io) : Rel Γ B (wipeE τ vs) tm σ H F ω where
  len := by rw [← r.len, a.1]
  lt := r.lt
  fh := r.fh
  fo := r.fo
  oh := r.oh
  gh := r.gh
  go := r.go
  gf := r.gf
  f0 := r.f0
  slot := fun i o e => by
    obtain ⟨v, h1, h2⟩ := r.slot i o e
    exact ⟨v, by rw [← a.2 i (wipeE_none e).1]; exact h1, h2⟩
  tmp := r.tmp
  io := fun i hi => by
    rw [← a.2 i fun z => h i z hi]
    exact r.io i hi
theorem wipe_alk : ∀ (vs : List Nat) (σ : St), Alk vs σ (L2.wipe σ vs)
  | [], σ => ⟨rfl, fun _ _ => rfl⟩
  | v :: vs, σ => ⟨wipe_length σ (v :: vs), fun j hj => wipe_out hj⟩
theorem wipe_at {σ : St} : ∀ {vs : List Nat} {i : Nat}, i ∈ vs → i < σ.length → (L2.wipe σ vs)[i]? = some none
  | v :: vs, i, h, hl => by
    simp only [L2.wipe]
    by_cases e : i = v
    · subst e
      rw [List.getElem?_set_self (by rw [wipe_length]; exact hl)]
    · rw [List.getElem?_set_ne (Ne.symm e)]
      rcases List.mem_cons.mp h with z | z
      · exact absurd z e
      · exact wipe_at z hl
theorem wipe_eq {σ σ' : St} {vs : List Nat} (a : Alk vs σ σ') : L2.wipe σ' vs = L2.wipe σ vs := by
  apply List.ext_getElem?
  intro i
  by_cases hi : i ∈ vs
  · by_cases hl : i < σ.length
    · rw [wipe_at hi hl, wipe_at hi (by rw [a.1]; exact hl)]
    · have h1 : (L2.wipe σ vs)[i]? = none := List.getElem?_eq_none_iff.mpr (by rw [wipe_length]; omega)
      have h2 : (L2.wipe σ' vs)[i]? = none := List.getElem?_eq_none_iff.mpr (by rw [wipe_length, a.1]; omega)
      rw [h1, h2]
  · rw [wipe_out hi, wipe_out hi, a.2 i hi]
theorem Alk.symm {vs : List Nat} {σ σ' : St} (a : Alk vs σ σ') : Alk vs σ' σ := ⟨a.1.symm, fun j hj => (a.2 j hj).symm⟩
theorem Alk.tr {vs : List Nat} {σ σ1 σ2 : St} (a : Alk vs σ σ1) (b : Alk vs σ1 σ2) : Alk vs σ σ2 := ⟨b.1.trans a.1, fun j hj => (b.2 j hj).trans (a.2 j hj)⟩
theorem Alk.mono {vs ws : List Nat} {σ σ' : St} (a : Alk vs σ σ') (h : ∀ i ∈ vs, i ∈ ws) : Alk ws σ σ' := ⟨a.1, fun j hj => a.2 j fun z => hj (h j z)⟩

/-- the ground with the list that is being made at D -/
def gD (B : Bs) (F0 : Hp) (D : Addr) (ob : HO) : Bs := ⟨upd B.G D ob, F0, B.io, B.iv⟩
theorem Sx.okB.gd {Ψ : Sx} {B : Bs} {F0 : Hp} {D : Addr} {ob : HO} (h : Ψ.okB B) : Ψ.nox.okB (gD B F0 D ob) := ⟨h.1, (fun _ z => nomatch z), fun _ z => nomatch z⟩
theorem Rel.newD {D : Addr} {ob : HO} (r : Rel Γ B τ tm σ H F ω) (hD : H D = none) : Rel Γ (gD B F D ob) τ tm σ (upd H D ob) F ω := by
  have r1 := (r.grow (H' := upd H D ob) (F' := F) ⟨fun b o e => by rw [upd_ne (ne_of_none e hD)]; exact e, fun _ _ e => e, fun b o e => by rw [upd_ne (ne_of_none (r.fh b o e) hD)]; exact r.fh b o e, fun b o e e' => by rw [e] at e'; cases e'⟩)
  have oD : ω D = none := by
    cases z : ω D with
    | none => rfl
    | some p =>
      obtain ⟨u, hu⟩ := r.oh D p z
      rw [hD] at hu
      cases hu
  refine ⟨r1.len, r1.lt, r1.fh, r1.fo, r1.oh, fun b o e => ?_, fun b o e => ?_, fun b o u _ e' => ⟨u, e'⟩, fun _ _ e => e, r1.slot, r1.tmp, r1.io⟩
  · have e : upd B.G D ob b = some o := e
    by_cases hb : b = D
    · subst hb
      rw [upd_same] at e ⊢
      exact e
    · rw [upd_ne hb] at e ⊢
      exact r.gh b o e
  · have e : upd B.G D ob b = some o := e
    by_cases hb : b = D
    · subst hb
      exact oD
    · rw [upd_ne hb] at e
      exact r.go b o e
theorem Rel.setD {D : Addr} {F0 : Hp} {ob ob' : HO} (r : Rel Γ (gD B F0 D ob) τ tm σ H F ω) (hF : F0 D = none) : Rel Γ (gD B F0 D ob') τ tm σ (upd H D ob') F ω := by
  have gD0 : (gD B F0 D ob).G D = some ob := upd_same
  have oD : ω D = none := r.go D ob gD0
  have fD : F D = none := by
    cases z : F D with
    | none => rfl
    | some u =>
      obtain ⟨u', hu'⟩ := r.gf D ob u gD0 z
      have : F0 D = some u' := hu'
      rw [hF] at this
      cases this
  have ne : ∀ b u, F b = some u → b ≠ D := fun b u e z => by subst z; rw [fD] at e; cases e
  have no : ∀ b p, ω b = some p → b ≠ D := fun b u e z => by subst z; rw [oD] at e; cases e
  refine ⟨r.len, r.lt, fun b o e => by rw [upd_ne (ne b o e)]; exact r.fh b o e, r.fo, fun b p e => by rw [upd_ne (no b p e)]; exact r.oh b p e, fun b o e => ?_, fun b o e => ?_, fun b o u e e' => ?_, r.f0, fun i o e => ?_, fun j v o e => ?_, r.io⟩
  · have e : upd B.G D ob' b = some o := e
    by_cases hb : b = D
    · subst hb
      rw [upd_same] at e ⊢
      exact e
    · rw [upd_ne hb] at e ⊢
      exact r.gh b o (by show upd B.G D ob b = some o; rw [upd_ne hb]; exact e)
  · have e : upd B.G D ob' b = some o := e
    by_cases hb : b = D
    · subst hb
      exact oD
    · rw [upd_ne hb] at e
      exact r.go b o (by show upd B.G D ob b = some o; rw [upd_ne hb]; exact e)
  · have e : upd B.G D ob' b = some o := e
    by_cases hb : b = D
    · subst hb
      rw [fD] at e'
      cases e'
    · rw [upd_ne hb] at e
      exact r.gf b o u (by show upd B.G D ob b = some o; rw [upd_ne hb]; exact e) e'
  · obtain ⟨v, h1, h2⟩ := r.slot i o e
    exact ⟨v, h1, Ow.move (fun _ _ e => e) o [] [] v (fun b q z => ⟨z, upd_ne (no b _ z)⟩) h2⟩
  · exact Ow.move (fun _ _ e => e) o [] [] v (fun b q z => ⟨z, upd_ne (no b _ z)⟩) (r.tmp j v o e)
/-- the list that was made is handed out, the ground is as before -/
theorem Rel.outD {τ1 : Env} {tm1 : List (V × O)} {σ1 : St} {H1 F1 : Hp} {ω1 : Lab} {D : Addr} {xs : List V} {ys : List T} (r0 : Rel Γ B τ1 tm1 σ1 H1 F1 ω1) (hD : H1 D = none) (r : Rel Γ (gD B F1 D (.lst xs)) τ tm σ H F ω) (ra : RpL Γ F xs ys) :
    ∃ ω', Rel Γ B τ (tm ++ [(.ref D, .lst (ys.map .fz))]) σ H F ω' := by
  have gD0 : (gD B F1 D (.lst xs)).G D = some (.lst xs) := upd_same
  have hF : F1 D = none := by
    cases z : F1 D with
    | none => rfl
    | some u => have := r0.fh D u z; rw [hD] at this; cases this
  have hB : B.G D = none := by
    cases z : B.G D with
    | none => rfl
    | some u => have := r0.gh D u z; rw [hD] at this; cases this
  have oD : ω D = none := r.go D _ gD0
  have fD : F D = none := by
    cases z : F D with
    | none => rfl
    | some u =>
      obtain ⟨u', hu'⟩ := r.gf D _ u gD0 z
      have : F1 D = some u' := hu'
      rw [hF] at this
      cases this
  have no : ∀ b p, ω b = some p → b ≠ D := fun b u e z => by subst z; rw [oD] at e; cases e
  have gB : ∀ b o, B.G b = some o → (gD B F1 D (.lst xs)).G b = some o := fun b o e => by
    show upd B.G D _ b = some o
    rw [upd_ne (fun z => by subst z; rw [hB] at e; cases e)]
    exact e
  have keep : ∀ {i : Nat} {v : V} {o : O}, Ow Γ ω F H i [] v o → Ow Γ (fun b => if b = D then some (TB + tm.length, []) else ω b) F H i [] v o := fun {i v o} h =>
    Ow.move (fun _ _ e => e) o [] [] v (fun b q z => ⟨by rw [if_neg (no b _ z)]; exact z, rfl⟩) h
  refine ⟨fun b => if b = D then some (TB + tm.length, []) else ω b, r.len, r.lt, r.fh, fun b o e => ?_, fun b p e => ?_, fun b o e => r.gh b o (gB b o e), fun b o e => ?_, fun b o u e e' => ?_, fun b o e => r.f0 b o (r0.f0 b o e), fun i o e => ?_, fun j v o e => ?_, r.io⟩
  · show (if b = D then _ else _) = _
    rw [if_neg (fun z => by subst z; rw [fD] at e; cases e)]
    exact r.fo b o e
  · by_cases hb : b = D
    · subst hb
      exact ⟨_, r.gh b _ gD0⟩
    · have e : (if b = D then some (TB + tm.length, []) else ω b) = some p := e
      rw [if_neg hb] at e
      exact r.oh b p e
  · show (if b = D then _ else _) = _
    rw [if_neg (fun z => by subst z; rw [hB] at e; cases e)]
    exact r.go b o (gB b o e)
  · obtain ⟨u', hu'⟩ := r.gf b o u (gB b o e) e'
    exact r0.gf b o u' e hu'
  · obtain ⟨v, h1, h2⟩ := r.slot i o e
    exact ⟨v, h1, keep h2⟩
  · by_cases hj : j < tm.length
    · rw [List.getElem?_append_left hj] at e
      exact keep (r.tmp j v o e)
    · rw [List.getElem?_append_right (by omega)] at e
      have hj' : j - tm.length = 0 := by
        have := (List.getElem?_eq_some_iff.mp e).1
        simp at this
        omega
      rw [hj'] at e
      simp at e
      obtain ⟨rfl, rfl⟩ := e
      have : j = tm.length := by omega
      subst this
      simp only [Ow]
      exact ⟨D, xs, rfl, by simp, r.gh D _ gD0, (OwL.fz ys [] 0 xs).mpr ra⟩
end

/-! ### one clause -/
def lcL (g : DG) (p : DB) (d : DE) (vs : List Nat) : List T → Env → R (List T)
  | [], τ => .ok [] τ
  | t :: ts, τ => match g t τ with
    | none => .st
    | some τ1 => (p τ1).noX.bind fun b τ2 => match b with
      | true => (d τ2).noX.bind fun y τ3 => (lcL g p d vs ts (wipeE τ3 vs)).map fun ys => y :: ys
      | false => lcL g p d vs ts (wipeE τ2 vs)
def dYes : DB := fun τ => .ok true τ
def dLc (di : DL) (g : DG) (p : DB) (d : DE) (vs : List Nat) : DO := fun τ => (di τ).bind fun ts τ1 => if ts.length ≤ SZ then (lcL g p d vs ts (wipeE τ1 vs)).bind fun ys τ2 => .ok (.lst (ys.map .fz)) τ2 else .st
section
variable {X : Cx} {Ψ : Sx}
theorem lcL_len {g : DG} {p : DB} {d : DE} {vs : List Nat} : ∀ {ts : List T} {τ : Env} {P : List T → Env → Prop} {x : Nat → List T → Env → Prop}, (lcL g p d vs ts τ).sat P x → (lcL g p d vs ts τ).sat (fun ys τ' => ys.length ≤ ts.length ∧ P ys τ') x
  | [], τ, P, x, h => ⟨Nat.le_refl _, h⟩
  | t :: ts, τ, P, x, h => by
    simp only [lcL] at h ⊢
    cases zg : g t τ with
    | none => rw [zg] at h; exact h.elim
    | some τ1 =>
      rw [zg] at h
      dsimp only at h ⊢
      rw [R.sat_bind] at h ⊢
      refine R.sat_mono h (fun b τ2 h => ?_) (fun _ _ _ x => x)
      cases b with
      | true =>
        dsimp only at h ⊢
        rw [R.sat_bind] at h ⊢
        refine R.sat_mono h (fun y τ3 h => ?_) (fun _ _ _ x => x)
        rw [R.sat_map] at h ⊢
        refine R.sat_mono (lcL_len h) (fun ys τ4 h => ⟨by simp only [List.length_cons]; omega, h.2⟩) (fun _ _ _ x => x)
      | false => exact R.sat_mono (lcL_len h) (fun ys τ4 h => ⟨by simp only [List.length_cons]; omega, h.2⟩) (fun _ _ _ x => x)
theorem dts_nil : PTs X [] (tT Ψ dYes) := ⟨fun pins s σ H Q I ⟨B, τ, tm, F, ω, r, hio, q⟩ => pts_nil.run pins s σ H Q I (q H F ω r fun _ _ e => e)⟩
theorem dts_one {c : Expr} {p : DB} (h : PT X c (tT Ψ p)) : PTs X [c] (tT Ψ p) := pts_one h
theorem lc_road {di : DL} {g : DG} {p : DB} {d : DE} {vs : List Nat} (hv : ∀ i ∈ vs, i ∉ Ψ.io) {σ : St} {H : Hp} {Q : VK} (q : tO Ψ (dLc di g p d vs) σ H Q) :
    tLc (tI Ψ di) (tG Ψ.nox vs g) (tT Ψ.nox p) (tE Ψ.nox d) vs σ H Q := by
  obtain ⟨B, τ, tm, F, ω, r, hio, q⟩ := q
  unfold dLc at q
  rw [R.sat_bind] at q
  refine ⟨B, τ, tm, F, ω, r, hio, R.sat_mono q (fun ts τ1 q1 J H1 F1 ω1 r1 s1 wk D hD => ?_) (fun _ _ _ x => x)⟩
  split at q1
  case isFalse => exact q1.elim
  rename_i hsz
  rw [R.sat_bind] at q1
  have hvB : ∀ i ∈ vs, i ∉ B.io := fun i hi => by rw [hio.1]; exact hv i hi
  have hF : F1 D = none := by
    cases z : F1 D with
    | none => rfl
    | some u => have := r1.fh D u z; rw [hD] at this; cases this
  refine ⟨fun i m H' => i ≤ ts.length ∧ m = ts.length - i ∧ ∃ τ' F' ω' xs ys, Rel Ψ.Γ (gD B F1 D (.lst xs)) (wipeE τ' vs) tm (L2.wipe σ vs) H' F' ω' ∧ RpL Ψ.Γ F' xs ys ∧ ys.length ≤ i ∧
      (lcL g p d vs (ts.drop i) (wipeE τ' vs)).sat (fun zs τ2 => (R.ok (.lst ((ys ++ zs).map .fz)) τ2 : R O).sat (fun o τ' => ∀ v H' F' ω', Rel Ψ.Γ B τ' (tm ++ [(v, o)]) σ H' F' ω' → Sub F F' → Q v H') (exP Ψ B σ)) (exP Ψ B σ),
    ⟨_, Nat.zero_le _, rfl, τ1, F1, ω1, [], [], (r1.wipe hvB).newD hD, by simp [RpL], Nat.le_refl _, q1⟩, ?_⟩
  rintro i m H' ⟨hi', rfl, τ', F', ω', xs, ys, r', ra, hyl, q'⟩
  have sub : Sub F1 F' := r'.f0
  obtain ⟨w1, w2⟩ := wk i H' F' sub r'.fh
  by_cases hlt : i < ts.length
  · obtain ⟨t, ht⟩ : ∃ t, ts[i]? = some t := ⟨_, List.getElem?_eq_getElem hlt⟩
    obtain ⟨g1, g2⟩ := w1 t ht
    have hd : ts.drop i = t :: ts.drop (i + 1) := by
      rw [List.drop_eq_getElem_cons hlt]
      have := List.getElem?_eq_getElem hlt
      rw [ht] at this
      rw [Option.some.inj this]
    rw [hd] at q'
    refine .inr ⟨g1, fun H2 => i + 1 ≤ ts.length ∧ ∃ τ' F' ω' xs ys, Rel Ψ.Γ (gD B F1 D (.lst xs)) (wipeE τ' vs) tm (L2.wipe σ vs) H2 F' ω' ∧ RpL Ψ.Γ F' xs ys ∧ ys.length ≤ i + 1 ∧
      (lcL g p d vs (ts.drop (i + 1)) (wipeE τ' vs)).sat (fun zs τ2 => (R.ok (.lst ((ys ++ zs).map .fz)) τ2 : R O).sat (fun o τ' => ∀ v H' F' ω', Rel Ψ.Γ B τ' (tm ++ [(v, o)]) σ H' F' ω' → Sub F F' → Q v H') (exP Ψ B σ)) (exP Ψ B σ), fun H2 ⟨h1, h2⟩ => ⟨ts.length - (i + 1), by omega, h1, rfl, h2⟩, fun x H2 hy => ?_⟩
    obtain ⟨F2, gr, px⟩ := g2 x H2 hy
    simp only [lcL] at q'
    cases zg : g t (wipeE τ' vs) with
    | none => rw [zg] at q'; exact q'.elim
    | some τ2 =>
      rw [zg] at q'
      dsimp only at q'
      rw [R.sat_bind] at q'
      refine ⟨_, wipeE τ' vs, tm, F2, ω', t, r'.grow gr, hio.gd, px, ?_⟩
      rw [zg]
      intro σ3 H3 F3 ω3 r3 s3 a3
      have ew : L2.wipe σ3 vs = L2.wipe σ vs := wipe_eq ((wipe_alk vs σ).tr a3)
      refine ⟨ew, _, τ2, tm, F3, ω3, r3, hio.gd, R.noX_sat (R.sat_mono q' (fun b τ4 q4 H4 F4 ω4 r4 s4 => ?_) (fun _ _ _ x => x))⟩
      have sx : Sub F' F4 := gr.ff.trans (s3.trans s4)
      cases b with
      | true =>
        dsimp only at q4
        rw [R.sat_bind] at q4
        refine iteT ⟨_, τ4, tm, F4, ω4, r4, hio.gd, R.noX_sat (R.sat_mono q4 (fun y τ5 q5 v5 H5 F5 ω5 r5 s5 p5 => ?_) (fun _ _ _ x => x))⟩
        have rx5 := RpL.mono (sx.trans s5) _ _ ra
        refine ⟨xs, r5.gh D _ upd_same, ?_, hlt, τ5, F5, ω5, xs ++ [v5], ys ++ [y], ?_, RpL.append rx5 (RpL.one p5), by simp; omega, ?_⟩
        · rw [RpL.length _ _ ra, sizeLine_eq]
          have : ts.length ≤ 16777216 := hsz
          omega
        · have := (r5.wipe hvB).setD (ob' := .lst (xs ++ [v5])) hF
          rw [ew] at this
          exact this
        · rw [R.sat_map] at q5
          refine R.sat_mono q5 (fun zs τ6 q6 => ?_) (fun _ _ _ x => x)
          rw [List.append_assoc]
          exact q6
      | false =>
        have r6 := r4.wipe (vs := vs) hvB
        rw [ew] at r6
        exact iteF ⟨hlt, τ4, F4, ω4, xs, ys, r6, RpL.mono sx _ _ ra, by omega, q4⟩
  · have e : i = ts.length := by omega
    rw [e, List.drop_length] at q'
    have q2 : (R.ok (.lst ((ys ++ []).map .fz)) (wipeE τ' vs) : R O).sat (fun o τ' => ∀ v H' F' ω', Rel Ψ.Γ B τ' (tm ++ [(v, o)]) σ H' F' ω' → Sub F F' → Q v H') (exP Ψ B σ) := q'
    rw [List.append_nil] at q2
    refine .inl ⟨w2 (by omega), ?_⟩
    obtain ⟨ω3, r3⟩ := Rel.outD r1 hD (r'.unwipe (wipe_alk vs σ) hvB) ra
    exact q2 _ _ _ _ r3 (s1.trans sub)
end
end TL
set_option Elab.async false
set_option linter.all false
set_option maxRecDepth 100000
set_option maxHeartbeats 0
/-! TL9: comprehensions of two clauses; the forms one uses. -/
namespace TL
open PySem PySem.Spec L2

/-! ### two clauses -/
def lcL2 (g : DG) (p : DB) (di1 : DL) (g1 : DG) (p1 : DB) (d : DE) (vs vs1 : List Nat) : List T → Env → R (List T)
  | [], τ => .ok [] τ
  | t :: ts, τ => match g t τ with
    | none => .st
    | some τ1 => (p τ1).noX.bind fun b τ2 => match b with
      | true => (di1 τ2).noX.bind fun us τ3 => (lcL g1 p1 d vs1 us (wipeE τ3 vs1)).noX.bind fun ys τ4 => (lcL2 g p di1 g1 p1 d vs vs1 ts (wipeE τ4 vs)).noX.map fun zs => ys ++ zs
      | false => lcL2 g p di1 g1 p1 d vs vs1 ts (wipeE τ2 vs)
def dLc2 (di : DL) (g : DG) (p : DB) (di1 : DL) (g1 : DG) (p1 : DB) (d : DE) (vs vs1 : List Nat) : DO := fun τ => (di τ).bind fun ts τ1 => (lcL2 g p di1 g1 p1 d vs vs1 ts (wipeE τ1 vs)).noX.bind fun ys τ2 => if ys.length ≤ SZ then .ok (.lst (ys.map .fz)) τ2 else .st
section
variable {X : Cx} {Ψ : Sx}
theorem R.sat_eq {α : Type} {r r' : R α} {p : α → Env → Prop} {x : Nat → List T → Env → Prop} (e : r = r') (h : r'.sat p x) : r.sat p x := by rw [e]; exact h
theorem R.noX_ok {α : Type} {r : R α} {p : α → Env → Prop} {x : Nat → List T → Env → Prop} (h : r.noX.sat p x) : ∃ a τ, r = .ok a τ ∧ p a τ := by
  cases r with
  | ok a τ => exact ⟨a, τ, rfl, h⟩
  | er e fs τ => exact h.elim
  | st => exact h.elim
theorem R.noX_of {α : Type} {r : R α} {p : α → Env → Prop} {x : Nat → List T → Env → Prop} {a : α} {τ : Env} (h : r = .ok a τ) (q : p a τ) : r.noX.sat p x := by
  subst h
  exact q
theorem lc2_road {di di1 : DL} {g g1 : DG} {p p1 : DB} {d : DE} {vs vs1 : List Nat} (hv : ∀ i ∈ vs, i ∉ Ψ.io) (h1v : ∀ i ∈ vs1, i ∈ vs) {σ : St} {H : Hp} {Q : VK} (q : tO Ψ (dLc2 di g p di1 g1 p1 d vs vs1) σ H Q) :
    tLc2 (tI Ψ di) (tG Ψ.nox vs g) (tT Ψ.nox p) (tI Ψ.nox di1) (tG Ψ.nox vs1 g1) (tT Ψ.nox p1) (tE Ψ.nox d) vs vs1 σ H Q := by
  obtain ⟨B, τ, tm, F, ω, r, hio, q⟩ := q
  unfold dLc2 at q
  rw [R.sat_bind] at q
  refine ⟨B, τ, tm, F, ω, r, hio, R.sat_mono q (fun ts τ1 q1 J H1 F1 ω1 r1 s1 wk D hD => ?_) (fun _ _ _ x => x)⟩
  rw [R.sat_bind] at q1
  have hvB : ∀ i ∈ vs, i ∉ B.io := fun i hi => by rw [hio.1]; exact hv i hi
  have h1B : ∀ i ∈ vs1, i ∉ B.io := fun i hi => hvB i (h1v i hi)
  have hF : F1 D = none := by
    cases z : F1 D with
    | none => rfl
    | some u => have := r1.fh D u z; rw [hD] at this; cases this
  let Fin : List T → Env → Prop := fun l τ2 => l.length ≤ SZ ∧ ∀ v H' F' ω', Rel Ψ.Γ B τ2 (tm ++ [(v, .lst (l.map .fz))]) σ H' F' ω' → Sub F F' → Q v H'
  have q1' : (lcL2 g p di1 g1 p1 d vs vs1 ts (wipeE τ1 vs)).noX.sat (fun l τ2 => Fin ([] ++ l) τ2) (exP Ψ B σ) := R.sat_mono q1 (fun l τ2 h => by
    split at h
    · rename_i hl
      exact ⟨hl, h⟩
    · exact h.elim) (fun _ _ _ x => x)
  refine ⟨fun i m H' => i ≤ ts.length ∧ m = ts.length - i ∧ ∃ τ' F' ω' xs ys, Rel Ψ.Γ (gD B F1 D (.lst xs)) (wipeE τ' vs) tm (L2.wipe σ vs) H' F' ω' ∧ RpL Ψ.Γ F' xs ys ∧
      (lcL2 g p di1 g1 p1 d vs vs1 (ts.drop i) (wipeE τ' vs)).noX.sat (fun zs τ2 => Fin (ys ++ zs) τ2) (exP Ψ B σ),
    ⟨_, Nat.zero_le _, rfl, τ1, F1, ω1, [], [], (r1.wipe hvB).newD hD, by simp [RpL], q1'⟩, ?_⟩
  rintro i m H' ⟨hi', rfl, τ', F', ω', xs, ys, r', ra, q'⟩
  have sub : Sub F1 F' := r'.f0
  obtain ⟨w1, w2⟩ := wk i H' F' sub r'.fh
  by_cases hlt : i < ts.length
  · obtain ⟨t, ht⟩ : ∃ t, ts[i]? = some t := ⟨_, List.getElem?_eq_getElem hlt⟩
    obtain ⟨g1', g2⟩ := w1 t ht
    have hd : ts.drop i = t :: ts.drop (i + 1) := by
      rw [List.drop_eq_getElem_cons hlt]
      have := List.getElem?_eq_getElem hlt
      rw [ht] at this
      rw [Option.some.inj this]
    rw [hd] at q'
    refine .inr ⟨g1', fun H2 => i + 1 ≤ ts.length ∧ ∃ τ' F' ω' xs ys, Rel Ψ.Γ (gD B F1 D (.lst xs)) (wipeE τ' vs) tm (L2.wipe σ vs) H2 F' ω' ∧ RpL Ψ.Γ F' xs ys ∧
      (lcL2 g p di1 g1 p1 d vs vs1 (ts.drop (i + 1)) (wipeE τ' vs)).noX.sat (fun zs τ2 => Fin (ys ++ zs) τ2) (exP Ψ B σ), fun H2 ⟨h1, h2⟩ => ⟨ts.length - (i + 1), by omega, h1, rfl, h2⟩, fun x H2 hy => ?_⟩
    obtain ⟨F2, gr, px⟩ := g2 x H2 hy
    simp only [lcL2] at q'
    cases zg : g t (wipeE τ' vs) with
    | none => rw [zg] at q'; exact q'.elim
    | some τ2 =>
      rw [zg] at q'
      dsimp only at q'
      obtain ⟨l0, τl, el, fl⟩ := R.noX_ok q'
      refine ⟨_, wipeE τ' vs, tm, F2, ω', t, r'.grow gr, hio.gd, px, ?_⟩
      rw [zg]
      intro σ3 H3 F3 ω3 r3 s3 a3
      have ew : L2.wipe σ3 vs = L2.wipe σ vs := wipe_eq ((wipe_alk vs σ).tr a3)
      have ebq : ((p τ2).noX.bind fun b τ3 => match b with
        | true => (di1 τ3).noX.bind fun us τ3 => (lcL g1 p1 d vs1 us (wipeE τ3 vs1)).noX.bind fun ys τ4 => (lcL2 g p di1 g1 p1 d vs vs1 (ts.drop (i + 1)) (wipeE τ4 vs)).noX.map fun zs => ys ++ zs
        | false => lcL2 g p di1 g1 p1 d vs vs1 (ts.drop (i + 1)) (wipeE τ3 vs)).sat (fun l τ6 => Fin (ys ++ l) τ6) (exP Ψ B σ) := R.sat_eq el fl
      rw [R.sat_bind] at ebq
      refine ⟨ew, _, τ2, tm, F3, ω3, r3, hio.gd, R.noX_sat (R.sat_mono ebq (fun b τ4 q4 H4 F4 ω4 r4 s4 => ?_) (fun _ _ _ x => x))⟩
      have sx : Sub F' F4 := gr.ff.trans (s3.trans s4)
      cases b with
      | false =>
        have r6 := r4.wipe (vs := vs) hvB
        rw [ew] at r6
        refine iteF ⟨hlt, τ4, F4, ω4, xs, ys, r6, RpL.mono sx _ _ ra, ?_⟩
        -- lcL2 never raises
        cases z : lcL2 g p di1 g1 p1 d vs vs1 (ts.drop (i + 1)) (wipeE τ4 vs) with
        | ok a τa => dsimp only at q4; rw [z] at q4; exact q4
        | er e fs τa => exact (lcL2_noer z).elim
        | st => dsimp only at q4; rw [z] at q4; exact q4.elim
      | true =>
        dsimp only at q4
        rw [R.sat_bind] at q4
        refine iteT ⟨_, τ4, tm, F4, ω4, r4, hio.gd, R.noX_sat (R.sat_mono q4 (fun us τ5 q5 J1 H5 F5 ω5 r5 s5 wk1 => ?_) (fun _ _ _ x => x))⟩
        rw [R.sat_bind] at q5
        obtain ⟨l5, τ5', e5, f5⟩ := R.noX_ok q5
        refine ⟨fun j k H => j ≤ us.length ∧ k = us.length - j ∧ ∃ τ' F' ω' xs ys, Sub F5 F' ∧ Rel Ψ.Γ (gD B F1 D (.lst xs)) (wipeE τ' vs1) tm (L2.wipe σ3 vs1) H F' ω' ∧ RpL Ψ.Γ F' xs ys ∧
          (lcL g1 p1 d vs1 (us.drop j) (wipeE τ' vs1)).noX.sat (fun zs τ6 => (lcL2 g p di1 g1 p1 d vs vs1 (ts.drop (i + 1)) (wipeE τ6 vs)).noX.sat (fun ws τ7 => Fin (ys ++ (zs ++ ws)) τ7) (exP Ψ B σ)) (exP Ψ B σ),
          ⟨_, Nat.zero_le _, rfl, τ5, F5, ω5, xs, ys, fun _ _ e => e, r5.wipe h1B, RpL.mono (sx.trans s5) _ _ ra, R.sat_mono q5 (fun zs τ6 h => by rw [R.sat_map] at h; exact h) (fun _ _ _ x => x)⟩, ?_⟩
        rintro j k H6 ⟨hj', rfl, τ6, F6, ω6, xs6, ys6, s6, r6, ra6, q6⟩
        obtain ⟨v1, v2⟩ := wk1 j H6 F6 s6 r6.fh
        by_cases hjl : j < us.length
        · obtain ⟨u, hu⟩ : ∃ u, us[j]? = some u := ⟨_, List.getElem?_eq_getElem hjl⟩
          obtain ⟨k1, k2⟩ := v1 u hu
          have hdj : us.drop j = u :: us.drop (j + 1) := by
            rw [List.drop_eq_getElem_cons hjl]
            have := List.getElem?_eq_getElem hjl
            rw [hu] at this
            rw [Option.some.inj this]
          rw [hdj] at q6
          refine .inr ⟨k1, fun H => j + 1 ≤ us.length ∧ ∃ τ' F' ω' xs ys, Sub F5 F' ∧ Rel Ψ.Γ (gD B F1 D (.lst xs)) (wipeE τ' vs1) tm (L2.wipe σ3 vs1) H F' ω' ∧ RpL Ψ.Γ F' xs ys ∧
            (lcL g1 p1 d vs1 (us.drop (j + 1)) (wipeE τ' vs1)).noX.sat (fun zs τ6 => (lcL2 g p di1 g1 p1 d vs vs1 (ts.drop (i + 1)) (wipeE τ6 vs)).noX.sat (fun ws τ7 => Fin (ys ++ (zs ++ ws)) τ7) (exP Ψ B σ)) (exP Ψ B σ), fun H ⟨h1, h2⟩ => ⟨us.length - (j + 1), by omega, h1, rfl, h2⟩, fun x1 H7 hy1 => ?_⟩
          obtain ⟨F7, gr7, px7⟩ := k2 x1 H7 hy1
          obtain ⟨l6, τ6', e6, f6⟩ := R.noX_ok q6
          simp only [lcL] at e6
          cases zg1 : g1 u (wipeE τ6 vs1) with
          | none => rw [zg1] at e6; cases e6
          | some τ7 =>
            rw [zg1] at e6
            dsimp only at e6
            refine ⟨_, wipeE τ6 vs1, tm, F7, ω6, u, r6.grow gr7, hio.gd, px7, ?_⟩
            rw [zg1]
            intro σ8 H8 F8 ω8 r8 s8 a8
            have ew8 : L2.wipe σ8 vs1 = L2.wipe σ3 vs1 := wipe_eq ((wipe_alk vs1 σ3).tr a8)
            have eb8 : ((p1 τ7).noX.bind fun b τ8 => match b with
              | true => (d τ8).noX.bind fun y τ9 => (lcL g1 p1 d vs1 (us.drop (j + 1)) (wipeE τ9 vs1)).map fun ys => y :: ys
              | false => lcL g1 p1 d vs1 (us.drop (j + 1)) (wipeE τ8 vs1)).sat (fun zs τ6 => (lcL2 g p di1 g1 p1 d vs vs1 (ts.drop (i + 1)) (wipeE τ6 vs)).noX.sat (fun ws τ7 => Fin (ys6 ++ (zs ++ ws)) τ7) (exP Ψ B σ)) (exP Ψ B σ) := R.sat_eq e6 f6
            rw [R.sat_bind] at eb8
            refine ⟨ew8, _, τ7, tm, F8, ω8, r8, hio.gd, R.noX_sat (R.sat_mono eb8 (fun b τ9 q9 H9 F9 ω9 r9 s9 => ?_) (fun _ _ _ x => x))⟩
            have sx9 : Sub F6 F9 := gr7.ff.trans (s8.trans s9)
            cases b with
            | false =>
              have r10 := r9.wipe (vs := vs1) h1B
              rw [ew8] at r10
              refine iteF ⟨hjl, τ9, F9, ω9, xs6, ys6, s6.trans sx9, r10, RpL.mono sx9 _ _ ra6, ?_⟩
              cases z : lcL g1 p1 d vs1 (us.drop (j + 1)) (wipeE τ9 vs1) with
              | ok a τa => dsimp only at q9; rw [z] at q9; exact q9
              | er e fs τa => exact (lcL_noer z).elim
              | st => dsimp only at q9; rw [z] at q9; exact q9.elim
            | true =>
              dsimp only at q9
              rw [R.sat_bind] at q9
              refine iteT ⟨_, τ9, tm, F9, ω9, r9, hio.gd, R.noX_sat (R.sat_mono q9 (fun y τa qa va Ha Fa ωa ra' sa pa => ?_) (fun _ _ _ x => x))⟩
              rw [R.sat_map] at qa
              have rxa := RpL.mono (sx9.trans sa) _ _ ra6
              have qa' : (lcL g1 p1 d vs1 (us.drop (j + 1)) (wipeE τa vs1)).noX.sat (fun zs τ6 => (lcL2 g p di1 g1 p1 d vs vs1 (ts.drop (i + 1)) (wipeE τ6 vs)).noX.sat (fun ws τ7 => Fin ((ys6 ++ [y]) ++ (zs ++ ws)) τ7) (exP Ψ B σ)) (exP Ψ B σ) := by
                cases z : lcL g1 p1 d vs1 (us.drop (j + 1)) (wipeE τa vs1) with
                | ok a τb =>
                  rw [z] at qa
                  have qa : (lcL2 g p di1 g1 p1 d vs vs1 (ts.drop (i + 1)) (wipeE τb vs)).noX.sat (fun ws τ7 => Fin (ys6 ++ (y :: a ++ ws)) τ7) (exP Ψ B σ) := qa
                  show (lcL2 g p di1 g1 p1 d vs vs1 (ts.drop (i + 1)) (wipeE τb vs)).noX.sat (fun ws τ7 => Fin ((ys6 ++ [y]) ++ (a ++ ws)) τ7) (exP Ψ B σ)
                  refine R.sat_mono qa (fun ws τ7 h => ?_) (fun _ _ _ x => x)
                  rw [List.append_assoc]
                  exact h
                | er e fs τb => exact (lcL_noer z).elim
                | st => rw [z] at qa; exact qa.elim
              refine ⟨xs6, ra'.gh D _ upd_same, ?_, hjl, τa, Fa, ωa, xs6 ++ [va], ys6 ++ [y], s6.trans (sx9.trans sa), ?_, RpL.append rxa (RpL.one pa), qa'⟩
              · obtain ⟨zs, τb, _, h1⟩ := R.noX_ok qa'
                obtain ⟨ws, τc, _, h2⟩ := R.noX_ok h1
                have h3 := h2.1
                rw [RpL.length _ _ ra6, sizeLine_eq]
                simp only [List.length_append, List.length_cons, List.length_nil] at h3
                have : SZ = 16777216 := rfl
                omega
              · have := (ra'.wipe h1B).setD (ob' := .lst (xs6 ++ [va])) hF
                rw [ew8] at this
                exact this
        · have e : j = us.length := by omega
          rw [e, List.drop_length] at q6
          have q7 : (lcL2 g p di1 g1 p1 d vs vs1 (ts.drop (i + 1)) (wipeE (wipeE τ6 vs1) vs)).noX.sat (fun ws τ7 => Fin (ys6 ++ ([] ++ ws)) τ7) (exP Ψ B σ) := q6
          refine .inl ⟨v2 (by omega), hlt, wipeE τ6 vs1, F6, ω6, xs6, ys6, ?_, ra6, q7⟩
          have r8 := r6.wipe (vs := vs) hvB
          have : L2.wipe (L2.wipe σ3 vs1) vs = L2.wipe σ vs := by
            rw [← ew]
            exact wipe_eq ((wipe_alk vs1 σ3).mono h1v)
          rw [this] at r8
          exact r8
  · have e : i = ts.length := by omega
    rw [e, List.drop_length] at q'
    have q2 : Fin (ys ++ []) (wipeE τ' vs) := q'
    rw [List.append_nil] at q2
    refine .inl ⟨w2 (by omega), ?_⟩
    obtain ⟨ω3, r3⟩ := Rel.outD r1 hD (r'.unwipe (wipe_alk vs σ) hvB) ra
    exact q2.2 _ _ _ _ r3 (s1.trans sub)
where
  lcL_noer {g : DG} {p : DB} {d : DE} {vs : List Nat} : ∀ {ts : List T} {τ : Env} {e : Nat} {fs : List T} {τ' : Env}, lcL g p d vs ts τ = .er e fs τ' → False
  | [], τ, e, fs, τ', h => by cases h
  | t :: ts, τ, e, fs, τ', h => by
    simp only [lcL] at h
    cases zg : g t τ with
    | none => rw [zg] at h; cases h
    | some τ1 =>
      rw [zg] at h
      dsimp only at h
      cases zp : p τ1 with
      | er => rw [zp] at h; cases h
      | st => rw [zp] at h; cases h
      | ok b τ2 =>
        rw [zp] at h
        cases b with
        | false => exact lcL_noer (ts := ts) h
        | true =>
          have h : ((d τ2).noX.bind fun y τ3 => (lcL g p d vs ts (wipeE τ3 vs)).map fun ys => y :: ys) = .er e fs τ' := h
          cases zd : d τ2 with
          | er => rw [zd] at h; cases h
          | st => rw [zd] at h; cases h
          | ok y τ3 =>
            rw [zd] at h
            have h : ((lcL g p d vs ts (wipeE τ3 vs)).map fun ys => y :: ys) = .er e fs τ' := h
            cases zl : lcL g p d vs ts (wipeE τ3 vs) with
            | ok => rw [zl] at h; cases h
            | st => rw [zl] at h; cases h
            | er e1 f1 t1 => exact lcL_noer zl
  lcL2_noer {g : DG} {p : DB} {di1 : DL} {g1 : DG} {p1 : DB} {d : DE} {vs vs1 : List Nat} : ∀ {ts : List T} {τ : Env} {e : Nat} {fs : List T} {τ' : Env}, lcL2 g p di1 g1 p1 d vs vs1 ts τ = .er e fs τ' → False
  | [], τ, e, fs, τ', h => by cases h
  | t :: ts, τ, e, fs, τ', h => by
    simp only [lcL2] at h
    cases zg : g t τ with
    | none => rw [zg] at h; cases h
    | some τ1 =>
      rw [zg] at h
      dsimp only at h
      cases zp : p τ1 with
      | er => rw [zp] at h; cases h
      | st => rw [zp] at h; cases h
      | ok b τ2 =>
        rw [zp] at h
        cases b with
        | false => exact lcL2_noer (ts := ts) h
        | true =>
          have h : ((di1 τ2).noX.bind fun us τ3 => (lcL g1 p1 d vs1 us (wipeE τ3 vs1)).noX.bind fun ys τ4 => (lcL2 g p di1 g1 p1 d vs vs1 ts (wipeE τ4 vs)).noX.map fun zs => ys ++ zs) = .er e fs τ' := h
          cases zd : di1 τ2 with
          | er => rw [zd] at h; cases h
          | st => rw [zd] at h; cases h
          | ok us τ3 =>
            rw [zd] at h
            have h : ((lcL g1 p1 d vs1 us (wipeE τ3 vs1)).noX.bind fun ys τ4 => (lcL2 g p di1 g1 p1 d vs vs1 ts (wipeE τ4 vs)).noX.map fun zs => ys ++ zs) = .er e fs τ' := h
            cases zl : lcL g1 p1 d vs1 us (wipeE τ3 vs1) with
            | er => rw [zl] at h; cases h
            | st => rw [zl] at h; cases h
            | ok ys τ4 =>
              rw [zl] at h
              have h : ((lcL2 g p di1 g1 p1 d vs vs1 ts (wipeE τ4 vs)).noX.map fun zs => ys ++ zs) = .er e fs τ' := h
              cases zz : lcL2 g p di1 g1 p1 d vs vs1 ts (wipeE τ4 vs) with
              | ok => rw [zz] at h; cases h
              | st => rw [zz] at h; cases h
              | er => rw [zz] at h; cases h
/-! ### the forms -/
variable {elt tg iter tg1 iter1 : Expr} {ifs ifs1 : List Expr} {scope : Scope} {own : List (Str × Nat)} {vs1 vs2 : List Nat} {pos py spos : Pos} {di di1 : DL} {g g1 : DG} {p p1 : DB} {d : DE} {i : Nat} {y : Str}
theorem dg_mono {vs ws : List Nat} {e : Expr} (h : PG X e (tG Ψ vs g)) (hs : ∀ i ∈ vs, i ∈ ws) : PG X e (tG Ψ ws g) := PG.imp h fun v σ H Q ⟨B, τ, tm, F, ω, t, r, hio, q, w⟩ => ⟨B, τ, tm, F, ω, t, r, hio, q, by
  cases z : g t τ with
  | none => rw [z] at w; exact w.elim
  | some τ' =>
    rw [z] at w
    exact fun σ' H' F' ω' r1 s1 a1 => w σ' H' F' ω' r1 s1 (a1.mono hs)⟩
theorem do_lc (hc : X.calm = true) (hN : X.N.Nodup) (hi : PI X tg iter (tI Ψ di)) (ok : BlkOk X.N X.env.scope scope own) (hio : ∀ i ∈ own.map (·.2), i ∉ Ψ.io)
    (hg : ∀ (s : Shared) (H : Hp) (C : Addr) (cl : List (Str × Addr)) (fp : List Addr), PG (X.blk s H scope (compEnvC scope cl C X.env) fp) tg (tG Ψ.nox (own.map (·.2)) g))
    (ht : ∀ (s : Shared) (H : Hp) (C : Addr) (cl : List (Str × Addr)) (fp : List Addr), PTs (X.blk s H scope (compEnvC scope cl C X.env) fp) ifs (tT Ψ.nox p))
    (he : ∀ (s : Shared) (H : Hp) (C : Addr) (cl : List (Str × Addr)) (fp : List Addr), PE (X.blk s H scope (compEnvC scope cl C X.env) fp) elt (tE Ψ.nox d)) (hs : ∀ x, foldedSetIterable iter X.env x = pure x := by intro _; rfl) :
    PE X (.ListComp elt [⟨tg, iter, ifs, 0⟩] scope pos) (tO Ψ (dLc di g p d (own.map (·.2)))) := PE.imp (pe_lc hc hN hi ok hg ht he hs) fun σ H Q q => lc_road hio q
theorem do_lc2 (hc : X.calm = true) (hN : X.N.Nodup) (hi : PI X tg iter (tI Ψ di)) (ok : BlkOk X.N X.env.scope scope own) (hio : ∀ i ∈ own.map (·.2), i ∉ Ψ.io) (hv : ∀ i ∈ vs1, i ∈ own.map (·.2))
    (hg : ∀ (s : Shared) (H : Hp) (C : Addr) (cl : List (Str × Addr)) (fp : List Addr), PG (X.blk s H scope (compEnvC scope cl C X.env) fp) tg (tG Ψ.nox (own.map (·.2)) g))
    (ht : ∀ (s : Shared) (H : Hp) (C : Addr) (cl : List (Str × Addr)) (fp : List Addr), PTs (X.blk s H scope (compEnvC scope cl C X.env) fp) ifs (tT Ψ.nox p))
    (hi1 : ∀ (s : Shared) (H : Hp) (C : Addr) (cl : List (Str × Addr)) (fp : List Addr), PI (X.blk s H scope (compEnvC scope cl C X.env) fp) tg1 iter1 (tI Ψ.nox di1))
    (hg1 : ∀ (s : Shared) (H : Hp) (C : Addr) (cl : List (Str × Addr)) (fp : List Addr), PG (X.blk s H scope (compEnvC scope cl C X.env) fp) tg1 (tG Ψ.nox vs1 g1))
    (ht1 : ∀ (s : Shared) (H : Hp) (C : Addr) (cl : List (Str × Addr)) (fp : List Addr), PTs (X.blk s H scope (compEnvC scope cl C X.env) fp) ifs1 (tT Ψ.nox p1))
    (he : ∀ (s : Shared) (H : Hp) (C : Addr) (cl : List (Str × Addr)) (fp : List Addr), PE (X.blk s H scope (compEnvC scope cl C X.env) fp) elt (tE Ψ.nox d)) (hs : ∀ x, foldedSetIterable iter X.env x = pure x := by intro _; rfl) (hs1 : ∀ env x, foldedSetIterable iter1 env x = pure x := by intro _ _; rfl) :
    PE X (.ListComp elt [⟨tg, iter, ifs, 0⟩, ⟨tg1, iter1, ifs1, 0⟩] scope pos) (tO Ψ (dLc2 di g p di1 g1 p1 d (own.map (·.2)) vs1)) := PE.imp (pe_lc2 hc hN hi ok hv hg ht hi1 hg1 ht1 he hs hs1) fun σ H Q q => lc2_road hio hv q
theorem setO_road {te : TE} {d : DO} {D : Ends} {σ : St} {H : Hp} (h : ∀ Q, tO Ψ d σ H Q → te σ H Q) (hn : i ∉ Ψ.io) (q : tS Ψ (dSetO i d) D σ H) : tAsg te (gName i) D σ H := by
  obtain ⟨B, τ, tm, F, ω, r, hio, q⟩ := q
  unfold dSetO at q
  rw [R.sat_bind] at q
  refine h _ ⟨B, τ, tm, F, ω, r, hio, R.sat_mono q (fun o τ1 q1 v H' F' ω' r1 s1 => ?_) (fun _ _ _ x => x.exP)⟩
  split at q1
  · rename_i hl
    obtain ⟨ω2, r2⟩ := r1.toSlot hl (by rw [hio.1.1]; exact hn)
    exact q1 _ H' F' ω2 r2
  · exact q1.elim
theorem ds_setLc (hn : i ∉ Ψ.io) (hc : X.calm = true) (hN : X.N.Nodup) (hy : X.N[i]? = some y) (hyl : X.env.scope.names.lookup y = some .local)
    (hsw : swapsWith (.ListComp elt [⟨tg, iter, ifs, 0⟩] scope pos) (some (.Name y py)) spos.line X.env = pure true) (hi : PI X tg iter (tI Ψ di)) (ok : BlkOk X.N X.env.scope scope own) (hio : ∀ i ∈ own.map (·.2), i ∉ Ψ.io)
    (hg : ∀ (s : Shared) (H : Hp) (C : Addr) (cl : List (Str × Addr)) (fp : List Addr), PG (X.blk s H scope (compEnvC scope cl C X.env) fp) tg (tG Ψ.nox (own.map (·.2)) g))
    (ht : ∀ (s : Shared) (H : Hp) (C : Addr) (cl : List (Str × Addr)) (fp : List Addr), PTs (X.blk s H scope (compEnvC scope cl C X.env) fp) ifs (tT Ψ.nox p))
    (he : ∀ (s : Shared) (H : Hp) (C : Addr) (cl : List (Str × Addr)) (fp : List Addr), PE (X.blk s H scope (compEnvC scope cl C X.env) fp) elt (tE Ψ.nox d)) (hs : ∀ x, foldedSetIterable iter X.env x = pure x := by intro _; rfl) :
    PS X (.Assign [.Name y py] (.ListComp elt [⟨tg, iter, ifs, 0⟩] scope pos) spos) (tS Ψ (dSetO i (dLc di g p d (own.map (·.2))))) := PS.imp (ps_setLc hc hN hy hyl hsw hi ok hg ht he hs) fun D σ H q => setO_road (fun Q z => lc_road hio z) hn q
theorem ds_setLc2 (hn : i ∉ Ψ.io) (hc : X.calm = true) (hN : X.N.Nodup) (hy : X.N[i]? = some y) (hyl : X.env.scope.names.lookup y = some .local)
    (hsw : swapsWith (.ListComp elt [⟨tg, iter, ifs, 0⟩, ⟨tg1, iter1, ifs1, 0⟩] scope pos) (some (.Name y py)) spos.line X.env = pure true) (hi : PI X tg iter (tI Ψ di)) (ok : BlkOk X.N X.env.scope scope own) (hio : ∀ i ∈ own.map (·.2), i ∉ Ψ.io) (hv : ∀ i ∈ vs1, i ∈ own.map (·.2))
    (hg : ∀ (s : Shared) (H : Hp) (C : Addr) (cl : List (Str × Addr)) (fp : List Addr), PG (X.blk s H scope (compEnvC scope cl C X.env) fp) tg (tG Ψ.nox (own.map (·.2)) g))
    (ht : ∀ (s : Shared) (H : Hp) (C : Addr) (cl : List (Str × Addr)) (fp : List Addr), PTs (X.blk s H scope (compEnvC scope cl C X.env) fp) ifs (tT Ψ.nox p))
    (hi1 : ∀ (s : Shared) (H : Hp) (C : Addr) (cl : List (Str × Addr)) (fp : List Addr), PI (X.blk s H scope (compEnvC scope cl C X.env) fp) tg1 iter1 (tI Ψ.nox di1))
    (hg1 : ∀ (s : Shared) (H : Hp) (C : Addr) (cl : List (Str × Addr)) (fp : List Addr), PG (X.blk s H scope (compEnvC scope cl C X.env) fp) tg1 (tG Ψ.nox vs1 g1))
    (ht1 : ∀ (s : Shared) (H : Hp) (C : Addr) (cl : List (Str × Addr)) (fp : List Addr), PTs (X.blk s H scope (compEnvC scope cl C X.env) fp) ifs1 (tT Ψ.nox p1))
    (he : ∀ (s : Shared) (H : Hp) (C : Addr) (cl : List (Str × Addr)) (fp : List Addr), PE (X.blk s H scope (compEnvC scope cl C X.env) fp) elt (tE Ψ.nox d)) (hs : ∀ x, foldedSetIterable iter X.env x = pure x := by intro _; rfl) (hs1 : ∀ env x, foldedSetIterable iter1 env x = pure x := by intro _ _; rfl) :
    PS X (.Assign [.Name y py] (.ListComp elt [⟨tg, iter, ifs, 0⟩, ⟨tg1, iter1, ifs1, 0⟩] scope pos) spos) (tS Ψ (dSetO i (dLc2 di g p di1 g1 p1 d (own.map (·.2)) vs1))) := PS.imp (ps_setLc2 hc hN hy hyl hsw hi ok hv hg ht hi1 hg1 ht1 he hs hs1) fun D σ H q => setO_road (fun Q z => lc2_road hio hv z) hn q
end
end TL
set_option Elab.async false
set_option linter.all false
set_option maxRecDepth 100000
set_option maxHeartbeats 0
/-! TL10: what a def promises over trees; its body; calls. -/
namespace TL
open PySem PySem.Spec L2

structure Post (Γ : Gam) (io : List Nat) (vs : List V) (H F : Hp) (ω : Lab) (τ' : Env) (H' F' : Hp) (ω' : Lab) : Prop where
  keep : ∀ b o, H b = some o → ω b = none → H' b = some o
  ff : Sub F F'
  fh : Sub F' H'
  fr : ∀ b o, F' b = some o → F b = some o ∨ H b = none ∨ ∃ p, ω b = some p
  fo : ∀ b o, F' b = some o → ω' b = none
  oh : ∀ b p, ω' b = some p → ∃ o, H' b = some o
  lb : ∀ b p, ω' b = some p → H b = none ∨ ∃ q, ω b = some q
  fin : ∀ k ∈ io, ∀ o, τ'[k]? = some (some o) → ∃ v, vs[k]? = some v ∧ Ow Γ ω' F' H' k [] v o
/-- the promise: called with things that stand for os (those at io owned), it does what m says -/
def spM (Γ : Gam) (n : Nat) (io : List Nat) (m : Env → R O) : Sp := fun vs H Q E => ∃ (os : List O) (F : Hp) (ω : Lab), vs.length = n ∧ os.length = n ∧ Sub F H ∧ (∀ b o, F b = some o → ω b = none) ∧ (∀ b p, ω b = some p → ∃ o, H b = some o) ∧
  (∀ k o, os[k]? = some o → ∃ v, vs[k]? = some v ∧ Ow Γ ω F H k [] v o) ∧
  (m (os.map some)).sat (fun o τ' => ∀ v H' F' ω', Post Γ io vs H F ω τ' H' F' ω' → Ow Γ ω' F' H' TB [] v o → Q v H') (fun e fs τ' => ∀ cls d H' F' ω', Post Γ io vs H F ω τ' H' F' ω' → Γ.xr e fs cls d H' → E cls d H')
/-- a body as a function of the arguments -/
def dFn (N : Nat) (d : DS) : Env → R O := fun τ => (d (τ ++ List.replicate (N - τ.length) none)).bind fun f τ1 => match f with
  | .rt o => .ok o τ1
  | .nx => .ok (.fz .non) τ1
  | _ => .st
section
variable {P : Program} {w : World} {K : PySem.W.Frag} {mg : Str → Option Value} {base : Heap} {Γ : Gam}
abbrev cxT (P : Program) (w : World) (K : PySem.W.Frag) (mg : Str → Option Value) (base : Heap) (N : List Str) (qual : Str) (scope : Scope) (f : Addr) (cdv : Value) (A : Around) (outer : List PySem.Env) (s : Shared) (H : Hp) (E : XK) : Cx := cxOf (L2.CX P w) P w K mg base N qual scope f cdv A outer s H E
abbrev wE (E : XK) : WX := fun cls d _ H => E cls d H
theorem takes_cx {N : List Str} {qual : Str} {scope : Scope} {f : Addr} {cdv : Value} {A : Around} {outer : List PySem.Env} {s : Shared} {H : Hp} {E : XK} : Takes (cxT P w K mg base N qual scope f cdv A outer s H E) (wE E) := takes_of rfl rfl rfl rfl
theorem passes_cx {N : List Str} {qual : Str} {scope : Scope} {f : Addr} {cdv : Value} {A : Around} {outer : List PySem.Env} {s : Shared} {H : Hp} {E : XK} :
    PassesOwn (model (cxT P w K mg base N qual scope f cdv A outer s H E).prog (cxT P w K mg base N qual scope f cdv A outer s H E).w) (cxT P w K mg base N qual scope f cdv A outer s H E).A (cxT P w K mg base N qual scope f cdv A outer s H E).env (cxT P w K mg base N qual scope f cdv A outer s H E).xe := passes_of rfl
theorem start_get {N : List Str} {vs : List V} {k : Nat} {v : V} (h : vs[k]? = some v) : (L2.start N vs)[k]? = some (some v) := by
  unfold L2.start
  have hl := (List.getElem?_eq_some_iff.mp h).1
  rw [List.getElem?_append_left (by simpa using hl), List.getElem?_map, h]
  rfl
/-- the def's body, run from its arguments -/
theorem body_road {N : List Str} {vs : List V} {n : Nat} {io : List Nat} {d : DS} {H : Hp} {Q : VK} {E : XK} (hN : n ≤ N.length) (hTB : N.length ≤ TB) (hio : ∀ k ∈ io, k < n) (h : spM Γ n io (dFn N.length d) vs H Q E) :
    tS ⟨Γ, wE E, io, [], []⟩ d { nx := fun _ H' => Q .non H', rt := Q } (L2.start N vs) H := by
  obtain ⟨os, F, ω, hl, ho, sub, fo, oh, args, q⟩ := h
  unfold dFn at q
  rw [R.sat_bind] at q
  let B : Bs := ⟨fun b => match ω b with | none => H b | some _ => none, F, io, fun k => vs.getD k .non⟩
  have gB : ∀ b o, B.G b = some o → ω b = none ∧ H b = some o := fun b o e => by
    have e : (match ω b with | none => H b | some _ => none) = some o := e
    cases z : ω b with
    | none => rw [z] at e; exact ⟨rfl, e⟩
    | some p => rw [z] at e; cases e
  have gB' : ∀ b o, ω b = none → H b = some o → B.G b = some o := fun b o z e => by
    show (match ω b with | none => H b | some _ => none) = some o
    rw [z]
    exact e
  have hlen : (os.map some ++ List.replicate (N.length - (os.map some).length) none : Env).length = N.length := by simp; omega
  have r0 : Rel Γ B (os.map some ++ List.replicate (N.length - (os.map some).length) none) [] (L2.start N vs) H F ω := by
    refine ⟨?_, by rw [hlen]; exact hTB, sub, fo, oh, fun b o e => (gB b o e).2, fun b o e => (gB b o e).1, fun b o u _ e => ⟨u, e⟩, fun _ _ e => e, fun i o e => ?_, fun j v o e => by simp at e, fun k hk => ?_⟩
    · rw [hlen]
      simp [L2.start]
      omega
    · by_cases hi : i < os.length
      · rw [List.getElem?_append_left (by simpa using hi), List.getElem?_map] at e
        cases z : os[i]? with
        | none => rw [z] at e; cases e
        | some o' =>
          rw [z] at e
          cases e
          obtain ⟨v, h1, h2⟩ := args i o z
          exact ⟨v, start_get h1, h2⟩
      · rw [List.getElem?_append_right (by simp; omega), List.getElem?_replicate] at e
        split at e <;> cases e
    · have hk' : k < vs.length := by rw [hl]; exact hio k hk
      show (L2.start N vs)[k]? = some (some (vs.getD k .non))
      rw [start_get (v := vs[k]) (List.getElem?_eq_getElem hk')]
      simp [List.getD_eq_getElem?_getD, List.getElem?_eq_getElem hk']
  have post : ∀ {τ' : Env} {tm' : List (V × O)} {σ' : St} {H' F' : Hp} {ω' : Lab}, Rel Γ B τ' tm' σ' H' F' ω' → Post Γ io vs H F ω τ' H' F' ω' := fun {τ' tm' σ' H' F' ω'} r' => by
    refine ⟨fun b o e z => r'.gh b o (gB' b o z e), r'.f0, r'.fh, fun b o e => ?_, r'.fo, r'.oh, fun b p e => ?_, fun k hk o e => ?_⟩
    · cases z : H b with
      | none => exact .inr (.inl rfl)
      | some u =>
        cases y : ω b with
        | some p => exact .inr (.inr ⟨p, rfl⟩)
        | none =>
          obtain ⟨u', hu'⟩ := r'.gf b u o (gB' b u y z) e
          have e2 := r'.f0 b u' hu'
          rw [e] at e2
          cases e2
          exact .inl hu'
    · cases z : H b with
      | none => exact .inl rfl
      | some u =>
        cases y : ω b with
        | some q => exact .inr ⟨q, rfl⟩
        | none =>
          have := r'.go b u (gB' b u y z)
          rw [e] at this
          cases this
    · obtain ⟨v, h1, h2⟩ := r'.slot k o e
      have h3 := r'.io k hk
      have hk' : k < vs.length := by rw [hl]; exact hio k hk
      rw [h1] at h3
      have h4 : v = vs.getD k .non := by cases h3; rfl
      refine ⟨v, ?_, h2⟩
      rw [h4, List.getD_eq_getElem?_getD, List.getElem?_eq_getElem hk']
      rfl
  refine ⟨B, _, [], F, ω, r0, ⟨⟨rfl, (fun _ z => nomatch z), fun _ z => nomatch z⟩, rfl⟩, R.sat_mono q (fun f τ1 q1 => ?_) (fun e fs τ1 x cls d σ' H' F' ω' tm' r' xx => x cls d H' F' ω' (post r') xx)⟩
  cases f with
  | rt o => exact fun v σ' H' F' ω' r' => q1 v H' F' ω' (post r') (r'.tmp 0 v o rfl)
  | nx => exact fun σ' H' F' ω' r' => q1 .non H' F' ω' (post r') (by simp only [Ow]; exact rp_non)
  | bk => exact q1.elim
  | ct => exact q1.elim
/-- a def keeps its promise -/
theorem fn_T {x qual : Str} {params : Arguments} {body : List Stmt} {scope : Scope} {f : Addr} {fd : FuncData} {N ps : List Str} {k : Nat} {io : List Nat} {d : DS} (F : FunD K x qual params body scope [] [] f fd) (S : FnScope N ps scope) (hTB : N.length ≤ TB) (hio : ∀ j ∈ io, j < ps.length)
    (hb : ∀ (cdv : Value) (A : Around) (outer : List PySem.Env) (s : Shared) (H : Hp) (E : XK), Room k (A.deeper (PyProof.Rows.envOfC qual scope s.heap.objs.size f cdv)) → PSs (cxT P w K mg base N qual scope f cdv A outer s H E) body (tS ⟨Γ, wE E, io, [], []⟩ d)) :
    FnOk P w K mg base (L2.CX P w) (k + 1) f fd ps (spM Γ ps.length io (dFn N.length d)) := by
  have hps : ps.length ≤ N.length := by
    have := congrArg List.length S.pre
    rw [List.length_take] at this
    omega
  exact F.ok S (fun vs H Q E ⟨os, F', ω, h, _⟩ => h) fun cdv A outer s H vs Q E hr h => ⟨_, hb cdv A outer s H E hr, body_road hps hTB hio h⟩
end

/-! ### calls -/
def ixOf (is : List Nat) (i : Nat) : Option Nat := is.findIdx? (· == i)
theorem ixOf_some {is : List Nat} {i j : Nat} (h : ixOf is i = some j) : is[j]? = some i := by
  obtain ⟨h1, h2, h3⟩ := List.findIdx?_eq_some_iff_getElem.mp h
  rw [List.getElem?_eq_getElem h1]
  have := beq_iff_eq.mp h2
  rw [this]
theorem ixOf_at {is : List Nat} {i j : Nat} (hn : is.Nodup) (h : is[j]? = some i) : ixOf is i = some j := by
  obtain ⟨h1, h2⟩ := List.getElem?_eq_some_iff.mp h
  refine List.findIdx?_eq_some_iff_getElem.mpr ⟨h1, by simp [h2], fun k hk => ?_⟩
  have h3 : is[k] ≠ is[j] := fun e => by
    have := (List.getElem_inj hn).mp e
    omega
  simp only [beq_iff_eq, Bool.not_eq_true']
  intro e
  rw [h2] at h3
  exact h3 (by simpa using e)
theorem ixOf_none {is : List Nat} {i : Nat} (h : ixOf is i = none) : i ∉ is := fun z => by
  have := List.findIdx?_eq_none_iff.mp h i z
  simp at this
/-- the labels that a callee sees: the roots handed to it -/
def inL (is : List Nat) (ω : Lab) : Lab := fun b => match ω b with
  | some (i, r) => (ixOf is i).map fun j => (j, r)
  | none => none
/-- the labels behind a call: the handed roots', the result's at root t, the others as before -/
def outL (is : List Nat) (t : Nat) (ω ω' : Lab) : Lab := fun b => match ω' b with
  | some (j, r) => if j = TB then some (t, r) else (is[j]?).map fun i => (i, r)
  | none => match ω b with
    | some (i, r) => if i ∈ is then none else some (i, r)
    | none => none
def setsO (τ : Env) : List Nat → List (Option O) → Env
  | i :: is, o :: os => setsO (τ.set i o) is os
  | _, _ => τ
def getsO (τ : Env) : List Nat → Option (List O)
  | [] => some []
  | i :: is => match τ[i]?, getsO τ is with
    | some (some o), some os => some (o :: os)
    | _, _ => none
/-- f(slots is.., args ..): m on the slots' things and the arguments -/
def dCallF (n : Nat) (is : List Nat) (m : Env → R O) (d : DL) : DO := fun τ => if (getsO τ is).isSome = false then .st else (d τ).bind fun ts τ1 => match getsO τ1 is with
  | none => .st
  | some os => if is.length + ts.length = n then match m ((os ++ ts.map O.fz).map some) with
    | .ok o τ' => if is.length ≤ τ'.length then .ok o (setsO τ1 is (τ'.take is.length)) else .st
    | .er e fs τ' => if is.length ≤ τ'.length then .er e fs (setsO τ1 is (τ'.take is.length)) else .st
    | .st => .st else .st
section
variable {Γ : Gam} {B : Bs} {τ τ' : Env} {tm : List (V × O)} {σ : St} {H F H' F' : Hp} {ω ω' : Lab} {is : List Nat}
theorem setsO_length : ∀ (is : List Nat) (os : List (Option O)) (τ : Env), (setsO τ is os).length = τ.length
  | [], _, _ => by simp [setsO]
  | i :: is, [], _ => by simp [setsO]
  | i :: is, o :: os, τ => by
    simp only [setsO]
    rw [setsO_length is os]
    simp
theorem setsO_get (hn : is.Nodup) : ∀ {os : List (Option O)} {τ : Env} {i : Nat} {o : O}, is.length ≤ os.length → (setsO τ is os)[i]? = some (some o) → (i ∉ is ∧ τ[i]? = some (some o)) ∨ ∃ j : Nat, is[j]? = some i ∧ os[j]? = some (some o) := by
  induction is with
  | nil => intro os τ i o _ h; exact .inl ⟨by simp, by simpa [setsO] using h⟩
  | cons k is ih =>
    intro os τ i o hl h
    cases os with
    | nil => simp at hl
    | cons p os =>
      simp only [setsO] at h
      rw [List.nodup_cons] at hn
      rcases ih hn.2 (by simpa using hl) h with ⟨h1, h2⟩ | ⟨j, h1, h2⟩
      · by_cases e : i = k
        · subst e
          have hlt := (List.getElem?_eq_some_iff.mp h2).1
          rw [List.getElem?_set_self (by simpa using hlt)] at h2
          exact .inr ⟨0, rfl, by rw [List.getElem?_cons_zero]; exact h2⟩
        · rw [List.getElem?_set_ne (Ne.symm e)] at h2
          exact .inl ⟨fun z => by rcases List.mem_cons.mp z with z | z; exact e z; exact h1 z, h2⟩
      · exact .inr ⟨j + 1, by simpa using h1, by simpa using h2⟩
theorem getsO_get : ∀ {is : List Nat} {os : List O}, getsO τ is = some os → os.length = is.length ∧ ∀ {j : Nat} {o : O}, os[j]? = some o → ∃ i, is[j]? = some i ∧ τ[i]? = some (some o)
  | [], os, h => by
    simp only [getsO, Option.some.injEq] at h
    subst h
    exact ⟨rfl, fun {j o} e => by simp at e⟩
  | i :: is, os, h => by
    simp only [getsO] at h
    split at h
    · rename_i o os' h1 h2
      cases h
      obtain ⟨h3, h4⟩ := getsO_get h2
      refine ⟨by simp [h3], fun {j o'} e => ?_⟩
      cases j with
      | zero =>
        simp at e
        subst e
        exact ⟨i, rfl, h1⟩
      | succ j => exact h4 (by simpa using e)
    · cases h
theorem inL_some {b : Addr} {p : Nat × List Nat} (h : inL is ω b = some p) : ∃ i, ω b = some (i, p.2) ∧ is[p.1]? = some i := by
  unfold inL at h
  cases z : ω b with
  | none => rw [z] at h; cases h
  | some q =>
    obtain ⟨i, r⟩ := q
    rw [z] at h
    cases y : ixOf is i with
    | none => simp [y] at h
    | some j =>
      simp [y] at h
      subst h
      exact ⟨i, rfl, ixOf_some y⟩
theorem inL_at {b : Addr} {i j : Nat} {r : List Nat} (hn : is.Nodup) (h : ω b = some (i, r)) (hj : is[j]? = some i) : inL is ω b = some (j, r) := by
  unfold inL
  rw [h]
  simp [ixOf_at hn hj]
theorem inL_none {b : Addr} {i : Nat} {r : List Nat} (h : ω b = some (i, r)) (hi : i ∉ is) : inL is ω b = none := by
  cases z : inL is ω b with
  | none => rfl
  | some p =>
    obtain ⟨k, h1, h2⟩ := inL_some z
    rw [h] at h1
    cases h1
    exact absurd (List.mem_of_getElem? h2) hi
/-- the state behind a call -/
theorem Rel.called {vs : List V} {fin : Env} (r : Rel Γ B τ tm σ H F ω) (hn : is.Nodup) (hb : ∀ i ∈ is, i < TB) (hlt : is.length ≤ TB) (hvs : ∀ (j i : Nat) (v : V), is[j]? = some i → vs[j]? = some v → σ[i]? = some (some v))
    (io : List Nat) (hio : ∀ j, j < is.length → j ∈ io) (hl : is.length ≤ fin.length) (p : Post Γ io vs H F (inL is ω) fin H' F' ω') : Rel Γ B (setsO τ is (fin.take is.length)) tm σ H' F' (outL is (TB + tm.length) ω ω') := by
  -- labels
  have old : ∀ b i q, ω b = some (i, q) → i ∉ is → ω' b = none ∧ H' b = H b := fun b i q h hi => by
    have h1 := inL_none h hi
    obtain ⟨u, hu⟩ := r.oh b _ h
    refine ⟨?_, by rw [p.keep b u hu h1, hu]⟩
    cases z : ω' b with
    | none => rfl
    | some y =>
      rcases p.lb b y z with h2 | ⟨y', h2⟩
      · rw [hu] at h2; cases h2
      · rw [h1] at h2; cases h2
  have gO : ∀ b o, B.G b = some o → inL is ω b = none := fun b o e => by
    unfold inL
    rw [r.go b o e]
  have gN : ∀ b o, B.G b = some o → ω' b = none := fun b o e => by
    cases z : ω' b with
    | none => rfl
    | some y =>
      rcases p.lb b y z with h2 | ⟨y', h2⟩
      · rw [r.gh b o e] at h2; cases h2
      · rw [gO b o e] at h2; cases h2
  have keepO : ∀ {i : Nat} {v : V} {o : O}, i ∉ is → Ow Γ ω F H i [] v o → Ow Γ (outL is (TB + tm.length) ω ω') F' H' i [] v o := fun {i v o} hi h =>
    Ow.move p.ff o [] [] v (fun b q z => by
      obtain ⟨h1, h2⟩ := old b i _ z hi
      refine ⟨?_, h2⟩
      unfold outL
      rw [h1, z]
      simp [hi]) h
  refine ⟨by rw [setsO_length]; exact r.len, by rw [setsO_length]; exact r.lt, p.fh, fun b o e => ?_, fun b y e => ?_, fun b o e => p.keep b o (r.gh b o e) (gO b o e), fun b o e => ?_, fun b o u e e' => ?_, fun b o e => p.ff b o (r.f0 b o e), fun i o e => ?_, fun j v o e => ?_, r.io⟩
  · unfold outL
    rw [p.fo b o e]
    dsimp only
    cases z : ω b with
    | none => rfl
    | some y =>
      obtain ⟨i, q⟩ := y
      by_cases hi : i ∈ is
      · simp [hi]
      · exfalso
        rcases p.fr b o e with h1 | h1 | ⟨y', h1⟩
        · rw [r.fo b o h1] at z; cases z
        · obtain ⟨u, hu⟩ := r.oh b _ z
          rw [hu] at h1
          cases h1
        · rw [inL_none z hi] at h1
          cases h1
  · cases z : ω' b with
    | some y' => exact p.oh b y' z
    | none =>
      unfold outL at e
      rw [z] at e
      dsimp only at e
      cases z2 : ω b with
      | none => rw [z2] at e; cases e
      | some y2 =>
        obtain ⟨i, q⟩ := y2
        rw [z2] at e
        by_cases hi : i ∈ is
        · simp [hi] at e
        · obtain ⟨h1, h2⟩ := old b i q z2 hi
          obtain ⟨u, hu⟩ := r.oh b _ z2
          exact ⟨u, by rw [h2]; exact hu⟩
  · unfold outL
    rw [gN b o e]
    dsimp only
    rw [r.go b o e]
  · rcases p.fr b u e' with h1 | h1 | ⟨y', h1⟩
    · exact r.gf b o u e h1
    · rw [r.gh b o e] at h1; cases h1
    · rw [gO b o e] at h1; cases h1
  · rcases setsO_get hn (by rw [List.length_take]; omega) e with ⟨h1, h2⟩ | ⟨j, h1, h2⟩
    · obtain ⟨v, h3, h4⟩ := r.slot i o h2
      exact ⟨v, h3, keepO h1 h4⟩
    · have hj : j < is.length := (List.getElem?_eq_some_iff.mp h1).1
      rw [List.getElem?_take_of_lt hj] at h2
      obtain ⟨v, h3, h4⟩ := p.fin j (hio j hj) o h2
      refine ⟨v, hvs j i v h1 h3, Ow.move (fun _ _ e => e) o [] [] v (fun b q z => ⟨?_, rfl⟩) h4⟩
      unfold outL
      rw [z]
      have : j ≠ TB := by omega
      simp [this, h1]
  · have hj := (List.getElem?_eq_some_iff.mp e).1
    refine keepO (fun z => ?_) (r.tmp j v o e)
    have := hb _ z
    omega
theorem Rel.withRes {v : V} {o : O} {fin : Env} (r : Rel Γ B fin tm σ H' F' (outL is (TB + tm.length) ω ω')) (h : Ow Γ ω' F' H' TB [] v o) : Rel Γ B fin (tm ++ [(v, o)]) σ H' F' (outL is (TB + tm.length) ω ω') where
  len := r.len
  lt := r.lt
  fh := r.fh
  fo := r.fo
  oh := r.oh
  gh := r.gh
  go := r.go
  gf := r.gf
  f0 := r.f0
  slot := r.slot
  tmp := fun j v' o' e => by
    by_cases hj : j < tm.length
    · rw [List.getElem?_append_left hj] at e
      exact r.tmp j v' o' e
    · rw [List.getElem?_append_right (by omega)] at e
      have hj' : j - tm.length = 0 := by
        have := (List.getElem?_eq_some_iff.mp e).1
        simp at this
        omega
      rw [hj'] at e
      simp at e
      obtain ⟨rfl, rfl⟩ := e
      have : j = tm.length := by omega
      subst this
      refine Ow.move (fun _ _ e => e) _ [] [] v (fun b q z => ⟨?_, rfl⟩) h
      unfold outL
      rw [z]
      simp
  io := r.io
end
section
variable {X : Cx} {Ψ : Sx} {e : Expr} {es : List Expr} {pos p : Pos} {d : DL} {x : Str} {f : Addr} {fd : FuncData} {ps : List Str} {k n : Nat} {io : List Nat} {m : Env → R O}
/-- the slots is, then the arguments: as an argument list -/
def tAs (Ψ : Sx) : List Nat → DL → TA
  | [], d => tA Ψ d
  | i :: is, d => tCons (tVar i) (tAs Ψ is d)
theorem tAs_road (is : List Nat) {σ : St} {H : Hp} {Q : List V → Hp → Prop} (hs : ∀ i ∈ is, ∃ v, σ[i]? = some (some v)) (q : tA Ψ d σ H fun ts H' => ∀ us, us.length = is.length → (∀ (j i : Nat) (v : V), is[j]? = some i → us[j]? = some v → σ[i]? = some (some v)) → Q (us ++ ts) H') : tAs Ψ is d σ H Q := by
  induction is generalizing Q with
  | nil =>
    obtain ⟨B, τ, tm, F, ω, r, hio, q⟩ := q
    exact ⟨B, τ, tm, F, ω, r, hio, R.sat_mono q (fun ts τ1 q1 vs H1 F1 ω1 r1 s1 p1 => q1 vs H1 F1 ω1 r1 s1 p1 [] rfl (fun j i v h => by simp at h)) (fun _ _ _ x => x)⟩
  | cons i is ih =>
    obtain ⟨v, hv⟩ := hs i List.mem_cons_self
    refine ⟨v, hv, ih (fun j hj => hs j (List.mem_cons_of_mem _ hj)) ?_⟩
    obtain ⟨B, τ, tm, F, ω, r, hio, q⟩ := q
    refine ⟨B, τ, tm, F, ω, r, hio, R.sat_mono q (fun ts τ1 q1 vs H1 F1 ω1 r1 s1 p1 us hu h => ?_) (fun _ _ _ x => x)⟩
    refine q1 vs H1 F1 ω1 r1 s1 p1 (v :: us) (by simp [hu]) fun j k w h1 h2 => ?_
    cases j with
    | zero =>
      simp at h1 h2
      subst h1
      subst h2
      exact hv
    | succ j => exact h j k w (by simpa using h1) (by simpa using h2)
theorem callF_road {is : List Nat} (hn : is.Nodup) (hb : ∀ i ∈ is, i < TB) (hl : is.length ≤ TB) (hio : ∀ j, j < is.length → j ∈ io) {σ : St} {H : Hp} {Q : VK} (q : tO Ψ (dCallF n is m d) σ H Q) : tAs Ψ is d σ H fun vs H1 => spM Ψ.Γ n io m (vs ++ []) H1 Q fun cls dd H' => Ψ.W cls dd σ H' := by
  obtain ⟨B, τ, tm, F, ω, r, hbio, q⟩ := q
  unfold dCallF at q
  split at q
  case isTrue => exact q.elim
  rename_i hgs
  have hs : ∀ i ∈ is, ∃ v, σ[i]? = some (some v) := fun i hi => by
    cases z : getsO τ is with
    | none => rw [z] at hgs; exact absurd rfl hgs
    | some os =>
      obtain ⟨go1, go2⟩ := getsO_get z
      obtain ⟨j, hj, e⟩ := List.getElem_of_mem hi
      obtain ⟨i', h1, h2⟩ := go2 (List.getElem?_eq_getElem (show j < os.length by omega))
      rw [List.getElem?_eq_getElem hj, e] at h1
      cases h1
      obtain ⟨v, h3, _⟩ := r.slot i _ h2
      exact ⟨v, h3⟩
  refine tAs_road is hs ?_
  rw [R.sat_bind] at q
  refine ⟨B, τ, tm, F, ω, r, hbio, R.sat_mono q (fun ts τ1 q1 vs H1 F1 ω1 r1 s1 p1 us hu hus => ?_) (fun _ _ _ x => x)⟩
  cases zg : getsO τ1 is with
  | none => rw [zg] at q1; exact q1.elim
  | some os =>
    rw [zg] at q1
    dsimp only at q1
    obtain ⟨go1, go2⟩ := getsO_get zg
    split at q1
    case isFalse => exact q1.elim
    rename_i hn1
    have hlt1 := RpL.length _ _ p1
    rw [List.append_nil]
    refine ⟨os ++ ts.map O.fz, F1, inL is ω1, by rw [List.length_append, hu, hlt1, hn1], by rw [List.length_append, go1, List.length_map, hn1], r1.fh, fun b o e => ?_, fun b y e => ?_, fun j o e => ?_, ?_⟩
    · unfold inL
      rw [r1.fo b o e]
    · obtain ⟨i, h1, _⟩ := inL_some e
      exact r1.oh b _ h1
    · by_cases hj : j < os.length
      · rw [List.getElem?_append_left hj] at e
        obtain ⟨i, h1, h2⟩ := go2 e
        obtain ⟨v, h3, h4⟩ := r1.slot i o h2
        have hju : j < us.length := by omega
        have h5 := hus j i us[j] h1 (List.getElem?_eq_getElem hju)
        rw [h3] at h5
        cases h5
        refine ⟨us[j], by rw [List.getElem?_append_left hju, List.getElem?_eq_getElem hju], Ow.move (fun _ _ e => e) o [] [] _ (fun b q z => ⟨inL_at hn z h1, rfl⟩) h4⟩
      · rw [List.getElem?_append_right (by omega), List.getElem?_map] at e
        cases z : ts[j - os.length]? with
        | none => rw [z] at e; cases e
        | some t =>
          rw [z] at e
          cases e
          obtain ⟨v, h1, h2⟩ := RpL.get p1 z
          refine ⟨v, ?_, by simpa only [Ow] using h2⟩
          rw [List.getElem?_append_right (by omega), hu, ← go1]
          exact h1
    · have hvs : ∀ (j i : Nat) (v : V), is[j]? = some i → (us ++ vs)[j]? = some v → σ[i]? = some (some v) := fun j i v h1 h2 => by
        have hj := (List.getElem?_eq_some_iff.mp h1).1
        rw [List.getElem?_append_left (by omega)] at h2
        exact hus j i v h1 h2
      cases zm : m ((os ++ ts.map O.fz).map some) with
      | st => rw [zm] at q1; exact q1
      | ok o τ' =>
        rw [zm] at q1
        dsimp only at q1
        split at q1
        case isFalse => exact q1.elim
        rename_i hf
        intro v H' F' ω' pp hr
        have r2 := Rel.called r1 hn hb hl hvs io hio hf pp
        exact q1 v H' F' _ (Rel.withRes r2 hr) (s1.trans pp.ff)
      | er e fs τ' =>
        rw [zm] at q1
        dsimp only at q1
        split at q1
        case isFalse => exact q1.elim
        rename_i hf
        intro cls dd H' F' ω' pp xx
        have r2 := Rel.called r1 hn hb hl hvs io hio hf pp
        exact q1 cls dd H' F' _ tm r2 xx
theorem takes_nox {X : Cx} {Ψ : Sx} : Takes X Ψ.nox.W := fun _ _ ⟨_, _, _, _, _, _, _, _, _, _, _, _, _, _, _, _, w⟩ => w.elim
theorem passesAt_of {X : Cx} {W : WX} (tk : Takes X W) (σ : St) : PassesAt (L2.CX X.prog X.w) X σ (fun cls d H => W cls d σ H) := fun pins H s e s' I c => tk e s' (XE.of_call I (fun _ _ _ h => h) c)
theorem do_call {is : List Nat} (tk : Takes X Ψ.W) (F : FnOk X.prog X.w X.K X.mg X.base (L2.CX X.prog X.w) k f fd ps (spM Ψ.Γ n io m)) (hr : Room k X.A) (hg : Gl X x) (hm : X.mg x = some (.ref f)) (hk : PySem.W.keepIn X.K (.ref f) = true) (hb : Binds X.K fd ps [])
    (hn : is.Nodup) (hib : ∀ i ∈ is, i < TB) (hl : is.length ≤ TB) (hio : ∀ j, j < is.length → j ∈ io) (ha : PA X (e :: es) (tAs Ψ is d)) (hdb : (x == ("__debug__" : Str)) = false := by decide) (he : starEach (e :: es) X.env = (false, eval e X.env) :: starEach es X.env := by rfl) (hpl : (backTo pos (starEach es X.env)).any (·.1) = false := by rfl) :
    PE X (.Call (.Name x p) (e :: es) [] pos) (tO Ψ (dCallF n is m d)) :=
  PE.imp (pe_callSD F hr hg hm hk hb .nil (fun σ => passesAt_of tk σ) ha hdb he hpl) fun σ H Q q => callF_road hn hib hl hio q
/-- .. nothing owned is handed over -/
theorem do_call0 (tk : Takes X Ψ.W) (F : FnOk X.prog X.w X.K X.mg X.base (L2.CX X.prog X.w) k f fd ps (spM Ψ.Γ n io m)) (hr : Room k X.A) (hg : Gl X x) (hm : X.mg x = some (.ref f)) (hk : PySem.W.keepIn X.K (.ref f) = true) (hb : Binds X.K fd ps [])
    (ha : PA X (e :: es) (tA Ψ d)) (hdb : (x == ("__debug__" : Str)) = false := by decide) (he : starEach (e :: es) X.env = (false, eval e X.env) :: starEach es X.env := by rfl) (hpl : (backTo pos (starEach es X.env)).any (·.1) = false := by rfl) :
    PE X (.Call (.Name x p) (e :: es) [] pos) (tO Ψ (dCallF n [] m d)) := do_call tk F hr hg hm hk hb (by simp) (by simp) (Nat.zero_le _) (fun j h => absurd h (Nat.not_lt_zero _)) ha hdb he hpl
theorem da_slot {is : List Nat} {i : Nat} (h : PE X e (tVar i)) (hr : PA X es (tAs Ψ is d)) (hs : starEach (e :: es) X.env = (false, eval e X.env) :: starEach es X.env := by rfl) : PA X (e :: es) (tAs Ψ (i :: is) d) := pa_cons h hr hs
end
end TL
set_option Elab.async false
set_option linter.all false
set_option maxRecDepth 100000
set_option maxHeartbeats 0
/-! TL11: what is changed in its place: methods of lists, places of lists and dicts. -/
namespace TL
open PySem PySem.Spec L2

section
variable {Γ : Gam} {F F' H H' : Hp} {ω : Lab} {i : Nat}
theorem OwL.upd {r : List Nat} {a : Addr} {ob : HO} {os : List O} {j : Nat} {xs : List V} (h : OwL Γ ω F H i r j xs os) (ha : ω a = some (i, r)) : OwL Γ ω F (L2.upd H a ob) i r j xs os :=
  OwL.put.OwL.put_rest (fun _ _ e => e) (fun b q m _ z => ⟨z, upd_ne (fun y => by
    subst y
    rw [ha] at z
    have e : r = q ++ m :: r := (Prod.mk.inj (Option.some.inj z)).2
    have := congrArg List.length e
    simp at this
    omega)⟩) h
theorem OwL.inv_snoc {r : List Nat} : ∀ {os : List O} {o : O} {j : Nat} {xs : List V}, OwL Γ ω F H i r j xs (os ++ [o]) → ∃ ys y, xs = ys ++ [y] ∧ OwL Γ ω F H i r j ys os ∧ Ow Γ ω F H i ((j + os.length) :: r) y o
  | [], o, j, xs, h => by
    simp only [List.nil_append, OwL] at h
    obtain ⟨x, s, rfl, p, rfl⟩ := h
    exact ⟨[], x, rfl, by simp only [OwL], p⟩
  | t :: os, o, j, xs, h => by
    simp only [List.cons_append, OwL] at h
    obtain ⟨x, s, rfl, p, q⟩ := h
    obtain ⟨ys, y, rfl, h1, h2⟩ := OwL.inv_snoc q
    refine ⟨x :: ys, y, rfl, ?_, ?_⟩
    · simp only [OwL]
      exact ⟨x, ys, rfl, p, h1⟩
    · rw [show j + (t :: os).length = j + 1 + os.length by simp; omega]
      exact h2
theorem OwL.fz1 {r : List Nat} {j : Nat} {x : V} {t : T} (h : Rp Γ F x t) : OwL Γ ω F H i r j [x] [.fz t] := by
  simp only [OwL, Ow]
  exact ⟨x, [], rfl, h, rfl⟩
end

/-! ### methods of a list that a slot owns -/
def MtdT (Γ : Gam) (X : Cx) (id : String) (g : List O → List T → Option (T × List O)) : Prop :=
  ∃ r : V → List V → Hp → VK → Prop, MtR X id r ∧ ∀ l ts u l' ω F H i a xs ys Q, g l ts = some (u, l') → Sub F H → H a = some (.lst xs) → ω a = some (i, []) → (∀ b o, F b = some o → ω b = none) → OwL Γ ω F H i [] 0 xs l → RpL Γ F ys ts →
    (∀ v xs', OwL Γ ω F (upd H a (.lst xs')) i [] 0 xs' l' → Rp Γ F v u → Q v (upd H a (.lst xs'))) → r (.ref a) ys H Q
def dMtd (i : Nat) (g : List O → List T → Option (T × List O)) (d : DL) : DE := fun τ => match τ[i]? with
  | some (some (.lst _)) => (d τ).bind fun ts τ1 => match τ1[i]? with
    | some (some (.lst l)) => match g l ts with
      | some (u, l') => .ok u (τ1.set i (some (.lst l')))
      | none => .st
    | _ => .st
  | _ => .st
theorem lst_ow {Γ : Gam} {ω : Lab} {F H : Hp} {i : Nat} {r : List Nat} {v : V} {l : List O} (h : Ow Γ ω F H i r v (.lst l)) : ∃ a xs, v = .ref a ∧ ω a = some (i, r) ∧ H a = some (.lst xs) ∧ OwL Γ ω F H i r 0 xs l := by simpa only [Ow] using h
section
variable {X : Cx} {Ψ : Sx} {e o : Expr} {es : List Expr} {pos apos : Pos} {d : DL} {i : Nat} {id : String} {name : Str} {g : List O → List T → Option (T × List O)}
theorem mtd_after {B : Bs} {τ1 : Env} {tm : List (V × O)} {σ : St} {H1 F1 F : Hp} {ω1 : Lab} {Q : VK} {r : V → List V → Hp → VK → Prop} {v : V} {ts : List T} {ys : List V} (hn : i ∉ Ψ.io ∨ True)
    (hr : ∀ l ts u l' ω F H i a xs ys Q, g l ts = some (u, l') → Sub F H → H a = some (.lst xs) → ω a = some (i, []) → (∀ b o, F b = some o → ω b = none) → OwL Ψ.Γ ω F H i [] 0 xs l → RpL Ψ.Γ F ys ts → (∀ v xs', OwL Ψ.Γ ω F (upd H a (.lst xs')) i [] 0 xs' l' → Rp Ψ.Γ F v u → Q v (upd H a (.lst xs'))) → r (.ref a) ys H Q)
    (r1 : Rel Ψ.Γ B τ1 tm σ H1 F1 ω1) (s1 : Sub F F1) (hv : σ[i]? = some (some v)) (p1 : RpL Ψ.Γ F1 ys ts)
    (q : (match τ1[i]? with
      | some (some (.lst l)) => match g l ts with
        | some (u, l') => (.ok u (τ1.set i (some (.lst l'))) : R T)
        | none => .st
      | _ => .st).sat (fun t τ' => ∀ v H' F' ω', Rel Ψ.Γ B τ' tm σ H' F' ω' → Sub F F' → Rp Ψ.Γ F' v t → Q v H') (exP Ψ B σ)) : r v ys H1 Q := by
  split at q
  · rename_i l hl
    split at q
    · rename_i u l' hg
      obtain ⟨v', h1, h2⟩ := r1.slot i _ hl
      rw [hv] at h1
      cases h1
      obtain ⟨a, xs, rfl, ha, hx, ho⟩ := lst_ow h2
      refine hr l ts u l' ω1 F1 H1 i a xs ys Q hg r1.fh hx ha r1.fo ho p1 fun w xs' h3 h4 => ?_
      refine q w _ F1 ω1 (r1.write ha (List.getElem?_eq_some_iff.mp hl).1 (fun v hv' _ => ?_) hl) s1 h4
      rw [hv] at hv'
      cases hv'
      simp only [Ow]
      exact ⟨a, xs', rfl, ha, upd_same, h3⟩
    · exact q.elim
  · exact q.elim
theorem de_mtd (pa : PlainAttrs "list") (slot : Slot "list" name id) (hty : typeOf (.builtin id) = pure (.type "method_descriptor")) (hm : MtdT Ψ.Γ X id g) (hK : X.K = Ψ.Γ.K) (ho : PE X o (tVar i)) (ha : PA X (e :: es) (tA Ψ d))
    (h1 : ∀ {r : V → List V → Hp → VK → Prop} {t : TA}, MtR X id r → PA X (e :: es) t → PE X (.Call (.Attribute o name apos) (e :: es) [] pos) (tBM X.K "list" r (tVar i) t)) : PE X (.Call (.Attribute o name apos) (e :: es) [] pos) (tE Ψ (dMtd i g d)) := by
  obtain ⟨r, hm1, hm2⟩ := hm
  refine PE.imp (h1 hm1 ha) fun σ H Q ⟨B, τ, tm, F, ω, rl, hio, q⟩ => ?_
  unfold dMtd at q
  split at q
  · rename_i l0 hl0
    obtain ⟨v, hv1, hv2⟩ := rl.slot i _ hl0
    rw [R.sat_bind] at q
    obtain ⟨a, xs, rfl, ha, hx, _⟩ := lst_ow hv2
    refine ⟨.ref a, hv1, .inl ⟨rfl, xs, .of hx⟩, B, τ, tm, F, ω, rl, hio, R.sat_mono q (fun ts τ1 q1 ys H1 F1 ω1 r1 s1 p1 => ?_) (fun _ _ _ x => x)⟩
    exact mtd_after (.inr trivial) hm2 r1 s1 hv1 p1 q1
  · exact q.elim
theorem de_mtd0 (pa : PlainAttrs "list") (slot : Slot "list" name id) (hty : typeOf (.builtin id) = pure (.type "method_descriptor")) (hm : MtdT Ψ.Γ X id g) (ho : PE X o (tVar i))
    (h1 : ∀ {r : V → List V → Hp → VK → Prop}, MtR X id r → PE X (.Call (.Attribute o name apos) [] [] pos) (tBM0 X.K "list" r (tVar i))) : PE X (.Call (.Attribute o name apos) [] [] pos) (tE Ψ (dMtd i g dNil)) := by
  obtain ⟨r, hm1, hm2⟩ := hm
  refine PE.imp (h1 hm1) fun σ H Q ⟨B, τ, tm, F, ω, rl, hio, q⟩ => ?_
  unfold dMtd at q
  split at q
  · rename_i l0 hl0
    obtain ⟨v, hv1, hv2⟩ := rl.slot i _ hl0
    obtain ⟨a, xs, rfl, ha, hx, _⟩ := lst_ow hv2
    refine ⟨.ref a, hv1, .inl ⟨rfl, xs, .of hx⟩, ?_⟩
    have p0 : RpL Ψ.Γ F ([] : List V) [] := by simp only [RpL]
    exact mtd_after (ts := []) (.inr trivial) hm2 rl (fun _ _ e => e) hv1 p0 q
  · exact q.elim
def appG : List O → List T → Option (T × List O) := fun l ts => match ts with
  | [t] => if l.length < SZ then some (.non, l ++ [.fz t]) else none
  | _ => none
def extG : List O → List T → Option (T × List O) := fun l ts => match ts with
  | [.lst m] => if l.length + m.length ≤ SZ then some (.non, l ++ m.map .fz) else none
  | _ => none
def popG : List O → List T → Option (T × List O) := fun l ts => match ts with
  | [] => match l.getLast? with
    | some (.fz t) => some (t, l.dropLast)
    | _ => none
  | _ => none
theorem mtd_append : MtdT Ψ.Γ X "list.append" appG := by
  refine ⟨rAppend, mt_append, fun l ts u l' ω F H i a xs ys Q hg sub hx ha fo ho p k => ?_⟩
  unfold appG at hg
  split at hg
  · split at hg
    · rename_i t hl
      cases hg
      obtain ⟨y, rfl, py⟩ := rp1 p
      refine ⟨a, xs, y, rfl, rfl, hx, ?_, k .non _ ?_ rp_non⟩
      · rw [OwL.length _ _ _ _ ho, sizeLine_eq]
        exact hl
      · exact OwL.append (ho.upd ha) (OwL.fz1 py)
    · cases hg
  · cases hg
theorem mtd_extend : MtdT Ψ.Γ X "list.extend" extG := by
  refine ⟨rExtend, mt_extend, fun l ts u l' ω F H i a xs ys Q hg sub hx ha fo ho p k => ?_⟩
  unfold extG at hg
  split at hg
  · split at hg
    · rename_i m hl
      cases hg
      obtain ⟨y, rfl, py⟩ := rp1 p
      simp only [Rp] at py
      obtain ⟨b, zs, rfl, hb, rz⟩ := py
      refine ⟨a, b, xs, zs, rfl, rfl, hx, sub _ _ hb, ?_, k .non _ ?_ rp_non⟩
      · rw [OwL.length _ _ _ _ ho, RpL.length _ _ rz]
        exact szL hl
      · exact OwL.append (ho.upd ha) ((OwL.fz _ _ _ _).mpr rz)
    · cases hg
  · cases hg
theorem mtd_pop : MtdT Ψ.Γ X "list.pop" popG := by
  refine ⟨rPop, mt_pop, fun l ts u l' ω F H i a xs ys Q hg sub hx ha fo ho p k => ?_⟩
  unfold popG at hg
  split at hg
  · split at hg
    · rename_i t hl
      cases hg
      obtain ⟨os, rfl⟩ : ∃ os, l = os ++ [.fz u] := by
        obtain ⟨hne, e⟩ := List.getLast?_eq_some_iff.mp hl
        exact ⟨_, e⟩
      obtain ⟨zs, z, rfl, h1, h2⟩ := OwL.inv_snoc ho
      simp only [Ow] at h2
      simp only [RpL] at p
      subst p
      refine ⟨a, zs ++ [z], z, rfl, rfl, hx, by simp, ?_⟩
      have := k z zs (by rw [List.dropLast_concat]; exact h1.upd ha) h2
      rw [List.dropLast_concat]
      exact this
    · cases hg
  · cases hg
theorem de_append (hK : X.K = Ψ.Γ.K) (ho : PE X o (tVar i)) (ha : PA X (e :: es) (tA Ψ d))
    (h1 : ∀ {r : V → List V → Hp → VK → Prop} {t : TA}, MtR X "list.append" r → PA X (e :: es) t → PE X (.Call (.Attribute o "append" apos) (e :: es) [] pos) (tBM X.K "list" r (tVar i) t)) : PE X (.Call (.Attribute o "append" apos) (e :: es) [] pos) (tE Ψ (dMtd i appG d)) :=
  de_mtd PySem.F.plainAttrs_list PySem.F.slot_list_append PySem.F.type_list_append mtd_append hK ho ha h1
theorem de_extend (hK : X.K = Ψ.Γ.K) (ho : PE X o (tVar i)) (ha : PA X (e :: es) (tA Ψ d))
    (h1 : ∀ {r : V → List V → Hp → VK → Prop} {t : TA}, MtR X "list.extend" r → PA X (e :: es) t → PE X (.Call (.Attribute o "extend" apos) (e :: es) [] pos) (tBM X.K "list" r (tVar i) t)) : PE X (.Call (.Attribute o "extend" apos) (e :: es) [] pos) (tE Ψ (dMtd i extG d)) :=
  de_mtd PySem.F.plainAttrs_list PySem.F.slot_list_extend PySem.F.type_list_extend mtd_extend hK ho ha h1
theorem de_pop (ho : PE X o (tVar i))
    (h1 : ∀ {r : V → List V → Hp → VK → Prop}, MtR X "list.pop" r → PE X (.Call (.Attribute o "pop" apos) [] [] pos) (tBM0 X.K "list" r (tVar i))) : PE X (.Call (.Attribute o "pop" apos) [] [] pos) (tE Ψ (dMtd i popG dNil)) :=
  de_mtd0 PySem.F.plainAttrs_list PySem.F.slot_list_pop PySem.F.type_list_pop mtd_pop ho h1

/-! ### x[k] = v: a list's place, a dict's key; the thing put there is frozen, or owned under a new key -/
def putV {κ α : Type} [DecidableEq κ] : List κ → List α → κ → α → List α
  | k :: ks, v :: vs, j, x => (if k = j then x else v) :: putV ks vs j x
  | _, vs, _, _ => vs
def hasA {κ : Type} [DecidableEq κ] (ks : List κ) (k : κ) : Bool := ks.any fun j => decide (j = k)
def putLO : O → T → O → Option O
  | .lst l, .int j, .fz t => (ixN l.length j).map fun n => .lst (l.set n (.fz t))
  | _, _, _ => none
def putDO : O → T → O → Option O
  | .dic ks vs, t, o => (keyT t).bind fun k => if ks.length < SZ then (if hasA ks k then match o with
      | .fz u => some (.dic ks (putV ks vs k (.fz u)))
      | _ => none else some (.dic (ks ++ [k]) (vs ++ [o]))) else none
  | .dct ks vs, .tup l, .fz u => (keysT l).bind fun k => if ks.length < SZ then (if hasA ks k then some (.dct ks (putV ks vs k (.fz u))) else some (.dct (ks ++ [k]) (vs ++ [.fz u]))) else none
  | _, _, _ => none
def dSetIx (f : O → T → O → Option O) (i : Nat) (dk : DE) (dv : DO) : DS := fun τ => (dv τ).bind fun o τ1 => match τ1[i]? with
  | some (some _) => (dk τ1).bind fun k τ2 => match τ2[i]? with
    | some (some c) => match f c k o with
      | some c' => .ok .nx (τ2.set i (some c'))
      | none => .st
    | _ => .st
  | _ => .st
theorem putK_zip {κ μ : Type} [DecidableEq κ] [DecidableEq μ] (f : κ → μ) (hf : ∀ a b, f a = f b → a = b) (k : κ) (y : V) : ∀ (ks : List κ) (xs : List V), xs.length = ks.length →
    putK ((ks.map f).zip xs) (f k) y = if hasA ks k then (ks.map f).zip (putV ks xs k y) else ((ks ++ [k]).map f).zip (xs ++ [y]) := by
  intro ks xs hl
  have hany : ∀ (ks : List κ) (xs : List V), xs.length = ks.length → (((ks.map f).zip xs).any fun kv => decide (kv.1 = f k)) = hasA ks k := by
    intro ks
    induction ks with
    | nil => intro xs _; simp [hasA]
    | cons j ks ih =>
      intro xs hl
      cases xs with
      | nil => simp at hl
      | cons x xs =>
        rw [List.map_cons, List.zip_cons_cons, List.any_cons, ih xs (by simpa using hl)]
        unfold hasA
        rw [List.any_cons]
        by_cases e : j = k
        · subst e; simp
        · have e2 : ¬ f j = f k := fun z => e (hf _ _ z)
          simp [e2, e]
  have hmap : ∀ (ks : List κ) (xs : List V), xs.length = ks.length → (((ks.map f).zip xs).map fun kv => if kv.1 = f k then (kv.1, y) else kv) = (ks.map f).zip (putV ks xs k y) := by
    intro ks
    induction ks with
    | nil => intro xs _; simp
    | cons j ks ih =>
      intro xs hl
      cases xs with
      | nil => simp at hl
      | cons x xs =>
        simp only [List.map_cons, List.zip_cons_cons, putV]
        rw [ih xs (by simpa using hl)]
        by_cases e : j = k
        · subst e; simp
        · have e2 : ¬ f j = f k := fun z => e (hf _ _ z)
          simp [e, e2]
  unfold putK
  rw [hany ks xs hl]
  cases hk : hasA ks k with
  | true => simp [hmap ks xs hl]
  | false =>
    simp only [Bool.false_eq_true, if_false]
    rw [List.map_append, List.zip_append (by simpa using hl.symm)]
    rfl
end
end TL
set_option Elab.async false
set_option linter.all false
set_option maxRecDepth 100000
set_option maxHeartbeats 0
/-! TL12: x[k] = v, x[k] op= v, over trees. -/
namespace TL
open PySem PySem.Spec L2

theorem PS.or2 {X : Cx} {e : Stmt} {t t' : TS} (h : PS X e t) (h' : PS X e t') : PS X e (fun D σ H => t D σ H ∨ t' D σ H) := ⟨fun pins s σ H D I q => q.elim (h.run pins s σ H D I) (h'.run pins s σ H D I)⟩
section
variable {Γ : Gam} {B : Bs} {τ : Env} {tm : List (V × O)} {σ : St} {H F H' F' : Hp} {ω : Lab} {i : Nat} {v : V} {t : T} {o c c' : O}
/-- .. with the last temporary moved below the root -/
theorem Rel.writeT {a : Addr} {ob : HO} {s p : List Nat} (r : Rel Γ B τ (tm ++ [(v, o)]) σ H F ω) (ha : ω a = some (i, s)) (hi : i < τ.length)
    (ho : ∀ w, σ[i]? = some (some w) → Ow Γ ω F H i [] w c → Ow Γ ω F H (TB + tm.length) [] v o → Ow Γ (mv ω (TB + tm.length) i p) F (upd H a ob) i [] w c') (h0 : τ[i]? = some (some c)) : Rel Γ B (τ.set i (some c')) tm σ (upd H a ob) F (mv ω (TB + tm.length) i p) := by
  have hTB := r.lt
  have keep : ∀ {k : Nat} {v : V} {o : O}, k ≠ i → k ≠ TB + tm.length → Ow Γ ω F H k [] v o → Ow Γ (mv ω (TB + tm.length) i p) F (upd H a ob) k [] v o := fun {k v o} hk hk2 h =>
    Ow.move (fun _ _ e => e) o [] [] v (fun b q z => ⟨mv_ne z hk2, upd_ne (fun y => by
      subst y
      rw [ha] at z
      cases z
      exact hk rfl)⟩) h
  have nf : ∀ b u, F b = some u → b ≠ a := fun b u e y => by
    subst y
    rw [r.fo b u e] at ha
    cases ha
  have ng : ∀ b u, B.G b = some u → b ≠ a := fun b u e y => by
    subst y
    rw [r.go b u e] at ha
    cases ha
  refine r.relab (by simpa using r.len) (by simpa using r.lt) (fun b o e => ?_) (fun _ _ e => e) (fun b o e => ?_) (fun b o e => mv_none.mpr (r.fo b o e)) (fun b q e => ?_) (fun b o e => ?_) (fun b o e => mv_none.mpr (r.go b o e)) (fun _ _ _ _ e => e) (fun j o' e => ?_) (fun j v' o' e => ?_) r.io
  · rw [upd_ne (nf b o e)]
    exact r.fh b o e
  · rw [upd_ne (nf b o e)]
    exact r.fh b o e
  · obtain ⟨q', hq'⟩ := mv_some e
    by_cases hb : b = a
    · subst hb
      exact ⟨_, upd_same⟩
    · rw [upd_ne hb]
      exact r.oh b q' hq'
  · rw [upd_ne (ng b o e)]
    exact r.gh b o e
  · by_cases hj : j = i
    · subst hj
      rw [List.getElem?_set_self hi] at e
      cases e
      obtain ⟨v, h1, h2⟩ := r.slot j c h0
      exact ⟨v, h1, ho v h1 h2 r.lastT⟩
    · rw [List.getElem?_set_ne (Ne.symm hj)] at e
      obtain ⟨v, h1, h2⟩ := r.slot j o' e
      have := (List.getElem?_eq_some_iff.mp e).1
      exact ⟨v, h1, keep hj (by omega) h2⟩
  · have hlt := (List.getElem?_eq_some_iff.mp e).1
    exact keep (by omega) (by omega) (r.tmp j v' o' (by rw [List.getElem?_append_left hlt]; exact e))
theorem OwL.putV {κ : Type} [DecidableEq κ] {r : List Nat} {k : κ} (hv : Rp Γ F v t) : ∀ {ks : List κ} {os : List O} {j : Nat} {xs : List V}, OwL Γ ω F H i r j xs os → OwL Γ ω F H i r j (TL.putV ks xs k v) (TL.putV ks os k (.fz t))
  | [], os, j, xs, h => by simpa only [TL.putV] using h
  | q :: ks, [], j, xs, h => by
    simp only [OwL] at h
    subst h
    simp [TL.putV, OwL]
  | q :: ks, o :: os, j, xs, h => by
    simp only [OwL] at h
    obtain ⟨x, s, rfl, p, w⟩ := h
    simp only [TL.putV, OwL]
    refine ⟨_, _, rfl, ?_, OwL.putV hv w⟩
    by_cases e : q = k
    · rw [if_pos e, if_pos e]
      simp only [Ow]
      exact hv
    · rw [if_neg e, if_neg e]
      exact p
theorem putV_length {κ α : Type} [DecidableEq κ] {k : κ} {x : α} : ∀ {ks : List κ} {xs : List α}, (TL.putV ks xs k x).length = xs.length
  | [], xs => by simp [TL.putV]
  | q :: ks, [] => by simp [TL.putV]
  | q :: ks, y :: xs => by simp [TL.putV, putV_length (ks := ks) (xs := xs)]
theorem fz_ow {r : List Nat} (h : Ow Γ ω F H i r v (.fz t)) : Rp Γ F v t := by simpa only [Ow] using h
theorem dic_ow {r : List Nat} {ks : List K1} {vs : List O} (h : Ow Γ ω F H i r v (.dic ks vs)) : ∃ a xs, v = .ref a ∧ ω a = some (i, r) ∧ H a = some (dKof ks xs) ∧ xs.length = ks.length ∧ OwL Γ ω F H i r 0 xs vs := by simpa only [Ow] using h
theorem dct_ow {r : List Nat} {ks : List (List K1)} {vs : List O} (h : Ow Γ ω F H i r v (.dct ks vs)) : ∃ a xs, v = .ref a ∧ ω a = some (i, r) ∧ H a = some (dTof ks xs) ∧ xs.length = ks.length ∧ OwL Γ ω F H i r 0 xs vs := by simpa only [Ow] using h
/-- a frozen thing is put -/
theorem put_lst {l : List O} {a : Addr} {xs : List V} {n : Nat} (r : Rel Γ B τ tm σ H F ω) (h0 : τ[i]? = some (some (.lst l))) (hs : σ[i]? = some (some (.ref a))) (hx : H a = some (.lst xs)) (ha : ω a = some (i, [])) (ho : OwL Γ ω F H i [] 0 xs l) (hv : Rp Γ F v t) :
    Rel Γ B (τ.set i (some (.lst (l.set n (.fz t))))) tm σ (upd H a (.lst (xs.set n v))) F ω := by
  refine r.write ha (List.getElem?_eq_some_iff.mp h0).1 (fun w hw _ => ?_) h0
  rw [hs] at hw
  cases hw
  simp only [Ow]
  refine ⟨a, _, rfl, ha, upd_same, OwL.put n (fun _ _ e => e) (fun b q m _ z => ⟨z, rfl⟩) (ho.upd ha) (by simp only [Ow]; exact hv)⟩
end
section
variable {X : Cx} {Ψ : Sx} {e x ix : Expr} {pos pos' : Pos} {i : Nat} {dk : DE} {dv : DO}
theorem ds_setD (hu : X.A.units + 1 < cLine) (hx : PE X x (tVar i)) (hk : PE X ix (tE Ψ dk)) (he : PE X e (tO Ψ dv)) (hs : swapsWith e (some (.Subscript x ix pos')) pos.line X.env = pure false := by rfl) : PS X (.Assign [.Subscript x ix pos'] e pos) (tS Ψ (dSetIx putDO i dk dv)) := by
  refine PS.imp (ps_dput hu hx hk he hs) fun D σ H ⟨B, τ, tm, F, ω, r, hio, q⟩ => ?_
  unfold dSetIx at q
  rw [R.sat_bind] at q
  refine ⟨B, τ, tm, F, ω, r, hio, R.sat_mono q (fun o τ1 q1 v H1 F1 ω1 r1 s1 => ?_) (fun _ _ _ x => x.exP)⟩
  split at q1
  case h_2 => exact q1.elim
  rename_i c0 hc0
  rw [R.sat_bind] at q1
  obtain ⟨v0, hv0, _⟩ := r1.slot i c0 hc0
  refine ⟨v0, hv0, B, τ1, _, F1, ω1, r1, hio, R.sat_mono q1 (fun k τ2 q2 w H2 F2 ω2 r2 s2 p2 => ?_) (fun _ _ _ x => x.exP)⟩
  split at q2
  · rename_i c hc
    split at q2
    · rename_i c' hp
      have hlt := (List.getElem?_eq_some_iff.mp hc).1
      cases c with
      | fz _ => simp [putDO] at hp
      | lst _ => simp [putDO] at hp
      | obj _ _ => simp [putDO] at hp
      | dic ks vs =>
        simp only [putDO] at hp
        cases hkey : keyT k with
        | none => rw [hkey] at hp; cases hp
        | some kk =>
          rw [hkey] at hp
          simp only [Option.bind_some] at hp
          obtain ⟨v1, g1, g2⟩ := r2.slot i _ hc
          rw [hv0] at g1
          cases g1
          obtain ⟨a, xs, rfl, ha, hx, hlen, ho⟩ := dic_ow g2
          split at hp
          · rename_i hsz
            have hput : DPut H2 a w v (upd H2 a (.dK (putK ((ks.map kK).zip xs) (kK kk) v))) := .inl ⟨_, kK kk, hx, key_rp hkey p2, by rw [List.length_zip, List.length_map, hlen, Nat.min_self, sizeLine_eq]; exact hsz, rfl⟩
            refine ⟨a, _, rfl, hput, ?_⟩
            rw [putK_zip kK (fun _ _ => kK_inj) kk v ks xs hlen]
            cases hh : hasA ks kk with
            | true =>
              rw [hh] at hp
              simp only [if_true] at hp ⊢
              split at hp
              · rename_i u
                cases hp
                have r3 := r2.dropT
                refine q2 σ _ F2 ω2 (r3.write ha hlt (fun w' hw' _ => ?_) hc)
                rw [hv0] at hw'
                cases hw'
                simp only [Ow]
                exact ⟨a, _, rfl, ha, upd_same, by rw [putV_length]; exact hlen, OwL.putV (fz_ow r2.lastT) (ho.upd ha)⟩
              · cases hp
            | false =>
              rw [hh] at hp
              simp only [Bool.false_eq_true, if_false] at hp ⊢
              cases hp
              refine q2 σ _ F2 _ (r2.writeT (p := [vs.length]) ha hlt (fun w' hw' g3 g4 => ?_) hc)
              rw [hv0] at hw'
              cases hw'
              have hTB := r2.lt
              have ha' : mv ω2 (TB + tm.length) i [vs.length] a = some (i, []) := mv_ne ha (by omega)
              simp only [Ow]
              refine ⟨a, _, rfl, ha', upd_same, by simp [hlen], OwL.append ?_ ?_⟩
              · have := ho.upd (ob := .dK (((ks ++ [kk]).map kK).zip (xs ++ [v]))) ha
                exact OwL.put.OwL.put_rest (fun _ _ e => e) (fun b q m _ z => ⟨mv_ne z (by omega), rfl⟩) this
              · simp only [OwL]
                refine ⟨v, [], rfl, ?_, rfl⟩
                refine Ow.move (fun _ _ e => e) o [] [0 + vs.length] v (fun b q z => ⟨?_, upd_ne fun y => ?_⟩) g4
                · have := mv_at (i' := i) (s := [vs.length]) z
                  simpa using this
                · subst y
                  rw [ha] at z
                  have : i = TB + tm.length := (Prod.mk.inj (Option.some.inj z)).1
                  omega
          · cases hp
      | dct ks vs =>
        obtain ⟨l, rfl⟩ : ∃ l, k = .tup l := by
          cases k <;> first | exact ⟨_, rfl⟩ | simp [putDO] at hp
        obtain ⟨u, rfl⟩ : ∃ u, o = .fz u := by
          cases o <;> first | exact ⟨_, rfl⟩ | simp [putDO] at hp
        simp only [putDO] at hp
        cases hkey : keysT l with
        | none => rw [hkey] at hp; cases hp
        | some kk =>
          rw [hkey] at hp
          simp only [Option.bind_some] at hp
          obtain ⟨v1, g1, g2⟩ := r2.slot i _ hc
          rw [hv0] at g1
          cases g1
          obtain ⟨a, xs, rfl, ha, hx, hlen, ho⟩ := dct_ow g2
          split at hp
          · rename_i hsz
            simp only [Rp] at p2
            obtain ⟨b, ys, rfl, hb, rb⟩ := p2
            have hput : DPut H2 a (.ref b) v (upd H2 a (.dT (putK ((ks.map (·.map kK)).zip xs) (kk.map kK) v))) := .inr ⟨_, kk.map kK, b, hx, rfl, by rw [r2.fh _ _ hb, keys_rp hkey rb], by rw [List.length_zip, List.length_map, hlen, Nat.min_self, sizeLine_eq]; exact hsz, rfl⟩
            refine ⟨a, _, rfl, hput, ?_⟩
            have r3 := r2.dropT
            have hvr := fz_ow r2.lastT
            rw [putK_zip (fun z : List K1 => z.map kK) (fun _ _ => kKs_inj) kk v ks xs hlen]
            cases hh : hasA ks kk with
            | true =>
              rw [hh] at hp
              simp only [if_true] at hp ⊢
              cases hp
              refine q2 σ _ F2 ω2 (r3.write ha hlt (fun w' hw' _ => ?_) hc)
              rw [hv0] at hw'
              cases hw'
              simp only [Ow]
              exact ⟨a, _, rfl, ha, upd_same, by rw [putV_length]; exact hlen, OwL.putV hvr (ho.upd ha)⟩
            | false =>
              rw [hh] at hp
              simp only [Bool.false_eq_true, if_false] at hp ⊢
              cases hp
              refine q2 σ _ F2 ω2 (r3.write ha hlt (fun w' hw' _ => ?_) hc)
              rw [hv0] at hw'
              cases hw'
              simp only [Ow]
              exact ⟨a, _, rfl, ha, upd_same, by simp [hlen], OwL.append (ho.upd ha) (OwL.fz1 hvr)⟩
          · cases hp
    · exact q2.elim
  · exact q2.elim
theorem ds_setL (hx : PE X x (tVar i)) (hk : PE X ix (tE Ψ dk)) (he : PE X e (tO Ψ dv))
    (h1 : ∀ {te ti : TE}, PE X e te → PE X ix ti → PS X (.Assign [.Subscript x ix pos'] e pos) (tAsg te (gSub (tVar i) ti rSetL))) : PS X (.Assign [.Subscript x ix pos'] e pos) (tS Ψ (dSetIx putLO i dk dv)) := by
  refine PS.imp (h1 he hk) fun D σ H ⟨B, τ, tm, F, ω, r, hio, q⟩ => ?_
  unfold dSetIx at q
  rw [R.sat_bind] at q
  refine ⟨B, τ, tm, F, ω, r, hio, R.sat_mono q (fun o τ1 q1 v H1 F1 ω1 r1 s1 => ?_) (fun _ _ _ x => x.exP)⟩
  split at q1
  case h_2 => exact q1.elim
  rename_i c0 hc0
  rw [R.sat_bind] at q1
  obtain ⟨v0, hv0, _⟩ := r1.slot i c0 hc0
  refine ⟨v0, hv0, B, τ1, _, F1, ω1, r1, hio, R.sat_mono q1 (fun k τ2 q2 w H2 F2 ω2 r2 s2 p2 => ?_) (fun _ _ _ x => x.exP)⟩
  split at q2
  · rename_i c hc
    split at q2
    · rename_i c' hp
      unfold putLO at hp
      split at hp
      · rename_i l j t
        obtain ⟨v1, g1, g2⟩ := r2.slot i _ hc
        rw [hv0] at g1
        cases g1
        obtain ⟨a, xs, rfl, ha, hx, ho⟩ := lst_ow g2
        cases hj : ixN l.length j with
        | none => rw [hj] at hp; cases hp
        | some n =>
          rw [hj] at hp
          cases hp
          simp only [Rp] at p2
          refine ⟨a, xs, j, n, rfl, p2, hx, by rw [OwL.length _ _ _ _ ho]; exact hj, ?_⟩
          exact q2 σ _ F2 ω2 (put_lst r2.dropT hc hv0 hx ha ho (fz_ow r2.lastT))
      · cases hp
    · exact q2.elim
  · exact q2.elim
/-! ### x[k] op= e of a list -/
theorem getItemL : PGet X (rIxL X.K) := by
  intro pins s σ H o i ov iv Q I ro ri h
  obtain ⟨p, xs, k, v, rfl, rfl, hq, he, q⟩ := h
  obtain rfl : ov = Value.ref p := ro
  obtain ⟨t, rfl⟩ := ri
  obtain ⟨its, r, pl, hz⟩ := I.list hq
  obtain ⟨j, h1, h2, h3, h4, h5⟩ := atI_get he
  obtain ⟨w, ew, rw'⟩ := r.get h2
  have hl := r.length
  have hn := line63
  have fin : EP X pins σ Q w s := ⟨v, H, I, rw', q⟩
  by_cases h0 : 0 ≤ k
  · have hj : k.toNat = j := by
      rw [seqIndex_of h0 h5] at h1
      exact Option.some.inj h1
    exact wpAny_getItem_list pl.isList h0 (by omega) (by rw [hj]; simpa using ew) fin
  · have hj : (k + (its.toArray.size : Int)).toNat = j := by
      rw [seqIndex_neg (by omega) h4] at h1
      rw [List.size_toArray, ← hl]
      exact Option.some.inj h1
    exact wpAny_getItem_list_neg pl.isList (by omega) (by rw [List.size_toArray] <;> omega) (by omega) (by rw [hj]; simpa using ew) fin
def dAugIx (g : T → T → Option T) (i : Nat) (dk : DE) (de : DE) : DS := fun τ => match τ[i]? with
  | some (some (.lst _)) => (dk τ).bind fun k τ1 => match τ1[i]? with
    | some (some (.lst l)) => match k with
      | .int j => match atI l j with
        | some (.fz s) => (de τ1).bind fun t τ2 => match g s t with
          | some u => match τ2[i]? with
            | some (some (.lst l2)) => match ixN l2.length j with
              | some n => .ok .nx (τ2.set i (some (.lst (l2.set n (.fz u)))))
              | none => .st
            | _ => .st
          | none => .st
        | _ => .st
      | _ => .st
    | _ => .st
  | _ => .st
theorem OwL.atI {Γ : Gam} {F H : Hp} {ω : Lab} {r : List Nat} {l : List O} {xs : List V} {j : Int} {s : T} (h : OwL Γ ω F H i r 0 xs l) (e : L2.atI l j = some (.fz s)) : ∃ v, L2.atI xs j = some v ∧ Rp Γ F v s := by
  unfold L2.atI at e ⊢
  rw [OwL.length _ _ _ _ h]
  cases z : ixN l.length j with
  | none => rw [z] at e; cases e
  | some n =>
    rw [z] at e
    obtain ⟨v, h1, h2⟩ := OwL.get h e
    exact ⟨v, h1, fz_ow h2⟩
theorem ds_augL {op : Operator} {g : T → T → Option T} {de : DE} (ho : IpT Ψ.Γ X op g) (hx : PE X x (tVar i)) (hk : PE X ix (tE Ψ dk)) (he : PE X e (tE Ψ de))
    (ha : ∀ ov iv new, augStore ix ov iv new = (do holding [new, ov, iv] (setItem ov iv new); release [new, ov, iv] []; pure .next) := by intros; rfl) : PS X (.AugAssign (.Subscript x ix pos') op e pos) (tS Ψ (dAugIx g i dk de)) := by
  obtain ⟨ti, ho1, ho2⟩ := ho
  refine PS.imp (ps_augS hx hk getItemL he ho1 set_list ha) fun D σ H ⟨B, τ, tm, F, ω, r, hio, q⟩ => ?_
  unfold dAugIx at q
  split at q
  case h_2 => exact q.elim
  rename_i l0 hl0
  obtain ⟨v0, hv0, _⟩ := r.slot i _ hl0
  rw [R.sat_bind] at q
  refine ⟨v0, hv0, B, τ, tm, F, ω, r, hio, R.sat_mono q (fun k τ1 q1 w H1 F1 ω1 r1 s1 p1 => ?_) (fun _ _ _ x => x.exP)⟩
  split at q1
  case h_2 => exact q1.elim
  rename_i l hl
  split at q1
  case h_2 => exact q1.elim
  rename_i j
  split at q1
  case h_2 => exact q1.elim
  rename_i s hs
  rw [R.sat_bind] at q1
  obtain ⟨v1, g1, g2⟩ := r1.slot i _ hl
  rw [hv0] at g1
  cases g1
  obtain ⟨a, xs, rfl, hla, hxa, hoa⟩ := lst_ow g2
  obtain ⟨z, hz1, hz2⟩ := hoa.atI hs
  simp only [Rp] at p1
  refine ⟨a, xs, j, z, rfl, p1, .of hxa, hz1, B, τ1, tm, F1, ω1, r1, hio, R.sat_mono q1 (fun t τ2 q2 y H2 F2 ω2 r2 s2 p2 => ?_) (fun _ _ _ x => x.exP)⟩
  split at q2
  case h_2 => exact q2.elim
  rename_i u hu
  split at q2
  case h_2 => exact q2.elim
  rename_i l2 hl2
  split at q2
  case h_2 => exact q2.elim
  rename_i n hn
  refine ho2 s t u H2 F2 z y _ hu r2.fh (Rp.mono s2 s z hz2) p2 fun w2 H3 F3 gr p3 => ?_
  have r3 := r2.grow gr
  obtain ⟨v2, k1, k2⟩ := r3.slot i _ hl2
  rw [hv0] at k1
  cases k1
  obtain ⟨a2, xs2, ea, hla2, hxa2, hoa2⟩ := lst_ow k2
  cases ea
  refine ⟨a, xs2, j, n, rfl, p1, hxa2, by rw [OwL.length _ _ _ _ hoa2]; exact hn, ?_⟩
  exact q2 σ _ F3 ω2 (put_lst r3 hl2 hv0 hxa2 hla2 hoa2 p3)
end
end TL
set_option Elab.async false
set_option linter.all false
set_option maxRecDepth 100000
set_option maxHeartbeats 0
/-! TL13: the built-ins over trees. -/
namespace TL
open PySem PySem.Spec L2

theorem CallT.or {Γ : Gam} {X : Cx} {f : Value} {r r' : List V → Hp → VK → Prop} {g : List T → Option T} (h : CallR X f r) (h' : CallR X f r')
    (q : ∀ ts u H F xs Q, g ts = some u → Sub F H → RpL Γ F xs ts → Nw Γ H F u Q → r xs H Q ∨ r' xs H Q) : CallT Γ X f g := ⟨fun xs H Q => r xs H Q ∨ r' xs H Q, h.or h', q⟩
section
variable {X : Cx} {Γ : Gam}
def lenT : List T → Option T
  | [.str s] => if s.length ≤ SZ then some (.int s.length) else none
  | [.lst l] => some (.int l.length)
  | [.tup l] => some (.int l.length)
  | [.ktp l] => some (.int l.length)
  | [.scr l] => some (.int l.length)
  | [.dic ks _] => some (.int ks.length)
  | _ => none
theorem Rd.lenD {H : Hp} {a : Addr} {kvs : List (Key × V)} (h : Rd H a (.dK kvs)) : True := trivial
theorem call_lenRd : CallR X (.builtin "len") (fun xs H Q => ∃ a kvs, xs = [V.ref a] ∧ Rd H a (.dK kvs) ∧ Q (.int kvs.length) H) := by
  intro pins s σ H xs us Q I r h
  obtain ⟨a, kvs, rfl, e, q⟩ := h
  obtain ⟨u, rfl, ru⟩ := vals1 r
  obtain rfl : u = Value.ref a := ru
  exact d_len I e fun t s' I' => ⟨.int _, H, I', ⟨_, rfl⟩, q⟩
theorem callT_len (hK : X.K = Γ.K) : CallT Γ X (.builtin "len") lenT := by
  refine CallT.or call_len call_lenRd fun ts u H F xs Q h sub r n => ?_
  unfold lenT at h
  split at h
  · split at h
    · rename_i s hl
      cases h
      obtain ⟨x, rfl, rx⟩ := rp1 r
      simp only [Rp] at rx
      subst rx
      exact .inl ⟨_, s.length, rfl, ⟨by rw [mkStr_length]; exact szL hl, (mkStr_length s).symm⟩, n.same sub rp_int⟩
    · cases h
  · cases h
    obtain ⟨x, rfl, rx⟩ := rp1 r
    simp only [Rp] at rx
    obtain ⟨a, ys, rfl, ha, ra⟩ := rx
    exact .inl ⟨_, _, rfl, .inl ⟨ys, .of (sub _ _ ha), (RpL.length _ _ ra).symm⟩, n.same sub rp_int⟩
  · cases h
    obtain ⟨x, rfl, rx⟩ := rp1 r
    simp only [Rp] at rx
    obtain ⟨a, ys, rfl, ha, ra⟩ := rx
    exact .inl ⟨_, _, rfl, .inr ⟨ys, .of (sub _ _ ha), (RpL.length _ _ ra).symm⟩, n.same sub rp_int⟩
  · cases h
    obtain ⟨x, rfl, rx⟩ := rp1 r
    simp only [Rp] at rx
    obtain ⟨a, ys, rfl, ha, ra⟩ := rx
    exact .inl ⟨_, _, rfl, .inr ⟨ys, by rw [hK]; exact sub.sqT ha, (RpL.length _ _ ra).symm⟩, n.same sub rp_int⟩
  · cases h
    obtain ⟨x, rfl, rx⟩ := rp1 r
    simp only [Rp] at rx
    obtain ⟨a, rfl, ha⟩ := rx
    exact .inl ⟨_, _, rfl, .inl ⟨_, by rw [hK]; exact sub.sqL ha, by simp⟩, n.same sub rp_int⟩
  · cases h
    obtain ⟨x, rfl, rx⟩ := rp1 r
    simp only [Rp] at rx
    obtain ⟨a, ys, rfl, ⟨od, ha⟩, hl, ra⟩ := rx
    refine .inr ⟨a, _, rfl, sub.rd (.inr ⟨od, ha⟩), ?_⟩
    rw [List.length_zip, List.length_map, hl, Nat.min_self]
    exact n.same sub rp_int
  · cases h
def intT : List T → Option T
  | [.int i] => some (.int i)
  | [.bl b] => some (.int (if b then 1 else 0))
  | _ => none
theorem callT_int : CallT Γ X (.type "int") intT := by
  refine ⟨_, call_int1, fun ts u H F xs Q h sub r n => ?_⟩
  unfold intT at h
  split at h
  · cases h
    obtain ⟨x, rfl, rx⟩ := rp1 r
    simp only [Rp] at rx
    exact .inl ⟨_, by rw [rx], n.same sub rp_int⟩
  · cases h
    obtain ⟨x, rfl, rx⟩ := rp1 r
    simp only [Rp] at rx
    exact .inr ⟨_, by rw [rx], n.same sub rp_int⟩
  · cases h
/-- str of a text, of an int -/
def strI (i : Int) : Cs := (toString i : String).toList.map Char.toNat
def strT : List T → Option T
  | [.str s] => some (.str s)
  | [.int i] => if i.natAbs < 2 ^ 1000 then some (.str (strI i)) else none
  | _ => none
theorem ofString_mk (s : String) : (Str.ofString s) = mkStr (s.toList.map Char.toNat) := Str.ofString_eq_toList s
theorem callT_str : CallT Γ X (.type "str") strT := by
  refine CallT.or SkE.call_str_str call_str_int fun ts u H F xs Q h sub r n => ?_
  unfold strT at h
  split at h
  · cases h
    obtain ⟨x, rfl, rx⟩ := rp1 r
    simp only [Rp] at rx
    exact .inl ⟨_, by rw [rx], n.same sub rp_str⟩
  · split at h
    · rename_i i hi
      cases h
      obtain ⟨x, rfl, rx⟩ := rp1 r
      simp only [Rp] at rx
      refine .inr ⟨i, by rw [rx], ?_, ?_⟩
      · have := PySem.Flt.log2_lt_of (n := i.natAbs) (k := 1000) (by decide) hi
        omega
      · have e : ((toString i : String) : Str) = mkStr (strI i) := ofString_mk _
        rw [e]
        exact n.same sub rp_str
    · cases h
  · cases h
/-- tuple, list of a list, a tuple, the script -/
def seqOf : T → Option (List T)
  | .lst l => some l
  | .tup l => some l
  | .ktp l => some l
  | .scr ns => some (ns.map .int)
  | _ => none
def tupT : List T → Option T
  | [.lst l] => some (.tup l)
  | [.tup l] => some (.tup l)
  | _ => none
def listN : List T → Option (List T)
  | [t] => seqOf t
  | _ => none
theorem seq_road (hK : X.K = Γ.K) {t : T} {l : List T} {H F : Hp} {x : V} (sub : Sub F H) (h : seqOf t = some l) (r : Rp Γ F x t) : ∃ a ys, x = .ref a ∧ (SqL X.K H a ys ∨ SqT X.K H a ys) ∧ RpL Γ F ys l := by
  unfold seqOf at h
  split at h
  · cases h
    simp only [Rp] at r
    obtain ⟨a, ys, rfl, ha, ra⟩ := r
    exact ⟨a, ys, rfl, .inl (.of (sub _ _ ha)), ra⟩
  · cases h
    simp only [Rp] at r
    obtain ⟨a, ys, rfl, ha, ra⟩ := r
    exact ⟨a, ys, rfl, .inr (.of (sub _ _ ha)), ra⟩
  · cases h
    simp only [Rp] at r
    obtain ⟨a, ys, rfl, ha, ra⟩ := r
    exact ⟨a, ys, rfl, .inr (by rw [hK]; exact sub.sqT ha), ra⟩
  · cases h
    simp only [Rp] at r
    obtain ⟨a, rfl, ha⟩ := r
    exact ⟨a, _, rfl, .inl (by rw [hK]; exact sub.sqL ha), ints_rp _⟩
  · cases h
theorem callN_list (hK : X.K = Γ.K) : CallN Γ X (.type "list") listN := by
  refine ⟨_, call_list_of, fun ts us H F xs Q h sub r n => ?_⟩
  unfold listN at h
  split at h
  · obtain ⟨x, rfl, rx⟩ := rp1 r
    obtain ⟨a, ys, rfl, h1, h2⟩ := seq_road hK sub h rx
    exact ⟨a, ys, rfl, h1, fun l hl => n l ys hl h2⟩
  · cases h
theorem callT_tuple : CallT Γ X (.type "tuple") tupT := by
  refine ⟨_, call_tuple_of, fun ts u H F xs Q h sub r n => ?_⟩
  unfold tupT at h
  split at h
  · cases h
    obtain ⟨x, rfl, rx⟩ := rp1 r
    simp only [Rp] at rx
    obtain ⟨a, ys, rfl, ha, ra⟩ := rx
    exact ⟨a, ys, rfl, .inl ⟨.of (sub _ _ ha), fun l hl => n.new sub hl (newTup_rp ra sub hl)⟩⟩
  · cases h
    obtain ⟨x, rfl, rx⟩ := rp1 r
    have rx' := rx
    simp only [Rp] at rx
    obtain ⟨a, ys, rfl, ha, ra⟩ := rx
    exact ⟨a, ys, rfl, .inr ⟨.of (sub _ _ ha), n.same sub rx'⟩⟩
  · cases h
/-- ints, bools of a list -/
def intsT : List T → Option (List Int)
  | [] => some []
  | .int i :: r => (intsT r).map fun l => i :: l
  | _ :: _ => none
def blsT : List T → Option (List Bool)
  | [] => some []
  | .bl i :: r => (blsT r).map fun l => i :: l
  | _ :: _ => none
theorem intsT_rp {F : Hp} : ∀ {l : List T} {ns : List Int} {xs : List V}, intsT l = some ns → RpL Γ F xs l → xs = ns.map V.int
  | [], ns, xs, h, r => by
    simp only [RpL] at r
    simp only [intsT, Option.some.injEq] at h
    subst r; subst h; rfl
  | t :: l, ns, xs, h, r => by
    simp only [RpL] at r
    obtain ⟨z, s, rfl, p, q⟩ := r
    cases t <;> simp only [intsT] at h <;> try cases h
    rename_i i
    cases z2 : intsT l with
    | none => rw [z2] at h; cases h
    | some m =>
      rw [z2] at h
      cases h
      simp only [Rp] at p
      rw [p, intsT_rp z2 q]
      rfl
theorem blsT_rp {F : Hp} : ∀ {l : List T} {ns : List Bool} {xs : List V}, blsT l = some ns → RpL Γ F xs l → xs = ns.map V.bl
  | [], ns, xs, h, r => by
    simp only [RpL] at r
    simp only [blsT, Option.some.injEq] at h
    subst r; subst h; rfl
  | t :: l, ns, xs, h, r => by
    simp only [RpL] at r
    obtain ⟨z, s, rfl, p, q⟩ := r
    cases t <;> simp only [blsT] at h <;> try cases h
    rename_i i
    cases z2 : blsT l with
    | none => rw [z2] at h; cases h
    | some m =>
      rw [z2] at h
      cases h
      simp only [Rp] at p
      rw [p, blsT_rp z2 q]
      rfl
def sumT : List T → Option T
  | [.lst l] => (intsT l).map fun ns => .int ns.sum
  | _ => none
def anyT : List T → Option T
  | [.lst l] => (blsT l).map fun ns => .bl (ns.any id)
  | _ => none
def allT : List T → Option T
  | [.lst l] => (blsT l).map fun ns => .bl (ns.all id)
  | _ => none
theorem callT_sum (hc : X.calm = true) : CallT Γ X (.builtin "sum") sumT := by
  refine ⟨_, cr_sum hc, fun ts u H F xs Q h sub r n => ?_⟩
  unfold sumT at h
  split at h
  · rename_i l
    cases z : intsT l with
    | none => rw [z] at h; cases h
    | some ns =>
      rw [z] at h
      cases h
      obtain ⟨x, rfl, rx⟩ := rp1 r
      simp only [Rp] at rx
      obtain ⟨a, ys, rfl, ha, ra⟩ := rx
      rw [intsT_rp z ra] at ha
      exact ⟨a, ns, rfl, .of (sub _ _ ha), n.same sub rp_int⟩
  · cases h
theorem callT_any (hc : X.calm = true) : CallT Γ X (.builtin "any") anyT := by
  refine ⟨_, cr_any hc, fun ts u H F xs Q h sub r n => ?_⟩
  unfold anyT at h
  split at h
  · rename_i l
    cases z : blsT l with
    | none => rw [z] at h; cases h
    | some ns =>
      rw [z] at h
      cases h
      obtain ⟨x, rfl, rx⟩ := rp1 r
      simp only [Rp] at rx
      obtain ⟨a, ys, rfl, ha, ra⟩ := rx
      rw [blsT_rp z ra] at ha
      exact ⟨a, ns, rfl, .of (sub _ _ ha), n.same sub rp_bl⟩
  · cases h
theorem callT_all (hc : X.calm = true) : CallT Γ X (.builtin "all") allT := by
  refine ⟨_, cr_all hc, fun ts u H F xs Q h sub r n => ?_⟩
  unfold allT at h
  split at h
  · rename_i l
    cases z : blsT l with
    | none => rw [z] at h; cases h
    | some ns =>
      rw [z] at h
      cases h
      obtain ⟨x, rfl, rx⟩ := rp1 r
      simp only [Rp] at rx
      obtain ⟨a, ys, rfl, ha, ra⟩ := rx
      rw [blsT_rp z ra] at ha
      exact ⟨a, ns, rfl, .of (sub _ _ ha), n.same sub rp_bl⟩
  · cases h
/-- the greatest, the least: of two ints, of a list of ints -/
def maxL : List Int → Option Int
  | [] => none
  | x :: r => some (r.foldl max x)
def minL : List Int → Option Int
  | [] => none
  | x :: r => some (r.foldl min x)
def maxT : List T → Option T
  | [.int i, .int j] => some (.int (if j > i then j else i))
  | [.lst l] => (intsT l).bind fun ns => (maxL ns).map .int
  | _ => none
def minT : List T → Option T
  | [.int i, .int j] => some (.int (if j < i then j else i))
  | [.lst l] => (intsT l).bind fun ns => (minL ns).map .int
  | _ => none
theorem foldl_max (r : List Int) : ∀ x, x ≤ r.foldl max x ∧ ∀ y ∈ r, y ≤ r.foldl max x := by
  induction r with
  | nil => intro x; exact ⟨Int.le_refl _, by simp⟩
  | cons z r ih =>
    intro x
    obtain ⟨h1, h2⟩ := ih (max x z)
    refine ⟨by rw [List.foldl_cons]; omega, fun y hy => ?_⟩
    rw [List.foldl_cons]
    rcases List.mem_cons.mp hy with rfl | hy
    · omega
    · exact h2 y hy
theorem foldl_min (r : List Int) : ∀ x, r.foldl min x ≤ x ∧ ∀ y ∈ r, r.foldl min x ≤ y := by
  induction r with
  | nil => intro x; exact ⟨Int.le_refl _, by simp⟩
  | cons z r ih =>
    intro x
    obtain ⟨h1, h2⟩ := ih (min x z)
    refine ⟨by rw [List.foldl_cons]; omega, fun y hy => ?_⟩
    rw [List.foldl_cons]
    rcases List.mem_cons.mp hy with rfl | hy
    · omega
    · exact h2 y hy
theorem foldl_max_mem (r : List Int) : ∀ x, r.foldl max x = x ∨ r.foldl max x ∈ r := by
  induction r with
  | nil => intro x; exact .inl rfl
  | cons z r ih =>
    intro x
    rw [List.foldl_cons]
    rcases ih (max x z) with h | h
    · rw [h]
      rcases Int.le_total x z with h2 | h2
      · rw [Int.max_eq_right h2]; exact .inr List.mem_cons_self
      · rw [Int.max_eq_left h2]; exact .inl rfl
    · exact .inr (List.mem_cons_of_mem _ h)
theorem foldl_min_mem (r : List Int) : ∀ x, r.foldl min x = x ∨ r.foldl min x ∈ r := by
  induction r with
  | nil => intro x; exact .inl rfl
  | cons z r ih =>
    intro x
    rw [List.foldl_cons]
    rcases ih (min x z) with h | h
    · rw [h]
      rcases Int.le_total x z with h2 | h2
      · rw [Int.min_eq_left h2]; exact .inl rfl
      · rw [Int.min_eq_right h2]; exact .inr List.mem_cons_self
    · exact .inr (List.mem_cons_of_mem _ h)
theorem max_uniq {ns : List Int} {m k : Int} (h : maxL ns = some k) (hm : m ∈ ns) (hb : ∀ y, y ∈ ns → y ≤ m) : m = k := by
  cases ns with
  | nil => cases h
  | cons x r =>
    cases h
    obtain ⟨h1, h2⟩ := foldl_max r x
    have h3 : r.foldl max x ≤ m := by
      rcases foldl_max_mem r x with z | z
      · rw [z]; exact hb x List.mem_cons_self
      · exact hb _ (List.mem_cons_of_mem _ z)
    rcases List.mem_cons.mp hm with rfl | z
    · omega
    · have := h2 m z; omega
theorem min_uniq {ns : List Int} {m k : Int} (h : minL ns = some k) (hm : m ∈ ns) (hb : ∀ y, y ∈ ns → m ≤ y) : m = k := by
  cases ns with
  | nil => cases h
  | cons x r =>
    cases h
    obtain ⟨h1, h2⟩ := foldl_min r x
    have h3 : m ≤ r.foldl min x := by
      rcases foldl_min_mem r x with z | z
      · rw [z]; exact hb x List.mem_cons_self
      · exact hb _ (List.mem_cons_of_mem _ z)
    rcases List.mem_cons.mp hm with rfl | z
    · omega
    · have := h2 m z; omega
theorem callT_max (hc : X.calm = true) : CallT Γ X (.builtin "max") maxT := by
  refine CallT.or (call_max2 hc) (cr_max hc) fun ts u H F xs Q h sub r n => ?_
  unfold maxT at h
  split at h
  · cases h
    obtain ⟨x, y, rfl, rx, ry⟩ := rp2 r
    simp only [Rp] at rx ry
    exact .inl ⟨_, _, by rw [rx, ry], n.same sub rp_int⟩
  · rename_i l
    cases z : intsT l with
    | none => rw [z] at h; cases h
    | some ns =>
      rw [z] at h
      simp only [Option.bind_some] at h
      cases z2 : maxL ns with
      | none => rw [z2] at h; cases h
      | some k =>
        rw [z2] at h
        cases h
        obtain ⟨x, rfl, rx⟩ := rp1 r
        simp only [Rp] at rx
        obtain ⟨a, ys, rfl, ha, ra⟩ := rx
        rw [intsT_rp z ra] at ha
        refine .inr ⟨a, ns, rfl, .of (sub _ _ ha), ?_, fun m h1 h2 => ?_⟩
        · cases ns with
          | nil => cases z2
          | cons => simp
        · rw [max_uniq z2 h1 h2]
          exact n.same sub rp_int
  · cases h
theorem callT_min (hc : X.calm = true) : CallT Γ X (.builtin "min") minT := by
  refine CallT.or (call_min2 hc) (cr_min hc) fun ts u H F xs Q h sub r n => ?_
  unfold minT at h
  split at h
  · cases h
    obtain ⟨x, y, rfl, rx, ry⟩ := rp2 r
    simp only [Rp] at rx ry
    exact .inl ⟨_, _, by rw [rx, ry], n.same sub rp_int⟩
  · rename_i l
    cases z : intsT l with
    | none => rw [z] at h; cases h
    | some ns =>
      rw [z] at h
      simp only [Option.bind_some] at h
      cases z2 : minL ns with
      | none => rw [z2] at h; cases h
      | some k =>
        rw [z2] at h
        cases h
        obtain ⟨x, rfl, rx⟩ := rp1 r
        simp only [Rp] at rx
        obtain ⟨a, ys, rfl, ha, ra⟩ := rx
        rw [intsT_rp z ra] at ha
        refine .inr ⟨a, ns, rfl, .of (sub _ _ ha), ?_, fun m h1 h2 => ?_⟩
        · cases ns with
          | nil => cases z2
          | cons => simp
        · rw [min_uniq z2 h1 h2]
          exact n.same sub rp_int
  · cases h
/-- isinstance with a built-in class -/
def tyN : T → Option String
  | .non => some "NoneType"
  | .bl _ => some "bool"
  | .int _ => some "int"
  | .str _ => some "str"
  | .lst _ => some "list"
  | .tup _ => some "tuple"
  | .dic _ _ => some "dict"
  | _ => none
def isTab (a b : String) : Bool := a == b || (a == "bool" && b == "int")
def isiT : List T → Option T
  | [t, .ty b] => if ["int", "bool", "str", "tuple", "list", "dict"].contains b then (tyN t).map fun a => .bl (isTab a b) else none
  | _ => none
theorem isTab_ok : (["NoneType", "bool", "int", "str", "list", "tuple", "dict"].all fun a => ["int", "bool", "str", "tuple", "list", "dict"].all fun b => kitB a b == some (isTab a b)) = true := by decide +kernel
theorem kit_tab {a b : String} (ha : a ∈ ["NoneType", "bool", "int", "str", "list", "tuple", "dict"]) (hb : b ∈ ["int", "bool", "str", "tuple", "list", "dict"]) : kitB a b = some (isTab a b) := by
  have := List.all_eq_true.mp (List.all_eq_true.mp isTab_ok a ha) b hb
  exact beq_iff_eq.mp this
theorem tyX_of {t : T} {a : String} {H F : Hp} {x : V} (h : tyN t = some a) (sub : Sub F H) (r : Rp Γ F x t) : TyX X.K H x (.type a) := by
  unfold tyN at h
  split at h <;> cases h <;> simp only [Rp] at r
  · subst r; exact .base .non
  · subst r; exact .base (.bl _)
  · subst r; exact .base (.int _)
  · subst r; exact .base (.str _)
  · obtain ⟨p, xs, rfl, hp, _⟩ := r
    exact .base (.lst (sub _ _ hp))
  · obtain ⟨p, xs, rfl, hp, _⟩ := r
    exact .base (.tup (sub _ _ hp))
  · obtain ⟨p, xs, rfl, hp, _⟩ := r
    obtain ⟨o, z⟩ := hp
    exact .fDict (sub _ _ z)
theorem callT_isi : CallT Γ X (.builtin "isinstance") isiT := by
  refine ⟨_, call_isi, fun ts u H F xs Q h sub r n => ?_⟩
  unfold isiT at h
  split at h
  · rename_i t b
    split at h
    · rename_i hb
      cases z : tyN t with
      | none => rw [z] at h; cases h
      | some a =>
        rw [z] at h
        cases h
        obtain ⟨x, y, rfl, rx, ry⟩ := rp2 r
        simp only [Rp] at ry
        subst ry
        have ha : a ∈ ["NoneType", "bool", "int", "str", "list", "tuple", "dict"] := by
          unfold tyN at z
          split at z <;> cases z <;> decide
        refine ⟨x, .ty b, .type a, .type b, _, rfl, ?_, tyX_of z sub rx, kit_ty (kit_tab ha (by simpa using hb)), n.same sub rp_bl⟩
        exact .ty b
    · cases h
  · cases h
end
end TL
set_option Elab.async false
set_option linter.all false
set_option maxRecDepth 100000
set_option maxHeartbeats 0
/-! TL14: methods by value, dict.get, enumerate, zip, walks of dicts, over trees. -/
namespace TL
open PySem PySem.Spec L2

/-! ### methods that change nothing -/
/-- x.id(args) of a thing of the built-in class T -/
def MtT (Γ : Gam) (X : Cx) (T : String) (id : String) (g : TL.T → List TL.T → Option TL.T) : Prop :=
  ∃ r : V → List V → Hp → VK → Prop, MtR X id r ∧ (∀ s ts u H F x, g s ts = some u → Sub F H → Rp Γ F x s → tyV X.K T x H) ∧
    ∀ s ts u H F x xs Q, g s ts = some u → Sub F H → Rp Γ F x s → RpL Γ F xs ts → Nw Γ H F u Q → r x xs H Q
def MtN (Γ : Gam) (X : Cx) (T : String) (id : String) (g : TL.T → List TL.T → Option (List TL.T)) : Prop :=
  ∃ r : V → List V → Hp → VK → Prop, MtR X id r ∧ (∀ s ts u H F x, g s ts = some u → Sub F H → Rp Γ F x s → tyV X.K T x H) ∧
    ∀ s ts us H F x xs Q, g s ts = some us → Sub F H → Rp Γ F x s → RpL Γ F xs ts → (∀ p ys, H p = none → RpL Γ F ys us → Q (.ref p) (upd H p (.lst ys))) → r x xs H Q
/-- the receiver must be of the class whatever the arguments -/
def dMeth (k : T → Bool) (g : T → List T → Option T) (da : DE) (d : DL) : DE := fun τ => (da τ).bind fun s τ1 => if k s then (d τ1).bind fun ts τ2 => match g s ts with
  | some u => .ok u τ2
  | none => .st else .st
def dMethN (k : T → Bool) (g : T → List T → Option (List T)) (da : DE) (d : DL) : DO := fun τ => (da τ).bind fun s τ1 => if k s then (d τ1).bind fun ts τ2 => match g s ts with
  | some us => .ok (.lst (us.map .fz)) τ2
  | none => .st else .st
def isStr : T → Bool
  | .str _ => true
  | _ => false
def isLst : T → Bool
  | .lst _ => true
  | _ => false
section
variable {X : Cx} {Ψ : Sx} {e o : Expr} {es : List Expr} {pos apos : Pos} {da db dc : DE} {d : DL} {id : String} {name : Str} {Tn : String} {k : T → Bool}
def TyK (Γ : Gam) (X : Cx) (k : T → Bool) (Tn : String) : Prop := ∀ s H F x, k s = true → Sub F H → Rp Γ F x s → tyV X.K Tn x H
theorem tyK_str {Γ : Gam} : TyK Γ X isStr "str" := fun s H F x h sub r => by
  cases s <;> first | cases h | skip
  simp only [Rp] at r
  subst r
  exact rfl
theorem tyK_lst {Γ : Gam} (hK : X.K = Γ.K) : TyK Γ X isLst "list" := fun s H F x h sub r => by
  cases s <;> first | cases h | skip
  simp only [Rp] at r
  obtain ⟨a, xs, rfl, ha, _⟩ := r
  exact .inl ⟨rfl, xs, .of (sub _ _ ha)⟩
theorem de_meth {g : T → List T → Option T} {r : V → List V → Hp → VK → Prop} (hk : TyK Ψ.Γ X k Tn) (hm : ∀ s ts u H F x xs Q, g s ts = some u → Sub F H → Rp Ψ.Γ F x s → RpL Ψ.Γ F xs ts → Nw Ψ.Γ H F u Q → r x xs H Q)
    (h1 : PE X (.Call (.Attribute o name apos) (e :: es) [] pos) (tBM X.K Tn r (tE Ψ da) (tA Ψ d))) : PE X (.Call (.Attribute o name apos) (e :: es) [] pos) (tE Ψ (dMeth k g da d)) := by
  refine PE.imp h1 fun σ H Q ⟨B, τ, tm, F, ω, rl, hio, q⟩ => ?_
  unfold dMeth at q
  rw [R.sat_bind] at q
  refine ⟨B, τ, tm, F, ω, rl, hio, R.sat_mono q (fun s τ1 q1 v1 H1 F1 ω1 r1 s1 p1 => ?_) (fun _ _ _ x => x)⟩
  split at q1
  case isFalse => exact q1.elim
  rename_i hks
  rw [R.sat_bind] at q1
  refine ⟨hk s H1 F1 v1 hks r1.fh p1, B, τ1, tm, F1, ω1, r1, hio, R.sat_mono q1 (fun ts τ2 q2 vs H2 F2 ω2 r2 s2 p2 => ?_) (fun _ _ _ x => x)⟩
  cases z : g s ts with
  | none => rw [z] at q2; exact q2.elim
  | some u =>
    rw [z] at q2
    exact hm s ts u H2 F2 v1 vs Q z r2.fh (Rp.mono s2 s v1 p1) p2 fun v H' F' gr p => q2 v H' F' ω2 (r2.grow gr) (s1.trans (s2.trans gr.ff)) p
theorem do_meth {g : T → List T → Option (List T)} {r : V → List V → Hp → VK → Prop} (hk : TyK Ψ.Γ X k Tn) (hm : ∀ s ts us H F x xs Q, g s ts = some us → Sub F H → Rp Ψ.Γ F x s → RpL Ψ.Γ F xs ts → (∀ p ys, H p = none → RpL Ψ.Γ F ys us → Q (.ref p) (upd H p (.lst ys))) → r x xs H Q)
    (h1 : PE X (.Call (.Attribute o name apos) (e :: es) [] pos) (tBM X.K Tn r (tE Ψ da) (tA Ψ d))) : PE X (.Call (.Attribute o name apos) (e :: es) [] pos) (tO Ψ (dMethN k g da d)) := by
  refine PE.imp h1 fun σ H Q ⟨B, τ, tm, F, ω, rl, hio, q⟩ => ?_
  unfold dMethN at q
  rw [R.sat_bind] at q
  refine ⟨B, τ, tm, F, ω, rl, hio, R.sat_mono q (fun s τ1 q1 v1 H1 F1 ω1 r1 s1 p1 => ?_) (fun _ _ _ x => x)⟩
  split at q1
  case isFalse => exact q1.elim
  rename_i hks
  rw [R.sat_bind] at q1
  refine ⟨hk s H1 F1 v1 hks r1.fh p1, B, τ1, tm, F1, ω1, r1, hio, R.sat_mono q1 (fun ts τ2 q2 vs H2 F2 ω2 r2 s2 p2 => ?_) (fun _ _ _ x => x)⟩
  cases z : g s ts with
  | none => rw [z] at q2; exact q2.elim
  | some us =>
    rw [z] at q2
    refine hm s ts us H2 F2 v1 vs Q z r2.fh (Rp.mono s2 s v1 p1) p2 fun p ys hp ry => ?_
    obtain ⟨ω3, r3⟩ := r2.newList hp ry
    exact q2 _ _ _ ω3 r3 (s1.trans s2)
theorem spl_len (c : Nat) : ∀ (l acc : List Nat), (spl [c] 0 acc l).length = l.count c + 1
  | [], acc => rfl
  | x :: l, acc => by
    by_cases h : x = c
    · subst h
      have hp : pre [x] (x :: l) = true := by unfold pre; simp
      rw [spl_hit hp, List.length_cons, List.count_cons_self]
      exact congrArg (· + 1) (spl_len x l [])
    · have hp : pre [c] (x :: l) = false := by
        unfold pre
        simp only [List.length_singleton, List.take_succ_cons, List.take_zero]
        exact beq_eq_false_iff_ne.mpr fun z => h (by simpa using z)
      rw [spl_miss hp, spl_len c l _, List.count_cons_of_ne (Ne.symm (fun z => h z.symm))]
theorem mk_one (c : Nat) : (mkStr [c]).length = 1 := rfl
theorem count_one {s : Cs} {c : Nat} (hc : c < 256) : Txt.count (mkStr s) (mkStr [c]) = (s.count c : Nat) := by
  have hk : ¬ Builtin.Str.strKind (mkStr s) < Builtin.Str.strKind (mkStr [c]) := kind_ok (by simp [mkStr, hc])
  have h1 := split_spl (mkStr s) (mkStr [c]) (by simp [tl, mkStr]) hk
  have h2 := congrArg List.length h1
  rw [List.length_map, show tl (mkStr [c]) = [c] from rfl, show tl (mkStr s) = s by simp [tl, mkStr], spl_len] at h2
  unfold Txt.count
  unfold Txt.split at h2
  by_cases hl : (mkStr s).length < (mkStr [c]).length
  · have e : s = [] := by
      rw [mkStr_length, mk_one] at hl
      exact List.length_eq_zero_iff.mp (by omega)
    subst e
    simp [Builtin.Str.occurrences, mkStr, Str.length]
  · rw [if_neg (by simp [hl, hk])] at h2
    by_cases he : (Builtin.Str.occurrences (mkStr s) (mkStr [c]) 0 (mkStr s).length ((mkStr s).length + 1)).isEmpty = true
    · rw [if_pos he] at h2
      rw [List.isEmpty_iff.mp he]
      simp at h2
      simp [h2]
    · rw [if_neg he, length_partsBetween] at h2
      have : (Builtin.Str.occurrences (mkStr s) (mkStr [c]) 0 (mkStr s).length ((mkStr s).length + 1)).length = s.count c := by omega
      rw [this]

/-! ### count, split, join, index -/
def countG : T → List T → Option T := fun s ts => match s, ts with
  | .str z, [.str [c]] => if c < 256 then some (.int (z.count c : Nat)) else none
  | _, _ => none
def splitG : T → List T → Option (List T) := fun s ts => match s, ts with
  | .str z, [.str [c]] => if c < 256 ∧ z.length + 2 ≤ SZ then some ((spl [c] 0 [] z).map .str) else none
  | _, _ => none
def strsT : List T → Option (List Cs)
  | [] => some []
  | .str s :: r => (strsT r).map fun l => s :: l
  | _ :: _ => none
def joinG : T → List T → Option T := fun s ts => match s, ts with
  | .str z, [.lst l] => (strsT l).bind fun ps => if (ps.map List.length).sum + ps.length * z.length ≤ SZ then some (.str (joinL z ps)) else none
  | _, _ => none
def indexG : T → List T → Option T := fun s ts => match s, ts with
  | .lst l, [t] => if flatT t && l.all flatT then (l.findIdx? fun y => eqF y t).map fun j => .int (j : Nat) else none
  | _, _ => none
theorem strsT_rp {Γ : Gam} {F : Hp} : ∀ {l : List T} {ps : List Cs} {xs : List V}, strsT l = some ps → RpL Γ F xs l → xs = (ps.map mkStr).map V.str
  | [], ns, xs, h, r => by
    simp only [RpL] at r
    simp only [strsT, Option.some.injEq] at h
    subst r; subst h; rfl
  | t :: l, ns, xs, h, r => by
    simp only [RpL] at r
    obtain ⟨z, s, rfl, p, q⟩ := r
    cases t <;> simp only [strsT] at h <;> try cases h
    rename_i i
    cases z2 : strsT l with
    | none => rw [z2] at h; cases h
    | some m =>
      rw [z2] at h
      cases h
      simp only [Rp] at p
      rw [p, strsT_rp z2 q]
      rfl
theorem strs_rp {Γ : Gam} {F : Hp} : ∀ l : List Cs, RpL Γ F ((l.map mkStr).map V.str) (l.map T.str)
  | [] => by simp [RpL]
  | n :: r => RpL.cons rp_str (strs_rp r)
variable {hst : starEach (e :: es) X.env = (false, eval e X.env) :: starEach es X.env}
theorem tl_mkStr (s : Cs) : tl (mkStr s) = s := by simp [tl, mkStr]
theorem map_mk_tl (l : List Str) : (l.map tl).map mkStr = l := by
  rw [List.map_map]
  conv => rhs; rw [← List.map_id l]
  apply List.map_congr_left
  intro x _
  exact mk_tl x
theorem de_count (ho : PE X o (tE Ψ da)) (ha : PA X (e :: es) (tA Ψ d))
    (h1 : ∀ {r : V → List V → Hp → VK → Prop} {to : TE} {t : TA}, MtR X "str.count" r → PE X o to → PA X (e :: es) t → PE X (.Call (.Attribute o "count" apos) (e :: es) [] pos) (tBM X.K "str" r to t)) : PE X (.Call (.Attribute o "count" apos) (e :: es) [] pos) (tE Ψ (dMeth isStr countG da d)) := by
  refine de_meth tyK_str (fun s ts u H F x xs Q h sub rx r n => ?_) (h1 mt_count ho ha)
  unfold countG at h
  split at h
  · split at h
    · rename_i z c hc
      cases h
      simp only [Rp] at rx
      obtain ⟨y, rfl, ry⟩ := rp1 r
      simp only [Rp] at ry
      refine ⟨_, _, rx, by rw [ry], ?_⟩
      rw [count_one hc]
      exact n.same sub rp_int
    · cases h
  · cases h
theorem do_split (ho : PE X o (tE Ψ da)) (ha : PA X (e :: es) (tA Ψ d))
    (h1 : ∀ {r : V → List V → Hp → VK → Prop} {to : TE} {t : TA}, MtR X "str.split" r → PE X o to → PA X (e :: es) t → PE X (.Call (.Attribute o "split" apos) (e :: es) [] pos) (tBM X.K "str" r to t)) : PE X (.Call (.Attribute o "split" apos) (e :: es) [] pos) (tO Ψ (dMethN isStr splitG da d)) := by
  refine do_meth tyK_str (fun s ts u H F x xs Q h sub rx r n => ?_) (h1 mt_split ho ha)
  unfold splitG at h
  split at h
  · split at h
    · rename_i z c hc
      cases h
      simp only [Rp] at rx
      obtain ⟨y, rfl, ry⟩ := rp1 r
      simp only [Rp] at ry
      refine ⟨_, _, rx, by rw [ry], rfl, by rw [mkStr_length]; exact szL hc.2, fun p hp => ?_⟩
      refine n p _ hp ?_
      have hk : ¬ Builtin.Str.strKind (mkStr z) < Builtin.Str.strKind (mkStr [c]) := kind_ok (by simp [mkStr, hc.1])
      have e1 := split_spl (mkStr z) (mkStr [c]) (by simp [tl, mkStr]) hk
      rw [tl_mkStr, tl_mkStr] at e1
      have e2 := map_mk_tl (Txt.split (mkStr z) (mkStr [c]))
      rw [e1] at e2
      rw [← e2]
      exact strs_rp _
    · cases h
  · cases h
theorem de_join (ho : PE X o (tE Ψ da)) (ha : PA X (e :: es) (tA Ψ d))
    (h1 : ∀ {r : V → List V → Hp → VK → Prop} {to : TE} {t : TA}, MtR X "str.join" r → PE X o to → PA X (e :: es) t → PE X (.Call (.Attribute o "join" apos) (e :: es) [] pos) (tBM X.K "str" r to t)) : PE X (.Call (.Attribute o "join" apos) (e :: es) [] pos) (tE Ψ (dMeth isStr joinG da d)) := by
  refine de_meth tyK_str (fun s ts u H F x xs Q h sub rx r n => ?_) (h1 mt_join ho ha)
  unfold joinG at h
  split at h
  · rename_i z l
    cases z2 : strsT l with
    | none => rw [z2] at h; cases h
    | some ps =>
      rw [z2] at h
      simp only [Option.bind_some] at h
      split at h
      · rename_i hc
        cases h
        simp only [Rp] at rx
        obtain ⟨y, rfl, ry⟩ := rp1 r
        simp only [Rp] at ry
        obtain ⟨a, ys, rfl, hy, ra⟩ := ry
        rw [strsT_rp z2 ra] at hy
        refine ⟨_, a, ps.map mkStr, rx, rfl, .inl (.of (sub _ _ hy)), ?_, ?_⟩
        · rw [List.map_map, List.length_map, mkStr_length]
          have : ((fun x : Str => x.length) ∘ mkStr) = List.length := by
            funext s
            exact mkStr_length s
          rw [this]
          exact hc
        · have e1 : Txt.join (mkStr z) (ps.map mkStr) = mkStr (joinL z ps) := by
            have e2 := tl_join (mkStr z) (ps.map mkStr)
            rw [← join_eq, tl_mkStr, List.map_map] at e2
            have : (tl ∘ mkStr) = id := by
              funext s
              exact tl_mkStr s
            rw [this, List.map_id] at e2
            rw [← e2]
            exact (mk_tl _).symm
          rw [e1]
          exact n.same sub rp_str
      · cases h
  · cases h
theorem de_index (hK : X.K = Ψ.Γ.K) (ho : PE X o (tE Ψ da)) (ha : PA X (e :: es) (tA Ψ d))
    (h1 : ∀ {r : V → List V → Hp → VK → Prop} {to : TE} {t : TA}, MtR X "list.index" r → PE X o to → PA X (e :: es) t → PE X (.Call (.Attribute o "index" apos) (e :: es) [] pos) (tBM X.K "list" r to t)) : PE X (.Call (.Attribute o "index" apos) (e :: es) [] pos) (tE Ψ (dMeth isLst indexG da d)) := by
  refine de_meth (tyK_lst hK) (fun s ts u H F x xs Q h sub rx r n => ?_) (h1 mt_index ho ha)
  unfold indexG at h
  split at h
  · rename_i l t
    split at h
    · rename_i hc
      rw [Bool.and_eq_true] at hc
      cases z : l.findIdx? (fun y => eqF y t) with
      | none => rw [z] at h; cases h
      | some j =>
        rw [z] at h
        cases h
        simp only [Rp] at rx
        obtain ⟨a, ys, rfl, hy, ra⟩ := rx
        obtain ⟨y, rfl, ry⟩ := rp1 r
        obtain ⟨j1, j2, j3⟩ := List.findIdx?_eq_some_iff_getElem.mp z
        have hall : ∀ {m : Nat} {w : T}, l[m]? = some w → flatT w = true := fun {m w} e => List.all_eq_true.mp hc.2 w (List.mem_of_getElem? e)
        obtain ⟨v, v1, v2⟩ := RpL.get ra (List.getElem?_eq_getElem j1)
        have fl := hall (List.getElem?_eq_getElem j1)
        refine ⟨a, ys, y, j, v, rfl, rfl, .of (sub _ _ hy), (eqV_flat hc.1 hc.1 ry ry).2.1, (flats_of (y := y) hc.2 ra).1, v1, ?_, fun m z' hm hz' => ?_, n.same sub rp_int⟩
        · rw [(eqV_flat fl hc.1 v2 ry).1]
          exact j2
        · obtain ⟨w, w1, w2⟩ := RpL.get' ra hz'
          rw [(eqV_flat (hall w1) hc.1 w2 ry).1]
          have hml : m < l.length := by omega
          have := j3 m hm
          rw [List.getElem?_eq_getElem hml] at w1
          cases w1
          simpa using this
    · cases h
  · cases h
/-! ### d.get(k, x) -/
def getG : T → T → T → Option T := fun d k x => match d with
  | .dic ks vs => (keyT k).map fun j => (getA ks vs j).getD x
  | .dct ks vs => match k with
    | .tup l => (keysT l).map fun j => (getA ks vs j).getD x
    | _ => none
  | _ => none
def isDic : T → Bool
  | .dic _ _ => true
  | .dct _ _ => true
  | _ => false
def dGet (da db dc : DE) : DE := fun τ => (da τ).bind fun s τ1 => if isDic s then (db τ1).bind fun k τ2 => (dc τ2).bind fun x τ3 => match getG s k x with
  | some u => .ok u τ3
  | none => .st else .st
theorem de_get {f : Expr} {cpos : Pos} (hu : X.A.units + 1 < cLine) (ho : PE X o (tE Ψ da)) (he : PE X e (tE Ψ db)) (hf : PE X f (tE Ψ dc)) (m : M2 X o "get" apos e f cpos) : PE X (.Call (.Attribute o "get" apos) [e, f] [] cpos) (tE Ψ (dGet da db dc)) := by
  refine PE.imp (pe_dget2 hu ho he hf m) fun σ H Q ⟨B, τ, tm, F, ω, rl, hio, q⟩ => ?_
  unfold dGet at q
  rw [R.sat_bind] at q
  refine ⟨B, τ, tm, F, ω, rl, hio, R.sat_mono q (fun s τ1 q1 v1 H1 F1 ω1 r1 s1 p1 => ?_) (fun _ _ _ x => x)⟩
  split at q1
  case isFalse => exact q1.elim
  rename_i hks
  rw [R.sat_bind] at q1
  have hd : ∃ a, v1 = .ref a ∧ IsD H1 a := by
    cases s <;> first | cases hks | skip
    · simp only [Rp] at p1
      obtain ⟨a, xs, rfl, ⟨od, ha⟩, _⟩ := p1
      exact ⟨a, rfl, .inl ⟨_, r1.sub.rd (.inr ⟨od, ha⟩)⟩⟩
    · simp only [Rp] at p1
      obtain ⟨a, xs, rfl, ⟨od, ha⟩, _⟩ := p1
      exact ⟨a, rfl, .inr ⟨_, r1.sub.rd (.inr ⟨od, ha⟩)⟩⟩
  obtain ⟨a, rfl, isd⟩ := hd
  refine ⟨a, rfl, isd, B, τ1, tm, F1, ω1, r1, hio, R.sat_mono q1 (fun k τ2 q2 v2 H2 F2 ω2 r2 s2 p2 => ?_) (fun _ _ _ x => x)⟩
  rw [R.sat_bind] at q2
  refine ⟨B, τ2, tm, F2, ω2, r2, hio, R.sat_mono q2 (fun x τ3 q3 v3 H3 F3 ω3 r3 s3 p3 => ?_) (fun _ _ _ x => x)⟩
  have p1' := Rp.mono (s2.trans s3) s _ p1
  have p2' := Rp.mono s3 k _ p2
  cases s <;> first | cases hks | skip
  · rename_i ks vs
    simp only [getG] at q3
    cases hk : keyT k with
    | none => rw [hk] at q3; exact q3.elim
    | some j =>
      rw [hk] at q3
      obtain ⟨a', o', e1, g, g1, g2⟩ := dget_dic r3.fh p1' hk p2'
      cases e1
      refine ⟨o', g, ?_⟩
      have q3 : ∀ v H' F' ω', Rel Ψ.Γ B τ3 tm σ H' F' ω' → Sub F F' → Rp Ψ.Γ F' v ((getA ks vs j).getD x) → Q v H' := q3
      cases z : getA ks vs j with
      | none =>
        rw [z] at q3
        rw [g2 z]
        exact q3 _ H3 F3 ω3 r3 (s1.trans (s2.trans s3)) p3
      | some u =>
        rw [z] at q3
        obtain ⟨w, rfl, hw⟩ := g1 u z
        exact q3 _ H3 F3 ω3 r3 (s1.trans (s2.trans s3)) hw
  · rename_i ks vs
    cases k <;> first | (exact q3.elim) | skip
    rename_i l
    simp only [getG] at q3
    cases hk : keysT l with
    | none => rw [hk] at q3; exact q3.elim
    | some j =>
      rw [hk] at q3
      obtain ⟨a', o', e1, g, g1, g2⟩ := dget_dct r3.fh p1' hk p2'
      cases e1
      refine ⟨o', g, ?_⟩
      have q3 : ∀ v H' F' ω', Rel Ψ.Γ B τ3 tm σ H' F' ω' → Sub F F' → Rp Ψ.Γ F' v ((getA ks vs j).getD x) → Q v H' := q3
      cases z : getA ks vs j with
      | none =>
        rw [z] at q3
        rw [g2 z]
        exact q3 _ H3 F3 ω3 r3 (s1.trans (s2.trans s3)) p3
      | some u =>
        rw [z] at q3
        obtain ⟨w, rfl, hw⟩ := g1 u z
        exact q3 _ H3 F3 ω3 r3 (s1.trans (s2.trans s3)) hw
/-! ### walks of dicts (a frozen dict is locked) -/
def kT : K1 → T
  | .inl i => .int i
  | .inr s => .str s
theorem rp_kT {Γ : Gam} {F : Hp} (k : K1) : Rp Γ F (kV (kK k)) (kT k) := by
  cases k <;> simp only [kT, Rp] <;> rfl
theorem zip_get {α β γ : Type} {f : α → γ} {ks : List α} {xs : List β} {i : Nat} {p : γ × β} (h : ((ks.map f).zip xs)[i]? = some p) : ∃ k, ks[i]? = some k ∧ p.1 = f k ∧ xs[i]? = some p.2 := by
  rw [List.getElem?_zip_eq_some] at h
  obtain ⟨h1, h2⟩ := h
  rw [List.getElem?_map] at h1
  cases z : ks[i]? with
  | none => rw [z] at h1; cases h1
  | some k =>
    rw [z] at h1
    exact ⟨k, rfl, (Option.some.inj h1).symm, h2⟩
def keysL : T → Option (List T)
  | .dic ks _ => some (ks.map kT)
  | _ => none
def valsL : T → Option (List T)
  | .dic _ vs => some vs
  | _ => none
def itsL : T → Option (List T)
  | .dic ks vs => some ((ks.zip vs).map fun p => .tup [kT p.1, p.2])
  | _ => none
def dWk (g : T → Option (List T)) (d : DE) : DL := fun τ => (d τ).bind fun t τ1 => match g t with
  | some l => .ok l τ1
  | none => .st
theorem rpl_kT {Γ : Gam} {F : Hp} : ∀ k : List K1, RpL Γ F ((k.map kK).map kV) (k.map kT)
  | [] => by simp only [List.map_nil, RpL]
  | k :: r => RpL.cons (rp_kT k) (rpl_kT r)
theorem wk_len {ks : List K1} {xs : List V} (h : xs.length = ks.length) : ((ks.map kK).zip xs).length = ks.length := by simp [h]
theorem wk_lenT {ks : List (List K1)} {xs : List V} (h : xs.length = ks.length) : ((ks.map (·.map kK)).zip xs).length = ks.length := by simp [h]
theorem dKof_eq (ks : List K1) (xs : List V) : dKof ks xs = .dK ((ks.map kK).zip xs) := rfl
theorem dTof_eq (ks : List (List K1)) (xs : List V) : dTof ks xs = .dT ((ks.map (·.map kK)).zip xs) := rfl
theorem di_keys {tg : Expr} (he : PE X e (tE Ψ da)) : PI X tg e (tI Ψ (dWk keysL da)) := by
  refine TL.PI.imp (pi_keys he) fun σ H Rr ⟨B, τ, tm, F, ω, rl, hio, q⟩ => ?_
  unfold dWk at q
  rw [R.sat_bind] at q
  refine ⟨B, τ, tm, F, ω, rl, hio, R.sat_mono q (fun s τ1 q1 v1 H1 F1 ω1 r1 s1 p1 => ?_) (fun _ _ _ x => x)⟩
  cases s with
  | dic ks vs =>
    simp only [Rp] at p1
    obtain ⟨a, xs, rfl, ⟨od, ha⟩, hl, ra⟩ := p1
    refine ⟨a, od, rfl, .inl ⟨_, r1.fh _ _ ha, ?_⟩⟩
    refine q1 _ H1 F1 ω1 r1 s1 fun i H' F' s2 s3 => ?_
    have hd := s3 _ _ (s2 _ _ ha)
    refine ⟨fun t ht => ?_, fun hle => ⟨hd, by rw [wk_len hl]; simp at hle; omega⟩⟩
    rw [List.getElem?_map] at ht
    have hi : i < ks.length := by
      cases z : ks[i]? with
      | none => rw [z] at ht; cases ht
      | some k => exact (List.getElem?_eq_some_iff.mp z).1
    refine ⟨⟨hd, by rw [wk_len hl]; exact hi⟩, fun x H2 hy => ?_⟩
    obtain ⟨rfl, k, v, h1, rfl⟩ := hy
    obtain ⟨k', h2, h3, _⟩ := zip_get h1
    rw [h2] at ht
    cases ht
    refine ⟨F', .refl s3, ?_⟩
    have h3 : k = kK k' := h3
    rw [h3]
    exact rp_kT k'
  | _ => exact q1.elim
theorem di_vals {tg : Expr} (he : PE X e (tE Ψ da)) (h1 : ∀ {td : TE}, PE X e td → PI X tg (.Call (.Attribute e "values" apos) [] [] pos) (iVals td)) : PI X tg (.Call (.Attribute e "values" apos) [] [] pos) (tI Ψ (dWk valsL da)) := by
  refine TL.PI.imp (h1 he) fun σ H Rr ⟨B, τ, tm, F, ω, rl, hio, q⟩ => ?_
  unfold dWk at q
  rw [R.sat_bind] at q
  refine ⟨B, τ, tm, F, ω, rl, hio, R.sat_mono q (fun s τ1 q1 v1 H1 F1 ω1 r1 s1 p1 => ?_) (fun _ _ _ x => x)⟩
  cases s with
  | dic ks vs =>
    simp only [Rp] at p1
    obtain ⟨a, xs, rfl, ⟨od, ha⟩, hl, ra⟩ := p1
    refine ⟨a, od, _, rfl, r1.fh _ _ ha, ?_⟩
    refine q1 _ H1 F1 ω1 r1 s1 fun i H' F' s2 s3 => ?_
    have hd := s3 _ _ (s2 _ _ ha)
    have hlv := RpL.length _ _ ra
    refine ⟨fun t ht => ?_, fun hle => ⟨hd, by rw [wk_len hl]; omega⟩⟩
    have hi := (List.getElem?_eq_some_iff.mp ht).1
    refine ⟨⟨hd, by rw [wk_len hl]; omega⟩, fun x H2 hy => ?_⟩
    obtain ⟨rfl, k, h1⟩ := hy
    obtain ⟨k', h2, h3, h4⟩ := zip_get h1
    obtain ⟨x', h5, h6⟩ := RpL.get ra ht
    have h4 : xs[i]? = some x := h4
    rw [h5] at h4
    cases h4
    exact ⟨F', .refl s3, Rp.mono s2 _ _ h6⟩
  | _ => exact q1.elim
theorem di_its {elts : List Expr} {kk : Nat} {tpos : Pos} (he : PE X e (tE Ψ da)) (h1 : ∀ {td : TE}, PE X e td → PI X (.Tuple elts kk tpos) (.Call (.Attribute e "items" apos) [] [] pos) (iItems td)) : PI X (.Tuple elts kk tpos) (.Call (.Attribute e "items" apos) [] [] pos) (tI Ψ (dWk itsL da)) := by
  refine TL.PI.imp (h1 he) fun σ H Rr ⟨B, τ, tm, F, ω, rl, hio, q⟩ => ?_
  unfold dWk at q
  rw [R.sat_bind] at q
  refine ⟨B, τ, tm, F, ω, rl, hio, R.sat_mono q (fun s τ1 q1 v1 H1 F1 ω1 r1 s1 p1 => ?_) (fun _ _ _ x => x)⟩
  cases s with
  | dic ks vs =>
    simp only [Rp] at p1
    obtain ⟨a, xs, rfl, ⟨od, ha⟩, hl, ra⟩ := p1
    refine ⟨a, od, _, rfl, r1.fh _ _ ha, ?_⟩
    refine q1 _ H1 F1 ω1 r1 s1 fun i H' F' s2 s3 => ?_
    have hd := s3 _ _ (s2 _ _ ha)
    have hlv := RpL.length _ _ ra
    refine ⟨fun t ht => ?_, fun hle => ⟨hd, by rw [wk_len hl]; simp at hle; omega⟩⟩
    have hi := (List.getElem?_eq_some_iff.mp ht).1
    simp at hi
    refine ⟨⟨hd, by rw [wk_len hl]; omega⟩, fun x H2 hy => ?_⟩
    obtain ⟨q, k, v, h1, rfl, hq, rfl⟩ := hy
    obtain ⟨k', h2, h3, h4⟩ := zip_get h1
    rw [List.getElem?_map] at ht
    cases z : (ks.zip vs)[i]? with
    | none => rw [z] at ht; cases ht
    | some p =>
      rw [z] at ht
      cases ht
      rw [List.getElem?_zip_eq_some] at z
      rw [h2] at z
      obtain ⟨x', h5, h6⟩ := RpL.get ra z.2
      have h4 : xs[i]? = some v := h4
      rw [h5] at h4
      cases h4
      have h3 : k = kK k' := h3
      have h7 := Option.some.inj z.1
      subst h3
      show ∃ F2, Grow H' F' (upd H' q (HO.tup [kV (kK k'), v])) F2 ∧ Rp Ψ.Γ F2 (V.ref q) (T.tup [kT p.fst, p.snd])
      rw [← h7]
      exact ⟨_, .new s3 hq, pair_rp (rp_kT k') (Rp.mono s2 _ _ h6) s3 hq⟩
  | _ => exact q1.elim
end
end TL
set_option Elab.async false
set_option linter.all false
set_option maxRecDepth 100000
set_option maxHeartbeats 0
/-! TL15: enumerate over lists, tuples, texts; zip; over trees. -/
namespace TL
open PySem PySem.Spec L2 PyProof.Rows

/-! ### enumerate of a tuple, of a text -/
section
variable {prog : Program} {w : World} {A : Around} {E : Value → Shared → Prop} {s : Shared}
set_option maxHeartbeats 0
theorem meetsE {v : Value} {o : Obj} {Hh : Heap → Prop} (B : Begins v o Hh) :
    Meets (Builtin.«enumerate.__new__» ⟨[.type "enumerate", v], []⟩) (fun _ Rr s => Hh s.heap ∧
      Rr (.ok (.ret (.ref (s.heap.push o).objs.size))) { s with heap := (s.heap.push o).push { cls := .type "enumerate", data := .fields #[.none, .bool false, .ref s.heap.objs.size, rawInt 0, .none, .none] } }) :=
  .of_wp fun prog w A Rr s hx => by
    obtain ⟨hp, g, d, tk, os⟩ := s
    obtain ⟨h1, hx⟩ := hx
    have hb := sub_enumerate
    have qq : ∀ {A' : Around} {E' : Value → Shared → Prop} {Q' : Value → Shared → Prop}, Q' (.ref hp.objs.size) ⟨hp.push o, g, d, tk, os⟩ → wpAny (model prog w) A' (pyIter v) Q' E' ⟨hp, g, d, tk, os⟩ := fun q => B.iter prog w _ _ ⟨hp, g, d, tk, os⟩ _ h1 q
    wp_walk using qq
    refine wpAny_stack_any fun st => wpAny_pure ?_
    split
    · rename_i c _ _ _ _ _
      cases (c == Value.type "enumerate") <;> (wp_walk using qq; exact ⟨_, rfl, hx⟩)
    · wp_walk using qq
      exact ⟨_, rfl, hx⟩
theorem callE {v : Value} {o : Obj} {Hh : Heap → Prop} {Q : Value → Shared → Prop} (B : Begins v o Hh) (h1 : Hh s.heap)
    (h : ∀ h', IsEnum h' (s.heap.objs.size + 1) s.heap.objs.size 0 .none → h'.get? s.heap.objs.size = some o → (∀ b o, s.heap.get? b = some o → h'.get? b = some o) → Q (.ref (s.heap.objs.size + 1)) { s with heap := h' }) :
    wpAny (model prog w) A (call (.type "enumerate") [v]) Q E s := by
  refine callType_new F.called_enumerate (by decide) (F.typeCall_enumerate_1 _) (F.newCall_enumerate_1 _) (fun ob => F.args_object_init_2 ob _) F.entry_enumerate_new (meetsE B) ⟨h1, ?_⟩
  have hz : (s.heap.push o).objs.size = s.heap.objs.size + 1 := Heap.size_push ..
  show _ ∧ _
  rw [hz]
  have he : IsEnum ((s.heap.push o).push { cls := .type "enumerate", data := .fields #[.none, .bool false, .ref s.heap.objs.size, rawInt 0, .none, .none] }) (s.heap.objs.size + 1) s.heap.objs.size 0 .none := by
    have z := Heap.get?_push_size (s.heap.push o) (o := { cls := .type "enumerate", data := .fields #[.none, .bool false, .ref s.heap.objs.size, rawInt 0, .none, .none] }) rfl
    rw [hz] at z
    exact z
  exact ⟨⟨_, he, rfl⟩, h _ he (Heap.get?_push_of_some _ (Heap.get?_push_size _ B.free)) fun b o x => Heap.get?_push_of_some _ (Heap.get?_push_of_some _ x)⟩
end
/-- pairs of numbers and the things of xs, which stand as g says -/
def ItE (g : Hp → Prop) (xs : List V) : It :=
  ⟨fun i H => g H ∧ i < xs.length, fun i H v H' => ∃ q x, v = .ref q ∧ H q = none ∧ H' = upd H q (.tup [.int (i : Nat), x]) ∧ xs[i]? = some x, fun i H => g H ∧ xs.length = i⟩
/-- what an iterator over xs draws, wherever the heap is told by H as g says -/
structure DrawsI (P : Program) (w : World) (K : PySem.W.Frag) (g : Hp → Prop) (xs : List V) (it : Addr) (st : Nat → Heap → Prop) : Prop where
  obj : ∀ i h, st i h → ∃ o, h.get? it = some o ∧ ∀ v, o.data ≠ .cell v
  keep : ∀ i h h', st i h → (∀ o, h.get? it = some o → h'.get? it = some o) → st i h'
  draws : ∀ (X : Cx), X.prog = P → X.w = w → X.K = K → X.calm = true → ∀ (pins : List (Addr × Obj)) (s : Shared) (σ : St) (H : Hp), Inv X pins σ H s → H it = none → g H →
    ∃ (fp : List Addr) (Pv : Nat → Value → Prop) (Sv : Nat → Heap → Prop), Draws P w X.A.in1 it fp xs.length Pv Sv ∧ (∀ i h, st i h → (∀ b ∈ fp, b ≠ it → h.get? b = s.heap.get? b) → Sv i h) ∧ (∀ i h, Sv i h → st i h) ∧ (∀ i u, Pv i u → ∃ x, xs[i]? = some x ∧ RelV x u) ∧ (∀ b ∈ fp, b = it ∨ ∃ o, H b = some o)
theorem turn_enumG {P : Program} {w : World} {K : PySem.W.Frag} {elts : List Expr} {kk : Nat} {tpos : Pos} {g : Hp → Prop} {xs : List V} {e it : Addr} {st : Nat → Heap → Prop} (D : DrawsI P w K g xs it st) :
    Turn P w K (.Tuple elts kk tpos) (ItE g xs) [e, it] e (fun i h => (∃ old, IsEnum h e it ((i : Nat) : Int) old) ∧ st i h ∧ e ≠ it) where
  mem := by simp
  obj := fun i h ⟨⟨old, he⟩, hs, _⟩ b hb => by
    have e' : b = e ∨ b = it := by simpa using hb
    rcases e' with z | z
    · subst z
      exact ⟨_, he, fun v q => nomatch q⟩
    · subst z
      exact D.obj i h hs
  keep := fun i h h' ⟨⟨old, he⟩, hs, hne⟩ k => ⟨⟨old, k e (by simp) _ he⟩, D.keep i h h' hs fun o q => k it (by simp) o q, hne⟩
  item := by
    intro X hP hw hK hc i pins s σ H E I hf ⟨⟨old, he⟩, hs, hne⟩ ⟨hg, hi⟩
    obtain ⟨fp, Pv, Sv, DD, d1, d2, d3, d4⟩ := D.draws X hP hw hK hc pins s σ H I (hf it (by simp)).1 hg
    subst hP hw hK
    have hel : e < s.heap.objs.size := Heap.lt_size he
    have hef : e ∉ fp := fun z => by
      rcases d4 e z with y | ⟨o, y⟩
      · exact hne y
      · rw [(hf e (by simp)).1] at y
        cases y
    refine wpAny_pyNext_enum_itemC DD he (d1 _ _ hs fun b _ _ => rfl) hi hne hef fun u h' tk hP' ho hs' hT hsz hk => ?_
    obtain ⟨x, hx, rx⟩ := d3 _ _ hP'
    refine ⟨_, rfl, wpAny_letOwnedTupleGo_enum (s := { s with heap := h', toks := tk + 1 }) ho fun h2 he' sb => ?_⟩
    have hT2 : h2.get? s.heap.objs.size = some { cls := .type "tuple", data := .seq #[.int i tk, u] } := (sb.2 _ (Nat.ne_of_gt hel)).trans hT
    have new : ObjOk X.prog X.w (upd H s.heap.objs.size (.tup [.int (i : Nat), x])) h2 s.heap.objs.size (.tup [.int (i : Nat), x]) := ⟨by show 2 ≤ sizeLine; decide, [.int i tk, u], .cons ⟨_, rfl⟩ (.cons rx .nil), ⟨_, hT2, rfl, _, rfl⟩⟩
    have I1 : Inv X pins σ (upd H s.heap.objs.size (.tup [.int (i : Nat), x])) { s with heap := h2, toks := tk + 1 } :=
      I.turnedNew (ch := [e, it]) (fun b ob hb q => (sb.2 b (fun z => hb (by simp [z]))).trans (hk b ob (fun z => hb (by simp [z])) (fun z => hb (by simp [z])) q)) hf (Nat.le_refl _) new
    refine ⟨.ref s.heap.objs.size, _, I1, rfl, ⟨_, x, rfl, I.hok.fresh (Nat.le_refl _), rfl, hx⟩, ⟨⟨u, ?_⟩, D.keep _ _ _ (d2 _ _ hs') fun o q => (sb.2 it (Ne.symm hne)).trans q, hne⟩, fun b hb => ?_⟩
    · have e1 : ((i + 1 : Nat) : Int) = (i : Int) + 1 := by omega
      rw [e1]
      exact he'
    · have hb' : b < s.heap.objs.size := by
        have e' : b = e ∨ b = it := by simpa using hb
        rcases e' with z | z
        · rw [z]
          exact hel
        · rw [z]
          obtain ⟨o, q, _⟩ := D.obj _ _ hs
          exact Heap.lt_size q
      rw [upd_ne (Nat.ne_of_lt hb')]
      exact (hf b hb).1
  done := by
    intro X hP hw hK hc i pins s σ H E I hf ⟨⟨old, he⟩, hs, hne⟩ ⟨hg, hi⟩
    obtain ⟨fp, Pv, Sv, DD, d1, d2, d3, d4⟩ := D.draws X hP hw hK hc pins s σ H I (hf it (by simp)).1 hg
    subst hP hw hK
    subst hi
    refine wpAny_pyNext_enum_endD DD he (d1 _ _ hs fun b _ _ => rfl) fun h' hx => ⟨rfl, ?_⟩
    obtain ⟨f0, f1, f2, f3, f4, f5⟩ := hf it (by simp)
    exact I.turned (t' := s.toks) (fun b o hb q => hx b o hb q) f0 f1 f3 f4 f5
  self := fun A i s Q E ⟨⟨_, he⟩, _⟩ h => wpAny_pyIter_enum he h
theorem drawsT {P : Program} {w : World} {K : PySem.W.Frag} {a it : Addr} {xs : List V} : DrawsI P w K (fun H => H a = some (.tup xs)) xs it (fun i h => h.IsTupleIter it a i) where
  obj := fun i h ⟨o, ho, hc, hd⟩ => ⟨o, ho, fun v q => by rw [hd] at q; cases q⟩
  keep := fun i h h' hs k => hs.at k
  draws := by
    intro X hP hw hK hc pins s σ H I hn hg
    subst hP hw hK
    obtain ⟨its, rv, ht, hz⟩ := I.tuple (a := a) (xs := xs) (.of hg)
    have hl := rv.length
    have ne : a ≠ it := fun z => by rw [z, hn] at hg; cases hg
    have D := Draws.tuple (prog := X.prog) (w := X.w) (A := X.A.in1) (show X.A.in1.handled = none from I.ok.hd hc) it a ne its.toArray
    have e : its.toArray.size = xs.length := by simp [hl]
    rw [e] at D
    refine ⟨_, _, _, D, fun i h st k => ⟨st, ?_⟩, fun i h st => st.1, fun i u hu => ?_, fun b hb => ?_⟩
    · obtain ⟨o, ho, r⟩ := ht
      exact ⟨o, (k a (by simp) ne).trans ho, r⟩
    · have hu : its[i]? = some u := by simpa using hu
      cases z : xs[i]? with
      | none => rw [rv.none_of z] at hu; cases hu
      | some x =>
        obtain ⟨u', h1, h2⟩ := rv.get z
        rw [h1] at hu
        cases hu
        exact ⟨x, rfl, h2⟩
    · have : b = it ∨ b = a := by simpa using hb
      rcases this with z | z
      · exact .inl z
      · exact .inr ⟨_, by rw [z]; exact hg⟩
theorem drawsS {P : Program} {w : World} {K : PySem.W.Frag} {it : Addr} {x : Str} {t : Tok} : DrawsI P w K (fun _ => True) (x.cps.toList.map fun c => .str ⟨#[c]⟩) it (fun i h => h.IsStrIter it (strIterType x) x t i) where
  obj := fun i h ⟨o, ho, hc, hd⟩ => ⟨o, ho, fun v q => by rw [hd] at q; cases q⟩
  keep := fun i h h' ⟨o, ho, r⟩ k => ⟨o, k o ho, r⟩
  draws := by
    intro X hP hw hK hc pins s σ H I hn hg
    subst hP hw hK
    have D := Draws.text (prog := X.prog) (w := X.w) (A := X.A.in1) (show X.A.in1.handled = none from I.ok.hd hc) it x t
    have e : x.cps.size = (x.cps.toList.map fun c => V.str ⟨#[c]⟩).length := by simp
    rw [e] at D
    refine ⟨_, _, _, D, fun i h st k => st, fun i h st => st, fun i u ⟨c, t', h1, h2⟩ => ?_, fun b hb => .inl (by simpa using hb)⟩
    refine ⟨.str ⟨#[c]⟩, ?_, ?_⟩
    · rw [List.getElem?_map]
      have : x.cps.toList[i]? = some c := by simpa using h1
      rw [this]
      rfl
    · rw [h2]
      exact ⟨t', rfl⟩
theorem walk_enumG {Γ : Gam} {F : Hp} {g : Hp → Prop} {xs : List V} {l : List T} (r : RpL Γ F xs l) (hg : ∀ H' F', Sub F F' → Sub F' H' → g H') : Walk Γ (ItE g xs) (l.zipIdx.map fun p => .tup [.int (p.2 : Nat), p.1]) F := by
  intro i H' F' s1 s2
  have hl := RpL.length _ _ r
  refine ⟨fun t ht => ?_, fun hi => ⟨hg _ _ s1 s2, by simp at hi; omega⟩⟩
  rw [List.getElem?_map, List.getElem?_zipIdx] at ht
  cases z : l[i]? with
  | none => rw [z] at ht; cases ht
  | some u =>
    rw [z] at ht
    cases ht
    have hi := (List.getElem?_eq_some_iff.mp z).1
    obtain ⟨x, h1, h2⟩ := RpL.get r z
    refine ⟨⟨hg _ _ s1 s2, by omega⟩, fun y H2 hy => ?_⟩
    obtain ⟨q, x', rfl, hq, rfl, h3⟩ := hy
    rw [h1] at h3
    cases h3
    refine ⟨_, .new s2 hq, ?_⟩
    have := pair_rp (Γ := Γ) (rp_int (i := (i : Nat))) (Rp.mono s1 _ _ h2) s2 hq
    simpa using this
theorem walk_enumL {Γ : Gam} {F : Hp} {a : Addr} {xs : List V} {l : List T} (h : F a = some (.lst xs)) (r : RpL Γ F xs l) : Walk Γ (Ite Γ.K a) (l.zipIdx.map fun p => .tup [.int (p.2 : Nat), p.1]) F := by
  intro i H' F' s1 s2
  have hl := RpL.length _ _ r
  have hx : SqL Γ.K H' a xs := .of (s2 _ _ (s1 _ _ h))
  refine ⟨fun t ht => ?_, fun hi => ⟨xs, hx, by simp at hi; omega⟩⟩
  rw [List.getElem?_map, List.getElem?_zipIdx] at ht
  cases z : l[i]? with
  | none => rw [z] at ht; cases ht
  | some u =>
    rw [z] at ht
    cases ht
    obtain ⟨x, h1, h2⟩ := RpL.get r z
    refine ⟨⟨xs, x, hx, h1⟩, fun y H2 hy => ?_⟩
    obtain ⟨q, x', rfl, hq, rfl, h3⟩ := hy
    have h3 := h3 xs hx
    rw [h1] at h3
    cases h3
    refine ⟨_, .new s2 hq, ?_⟩
    have := pair_rp (Γ := Γ) (rp_int (i := (i : Nat))) (Rp.mono s1 _ _ h2) s2 hq
    simpa using this
section
variable {X : Cx} {Ψ : Sx} {e a b : Expr} {pos p tpos : Pos} {elts : List Expr} {kk : Nat} {d : DL}
def iEn (K : PySem.W.Frag) (ta : TA) : TI := fun σ H Rr => ta σ H fun vs H1 => (∃ a xs, vs = [.ref a] ∧ H1 a = some (.lst xs) ∧ Rr (Ite K a) H1) ∨ (∃ a xs, vs = [.ref a] ∧ H1 a = some (.tup xs) ∧ Rr (ItE (fun H => H a = some (.tup xs)) xs) H1) ∨
  ∃ x : Str, vs = [.str x] ∧ Rr (ItE (fun _ => True) (x.cps.toList.map fun c => .str ⟨#[c]⟩)) H1
theorem pi_en {ta : TA} (hg : Gl X "enumerate") (hm : X.mg "enumerate" = none) (ha : PA X [e] ta) (hs : starEach [e] X.env = [(false, eval e X.env)] := by rfl) : PI X (.Tuple elts kk tpos) (.Call (.Name "enumerate" p) [e] [] pos) (iEn X.K ta) := by
  refine ⟨fun pins s σ H Rr I h => ?_⟩
  refine Call_ (ld_blt I hg hm boot_enumerate (PyProof.Rows.callWith_type1 (thn (ha.run pos pins s σ H _ I h) fun us s1 ⟨vs, H1, I1, r1, q1⟩ => ?_) hs rfl))
  have fresh : ∀ b, s1.heap.objs.size ≤ b → FpOk X pins H1 b := fun b hb => I1.fpOk hb (I1.hok.fresh hb)
  have fp : ∀ b ∈ [s1.heap.objs.size + 1, s1.heap.objs.size], FpOk X pins H1 b := fun b hb => by
    have e' : b = s1.heap.objs.size + 1 ∨ b = s1.heap.objs.size := by simpa using hb
    rcases e' with z | z
    · rw [z]
      exact fresh _ (Nat.le_succ _)
    · rw [z]
      exact fresh _ (Nat.le_refl _)
  rcases q1 with ⟨a, xs, ex, hq, q⟩ | ⟨a, xs, ex, hq, q⟩ | ⟨x, ex, q⟩
  · subst ex
    cases r1 with
    | cons r rr =>
      cases rr
      cases r
      obtain ⟨its, rv, p', hz⟩ := I1.list (a := a) (xs := xs) (.of hq)
      refine call_enumerate_list p'.isList fun h' he hit hsz hk => wpAny_pyIter_enum he ?_
      exact ⟨s1.heap.objs.size + 1, [s1.heap.objs.size + 1, s1.heap.objs.size], _, _, H1, rfl, I1.kept (t' := s1.toks) hk, turn_enum a (s1.heap.objs.size + 1) s1.heap.objs.size, ⟨⟨.none, he⟩, hit, Nat.succ_ne_self _⟩, fp, q⟩
  · subst ex
    cases r1 with
    | cons r rr =>
      cases rr
      cases r
      obtain ⟨its, rv, ht, hz⟩ := I1.tuple (a := a) (xs := xs) (.of hq)
      refine callE (begins_tuple a its.toArray) ht fun h' he hit hk => wpAny_pyIter_enum he ?_
      exact ⟨s1.heap.objs.size + 1, [s1.heap.objs.size + 1, s1.heap.objs.size], _, _, H1, rfl, I1.kept (t' := s1.toks) hk, turn_enumG (drawsT (a := a) (xs := xs)), ⟨⟨.none, he⟩, ⟨_, hit, rfl, rfl⟩, Nat.succ_ne_self _⟩, fp, q⟩
  · subst ex
    cases r1 with
    | cons r rr =>
      cases rr
      obtain ⟨t, rfl⟩ := r
      refine callE (begins_text x t) True.intro fun h' he hit hk => wpAny_pyIter_enum he ?_
      exact ⟨s1.heap.objs.size + 1, [s1.heap.objs.size + 1, s1.heap.objs.size], _, _, H1, rfl, I1.kept (t' := s1.toks) hk, turn_enumG (drawsS (x := x) (t := t)), ⟨⟨.none, he⟩, ⟨_, hit, rfl, rfl⟩, Nat.succ_ne_self _⟩, fp, q⟩
def enL : T → Option (List T)
  | .lst l => some l
  | .tup l => some l
  | .str s => some (s.map fun c => .str [c])
  | _ => none
def dEn (d : DL) : DL := fun τ => (d τ).bind fun ts τ1 => match ts with
  | [t] => match enL t with
    | some l => .ok (l.zipIdx.map fun p => .tup [.int (p.2 : Nat), p.1]) τ1
    | none => .st
  | _ => .st
theorem strs_each {Γ : Gam} {F : Hp} : ∀ s : Cs, RpL Γ F (s.map fun c => V.str ⟨#[c]⟩) (s.map fun c => T.str [c])
  | [] => by simp only [List.map_nil, RpL]
  | c :: r => RpL.cons (rp_str (s := [c])) (strs_each r)
theorem di_enum (hK : X.K = Ψ.Γ.K) (hg : Gl X "enumerate") (hm : X.mg "enumerate" = none) (ha : PA X [e] (tA Ψ d)) (hs : starEach [e] X.env = [(false, eval e X.env)] := by rfl) : PI X (.Tuple elts kk tpos) (.Call (.Name "enumerate" p) [e] [] pos) (tI Ψ (dEn d)) := by
  refine TL.PI.imp (pi_en hg hm ha hs) fun σ H Rr ⟨B, τ, tm, F, ω, rl, hio, q⟩ => ?_
  unfold dEn at q
  rw [R.sat_bind] at q
  refine ⟨B, τ, tm, F, ω, rl, hio, R.sat_mono q (fun ts τ1 q1 vs H1 F1 ω1 r1 s1 p1 => ?_) (fun _ _ _ x => x)⟩
  split at q1
  case h_2 => exact q1.elim
  rename_i t
  obtain ⟨x, rfl, rx⟩ := rp1 p1
  unfold enL at q1
  split at q1
  case h_2 => exact q1.elim
  rename_i l' hl'
  split at hl'
  · cases hl'
    simp only [Rp] at rx
    obtain ⟨a, xs, rfl, ha, ra⟩ := rx
    refine .inl ⟨a, xs, rfl, r1.fh _ _ ha, ?_⟩
    rw [hK]
    exact q1 _ H1 F1 ω1 r1 s1 (walk_enumL ha ra)
  · cases hl'
    simp only [Rp] at rx
    obtain ⟨a, xs, rfl, ha, ra⟩ := rx
    exact .inr (.inl ⟨a, xs, rfl, r1.fh _ _ ha, q1 _ H1 F1 ω1 r1 s1 (walk_enumG ra fun H' F' s2 s3 => s3 _ _ (s2 _ _ ha))⟩)
  · cases hl'
    rename_i s
    simp only [Rp] at rx
    subst rx
    refine .inr (.inr ⟨_, rfl, q1 _ H1 F1 ω1 r1 s1 (walk_enumG ?_ fun _ _ _ _ => True.intro)⟩)
    rw [cps_list]
    exact strs_each s
  · cases hl'
def dZp (d : DL) : DL := fun τ => (d τ).bind fun ts τ1 => match ts with
  | [.lst l, .lst m] => .ok ((l.zip m).map fun p => .tup [p.1, p.2]) τ1
  | _ => .st
theorem walk_zip {Γ : Gam} {F : Hp} {a b : Addr} {xs ys : List V} {l m : List T} (ha : F a = some (.lst xs)) (hb : F b = some (.lst ys)) (r : RpL Γ F xs l) (r' : RpL Γ F ys m) : Walk Γ (Itz Γ.K a b) ((l.zip m).map fun p => .tup [p.1, p.2]) F := by
  intro i H' F' s1 s2
  have hl := RpL.length _ _ r
  have hm := RpL.length _ _ r'
  have hx : SqL Γ.K H' a xs := .of (s2 _ _ (s1 _ _ ha))
  have hy : SqL Γ.K H' b ys := .of (s2 _ _ (s1 _ _ hb))
  refine ⟨fun t ht => ?_, fun hi => ⟨xs, ys, hx, hy, by simp at hi; omega⟩⟩
  rw [List.getElem?_map] at ht
  cases z : (l.zip m)[i]? with
  | none => rw [z] at ht; cases ht
  | some u =>
    rw [z] at ht
    cases ht
    rw [List.getElem?_zip_eq_some] at z
    obtain ⟨x, h1, h2⟩ := RpL.get r z.1
    obtain ⟨y, h3, h4⟩ := RpL.get r' z.2
    refine ⟨⟨xs, ys, x, y, hx, hy, h1, h3⟩, fun v H2 hv => ?_⟩
    obtain ⟨q, x', y', rfl, hq, rfl, h5, h6⟩ := hv
    have h5 := h5 xs hx
    have h6 := h6 ys hy
    rw [h1] at h5
    rw [h3] at h6
    cases h5
    cases h6
    exact ⟨_, .new s2 hq, pair_rp (Rp.mono s1 _ _ h2) (Rp.mono s1 _ _ h4) s2 hq⟩
theorem di_zip (hK : X.K = Ψ.Γ.K) (ha : PA X [a, b] (tA Ψ d)) (h1 : ∀ {ta : TA}, PA X [a, b] ta → PI X (.Tuple elts kk tpos) (.Call (.Name "zip" p) [a, b] [] pos) (iZip X.K ta)) : PI X (.Tuple elts kk tpos) (.Call (.Name "zip" p) [a, b] [] pos) (tI Ψ (dZp d)) := by
  refine TL.PI.imp (h1 ha) fun σ H Rr ⟨B, τ, tm, F, ω, rl, hio, q⟩ => ?_
  unfold dZp at q
  rw [R.sat_bind] at q
  refine ⟨B, τ, tm, F, ω, rl, hio, R.sat_mono q (fun ts τ1 q1 vs H1 F1 ω1 r1 s1 p1 => ?_) (fun _ _ _ x => x)⟩
  split at q1
  case h_2 => exact q1.elim
  rename_i l m
  obtain ⟨x, y, rfl, rx, ry⟩ := rp2 p1
  simp only [Rp] at rx ry
  obtain ⟨a', xs, rfl, ha', ra⟩ := rx
  obtain ⟨b', ys, rfl, hb', rb⟩ := ry
  refine ⟨a', b', xs, ys, rfl, .of (r1.fh _ _ ha'), .of (r1.fh _ _ hb'), ?_⟩
  rw [hK]
  exact q1 _ H1 F1 ω1 r1 s1 (walk_zip ha' hb' ra rb)
end
end TL
set_option Elab.async false
set_option linter.all false
set_option maxRecDepth 100000
set_option maxHeartbeats 0
/-! TL16: argument lists with owned things; a, b = x, y; a look at a child of an owned thing; starred. -/
namespace TL
open PySem PySem.Spec L2

abbrev DLO := Env → R (List O)
def tAO (Ψ : Sx) (d : DLO) : TA := fun σ H Q => ∃ B τ tm F ω, Rel Ψ.Γ B τ tm σ H F ω ∧ Ψ.okB B ∧ (d τ).sat (fun os τ' => ∀ vs H' F' ω', vs.length = os.length → Rel Ψ.Γ B τ' (tm ++ vs.zip os) σ H' F' ω' → Sub F F' → Q vs H') (exP Ψ B σ)
def dNilO : DLO := fun τ => .ok [] τ
def dConsO (d : DO) (r : DLO) : DLO := fun τ => (d τ).bind fun x τ1 => (r τ1).map fun xs => x :: xs
section
variable {X : Cx} {Ψ : Sx} {e a b c : Expr} {es : List Expr} {pos p : Pos} {da db dc : DE} {d : DO} {r : DLO} {dl : DL} {i j l : Nat}
theorem dao_nil : PA X [] (tAO Ψ dNilO) := PA.imp pa_nil fun σ H Q ⟨B, τ, tm, F, ω, rl, hio, w⟩ => w [] H F ω rfl (by simpa using rl) (fun _ _ e => e)
theorem dao_cons (h : PE X e (tO Ψ d)) (hr : PA X es (tAO Ψ r)) (hs : starEach (e :: es) X.env = (false, eval e X.env) :: starEach es X.env := by rfl) : PA X (e :: es) (tAO Ψ (dConsO d r)) := by
  refine PA.imp (pa_cons h hr hs) fun σ H Q ⟨B, τ, tm, F, ω, rl, hio, w⟩ => ?_
  unfold dConsO at w
  rw [R.sat_bind] at w
  refine ⟨B, τ, tm, F, ω, rl, hio, R.sat_mono w (fun s τ1 q1 v H1 F1 ω1 r1 s1 => ?_) (fun _ _ _ x => x)⟩
  rw [R.sat_map] at q1
  refine ⟨B, τ1, _, F1, ω1, r1, hio, R.sat_mono q1 (fun ss τ2 q2 vs H2 F2 ω2 hl r2 s2 => ?_) (fun _ _ _ x => x)⟩
  refine q2 (v :: vs) H2 F2 ω2 (by simp [hl]) ?_ (s1.trans s2)
  simpa using r2
/-- the temporaries behind tm go into slots, the last first -/
def putsE (τ : Env) : List Nat → List O → Env
  | i :: is, o :: os => (putsE τ is os).set i (some o)
  | _, _ => τ
def putsS (σ : St) : List Nat → List V → St
  | i :: is, v :: vs => (putsS σ is vs).set i (some v)
  | _, _ => σ
theorem putsE_length (τ : Env) : ∀ (is : List Nat) (os : List O), (putsE τ is os).length = τ.length
  | i :: is, o :: os => by simp [putsE, putsE_length τ is os]
  | [], _ => by simp [putsE]
  | _ :: _, [] => by simp [putsE]
theorem Rel.toSlots {Γ : Gam} {B : Bs} {tm : List (V × O)} {H F : Hp} : ∀ {is : List Nat} {os : List O} {vs : List V} {τ : Env} {σ : St} {ω : Lab}, is.length = os.length → vs.length = os.length → (∀ i ∈ is, i < τ.length ∧ i ∉ B.io) →
    Rel Γ B τ (tm ++ vs.zip os) σ H F ω → ∃ ω', Rel Γ B (putsE τ is os) tm (putsS σ is vs) H F ω' := fun {is} => by
  induction is generalizing tm with
  | nil =>
    intro os vs τ σ ω h1 h2 _ r
    have : os = [] := List.eq_nil_of_length_eq_zero (by simpa using h1.symm)
    subst this
    have : vs = [] := List.eq_nil_of_length_eq_zero (by simpa using h2)
    subst this
    exact ⟨ω, by simpa [putsE, putsS] using r⟩
  | cons i is ih =>
    intro os vs τ σ ω h1 h2 hb r
    cases os with
    | nil => simp at h1
    | cons o os =>
      cases vs with
      | nil => simp at h2
      | cons v vs =>
        have r' : Rel Γ B τ ((tm ++ [(v, o)]) ++ vs.zip os) σ H F ω := by simpa using r
        obtain ⟨ω1, r1⟩ := ih (by simpa using h1) (by simpa using h2) (fun k hk => hb k (List.mem_cons_of_mem _ hk)) r'
        obtain ⟨hi, hn⟩ := hb i List.mem_cons_self
        exact r1.toSlot (by rw [putsE_length]; exact hi) hn
def lkE (d : DLO) (is : List Nat) : DS := fun τ => (d τ).bind fun os τ1 => if is.length = os.length ∧ is.all (fun i => decide (i < τ1.length)) = true then .ok .nx (putsE τ1 is os) else .st
abbrev dPar (is : List Nat) (d : DLO) : DS := lkE d is
theorem par_road {is : List Nat} (hn : ∀ i ∈ is, i ∉ Ψ.io) {D : Ends} {σ : St} {H : Hp} (q : tS Ψ (dPar is r) D σ H) : tAO Ψ r σ H fun vs H1 => vs.length = is.length ∧ D.nx (putsS σ is vs) H1 := by
  obtain ⟨B, τ, tm, F, ω, rl, hio, q⟩ := q
  unfold dPar lkE at q
  rw [R.sat_bind] at q
  refine ⟨B, τ, tm, F, ω, rl, hio, R.sat_mono q (fun os τ1 q1 vs H1 F1 ω1 hl r1 s1 => ?_) (fun _ _ _ x => x.exP)⟩
  split at q1
  case isFalse => exact q1.elim
  rename_i hc
  obtain ⟨h1, h2⟩ := hc
  rw [List.all_eq_true] at h2
  obtain ⟨ω2, r2⟩ := Rel.toSlots h1 hl (fun i hi => ⟨of_decide_eq_true (h2 i hi), by rw [hio.1.1]; exact hn i hi⟩) r1
  exact ⟨by rw [hl, h1], q1 _ H1 F1 ω2 r2⟩
theorem ds_par {x y : Str} {px py pt : Pos} {kt k2 pt2} (hc : X.calm = true) (hN : X.N.Nodup) (hi : X.N[i]? = some x) (hj : X.N[j]? = some y) (hij : i ≠ j) (hni : i ∉ Ψ.io) (hnj : j ∉ Ψ.io)
    (hx : X.env.scope.names.lookup x = some .local) (hy : X.env.scope.names.lookup y = some .local) (ha : PA X [a, b] (tAO Ψ r))
    (hw : swappedStores [.Tuple [.Name x px, .Name y py] kt pt] (.Tuple [a, b] k2 pt2) X.env = pure (some [x, y]))
    (h1 : ∀ {ta : TA}, PA X [a, b] ta → PS X (.Assign [.Tuple [.Name x px, .Name y py] kt pt] (.Tuple [a, b] k2 pt2) pos) (tPar i j ta)) :
    PS X (.Assign [.Tuple [.Name x px, .Name y py] kt pt] (.Tuple [a, b] k2 pt2) pos) (tS Ψ (dPar [i, j] r)) := by
  refine PS.imp (h1 ha) fun D σ H q => ?_
  obtain ⟨B, τ, tm, F, ω, rl, hio, q⟩ := par_road (is := [i, j]) (by intro k hk; simp at hk; rcases hk with rfl | rfl <;> assumption) q
  refine ⟨B, τ, tm, F, ω, rl, hio, R.sat_mono q (fun os τ1 q1 vs H1 F1 ω1 hl r1 s1 => ?_) (fun _ _ _ x => x)⟩
  obtain ⟨g1, g2⟩ := q1 vs H1 F1 ω1 hl r1 s1
  match vs, g1 with
  | [v, w], _ =>
    refine ⟨v, w, rfl, ?_⟩
    rw [List.set_comm _ _ hij]
    exact g2
theorem ds_par3 {x y z : Str} {px py pz pt : Pos} {kt k2 pt2} (hij : i ≠ j) (hil : i ≠ l) (hjl : j ≠ l) (hni : i ∉ Ψ.io) (hnj : j ∉ Ψ.io) (hnl : l ∉ Ψ.io) (ha : PA X [a, b, c] (tAO Ψ r))
    (h1 : ∀ {ta : TA}, PA X [a, b, c] ta → PS X (.Assign [.Tuple [.Name x px, .Name y py, .Name z pz] kt pt] (.Tuple [a, b, c] k2 pt2) pos) (tPar3 i j l ta)) :
    PS X (.Assign [.Tuple [.Name x px, .Name y py, .Name z pz] kt pt] (.Tuple [a, b, c] k2 pt2) pos) (tS Ψ (dPar [i, j, l] r)) := by
  refine PS.imp (h1 ha) fun D σ H q => ?_
  obtain ⟨B, τ, tm, F, ω, rl, hio, q⟩ := par_road (is := [i, j, l]) (by intro k hk; simp at hk; rcases hk with rfl | rfl | rfl <;> assumption) q
  refine ⟨B, τ, tm, F, ω, rl, hio, R.sat_mono q (fun os τ1 q1 vs H1 F1 ω1 hl r1 s1 => ?_) (fun _ _ _ x => x)⟩
  obtain ⟨g1, g2⟩ := q1 vs H1 F1 ω1 hl r1 s1
  match vs, g1 with
  | [u, v, w], _ =>
    refine ⟨u, v, w, rfl, ?_⟩
    have e : ((σ.set i (some u)).set j (some v)).set l (some w) = ((σ.set l (some w)).set j (some v)).set i (some u) := by
      rw [List.set_comm _ _ hij, List.set_comm _ _ hil, List.set_comm _ _ hjl]
    rw [e]
    exact g2
/-- .. by a tuple that is laid and taken apart -/
theorem dg_names {is : List Nat} {os : List O} : True := trivial
/-- plain names in a row -/
inductive NmS (X : Cx) (io : List Nat) : List Expr → List Nat → Prop where
  | nil : NmS X io [] []
  | cons {i : Nat} {x : Str} {pos : Pos} {es : List Expr} {is : List Nat} (hN : X.N.Nodup) (hi : X.N[i]? = some x) (hx : Loc X.env.scope x) (hn : i ∉ io) (hf : X.fn x = true ∨ X.env.scope.names.lookup x = some .local) (r : NmS X io es is)
      (hs : (assignEach (.Name x pos :: es) X.env).map (·.2) = assign (.Name x pos) X.env :: (assignEach es X.env).map (·.2)) : NmS X io (.Name x pos :: es) (i :: is)
def tNm (is : List Nat) : TGs := fun vs σ H Q => vs.length = is.length ∧ ∀ σ', σ' = (is.zip vs).foldl (fun s p => s.set p.1 (some p.2)) σ → Q σ' H
theorem pgs_nm {es : List Expr} {is : List Nat} (h : NmS X Ψ.io es is) : PGs X es (tNm is) := by
  induction h with
  | nil =>
    refine PGs.imp pgs_nil fun vs σ H Q ⟨h1, h2⟩ => ?_
    have : vs = [] := List.eq_nil_of_length_eq_zero (by simpa using h1)
    subst this
    exact ⟨rfl, h2 σ rfl⟩
  | cons hN hi hx hn hf r hs ih =>
    refine PGs.imp (pgs_cons (pg_name hN hi hx hf) ih hs) fun vs σ H Q ⟨h1, h2⟩ => ?_
    cases vs with
    | nil => simp at h1
    | cons v vs => exact ⟨v, vs, rfl, by simpa using h1, fun σ' e => h2 σ' (by simpa using e)⟩
theorem putsS_set {i : Nat} {w : Option V} : ∀ {is : List Nat} {vs : List V} {σ : St}, i ∉ is → putsS (σ.set i w) is vs = (putsS σ is vs).set i w
  | [], vs, σ, _ => by simp [putsS]
  | k :: is, [], σ, _ => by simp [putsS]
  | k :: is, v :: vs, σ, h => by
    have hk : i ≠ k := fun z => h (by simp [z])
    show (putsS (σ.set i w) is vs).set k (some v) = ((putsS σ is vs).set k (some v)).set i w
    rw [putsS_set (fun z => h (List.mem_cons_of_mem _ z)), List.set_comm _ _ hk]
theorem fold_puts : ∀ {is : List Nat} {vs : List V} {σ : St}, is.Nodup → vs.length = is.length → (is.zip vs).foldl (fun s p => s.set p.1 (some p.2)) σ = putsS σ is vs
  | [], vs, σ, _, _ => by simp [putsS]
  | i :: is, [], σ, _, h => by simp at h
  | i :: is, v :: vs, σ, hn, h => by
    rw [List.nodup_cons] at hn
    show (is.zip vs).foldl _ (σ.set i (some v)) = (putsS σ is vs).set i (some v)
    rw [fold_puts hn.2 (by simpa using h), putsS_set hn.1]
theorem ds_parT {tg : List Expr} {es : List Expr} {is : List Nat} {k k2 n : Nat} {p1 p2 : Pos} (hc : X.calm = true) (hg : NmS X Ψ.io tg is) (hnd : is.Nodup) (ha : PA X es (tAO Ψ r)) (hlen : is.length = n)
    (hsz : n ≤ sizeLine) (hn : (assignEach tg X.env).length = n := by rfl) (hst : (assignEach tg X.env).findIdx? (·.1) = none := by rfl)
    (hs : swapsWithSole [.Tuple tg k p1] (.Tuple es k2 p2) pos.line X.env = pure false := by rfl) (hw : swappedStores [.Tuple tg k p1] (.Tuple es k2 p2) X.env = pure none := by rfl)
    (h1 : (assignEach [.Tuple tg k p1] X.env).map (·.2) = [assign (.Tuple tg k p1) X.env] := by rfl) : PS X (.Assign [.Tuple tg k p1] (.Tuple es k2 p2) pos) (tS Ψ (dPar is r)) := by
  have nio : ∀ {es : List Expr} {is : List Nat}, NmS X Ψ.io es is → ∀ i ∈ is, i ∉ Ψ.io := fun h => by
    induction h with
    | nil => intro i hi; simp at hi
    | cons hN hi hx hn hf r hs ih =>
      intro i hi
      rcases List.mem_cons.mp hi with rfl | hi
      · exact hn
      · exact ih i hi
  refine PS.imp (ps_asg (pe_tup ha) (pg_tup hc (pgs_nm hg) hn hst) hs hw h1) fun D σ H q => ?_
  obtain ⟨B, τ, tm, F, ω, rl, hio, q⟩ := par_road (nio hg) q
  refine ⟨B, τ, tm, F, ω, rl, hio, R.sat_mono q (fun os τ1 q1 vs H1 F1 ω1 hl r1 s1 => ?_) (fun _ _ _ x => x)⟩
  obtain ⟨g1, g2⟩ := q1 vs H1 F1 ω1 hl r1 s1
  refine ⟨by omega, fun q hq => ⟨q, vs, rfl, .of upd_same, by omega, g1, fun σ' e => ?_⟩⟩
  subst e
  rw [fold_puts hnd g1]
  have gr : Grow H1 F1 (upd H1 q (.tup vs)) F1 := ⟨fun b o e => by rw [upd_ne (ne_of_none e hq)]; exact e, fun _ _ e => e, fun b o e => by rw [upd_ne (ne_of_none (r1.fh _ _ e) hq)]; exact r1.fh _ _ e, fun b o e e' => by rw [e] at e'; cases e'⟩
  exact (q1 vs _ F1 ω1 hl (r1.grow gr) s1).2
end
end TL
set_option Elab.async false
set_option linter.all false
set_option maxRecDepth 100000
set_option maxHeartbeats 0
/-! TL17: own objects: fields read and set, making, methods, properties; over trees. -/
namespace TL
open PySem PySem.Spec L2

/-- where a field stands in the objects of each kind -/
structure FldOk (Γ : Gam) (K : PySem.W.Frag) (f : Str) (ix : Nat → Option Nat) : Prop where
  cls : ∀ c j, ix c = some j → Cls K (Γ.cls c)
  no : ∀ c j, ix c = some j → NoAttr K (Γ.cls c) f
  at_ : ∀ c j, ix c = some j → (Γ.fld c).findIdx? (fun g => f == g) = some j
theorem lookup_zip {α : Type} {f : Str} : ∀ {l : List Str} {xs : List α} {j : Nat}, l.findIdx? (fun g => f == g) = some j → (l.zip xs).lookup f = xs[j]?
  | [], xs, j, h => by simp at h
  | g :: l, [], j, h => by simp
  | g :: l, x :: xs, j, h => by
    rw [List.findIdx?_cons] at h
    show List.lookup f ((g, x) :: l.zip xs) = _
    cases hg : f == g with
    | true =>
      rw [hg] at h
      simp at h
      subst h
      simp [List.lookup, hg]
    | false =>
      rw [hg] at h
      simp at h
      obtain ⟨k, h1, rfl⟩ := h
      simp only [List.lookup, hg]
      rw [lookup_zip h1]
      rfl
theorem putF_old {f : Str} {v : V} : ∀ {l : List Str} {xs : List V} {j : Nat}, xs.length = l.length → l.findIdx? (fun g => f == g) = some j → putF f v (l.zip xs) = l.zip (xs.set j v)
  | [], xs, j, _, h => by simp at h
  | g :: l, [], j, hl, h => by simp at hl
  | g :: l, x :: xs, j, hl, h => by
    rw [List.findIdx?_cons] at h
    show (if g = f then _ else _) = _
    cases hg : f == g with
    | true =>
      rw [hg] at h
      simp at h
      subst h
      rw [if_pos (beq_iff_eq.mp hg).symm]
      rfl
    | false =>
      rw [hg] at h
      simp at h
      obtain ⟨k, h1, rfl⟩ := h
      rw [if_neg fun z => (beq_eq_false_iff_ne.mp hg) z.symm]
      show (g, x) :: putF f v (l.zip xs) = _
      rw [putF_old (by simpa using hl) h1]
      rfl
theorem putF_new {f : Str} {v : V} : ∀ {l : List Str} {xs : List V}, xs.length = l.length → l.findIdx? (fun g => f == g) = none → putF f v (l.zip xs) = (l ++ [f]).zip (xs ++ [v])
  | [], [], _, _ => rfl
  | [], x :: xs, hl, h => by simp at hl
  | g :: l, [], hl, h => by simp at hl
  | g :: l, x :: xs, hl, h => by
    rw [List.findIdx?_cons] at h
    cases hg : f == g with
    | true => rw [hg] at h; simp at h
    | false =>
      rw [hg] at h
      simp only [Bool.false_eq_true, if_false, Option.map_eq_none_iff] at h
      show (if g = f then _ else _) = _
      rw [if_neg fun z => (beq_eq_false_iff_ne.mp hg) z.symm]
      show (g, x) :: putF f v (l.zip xs) = _
      rw [putF_new (by simpa using hl) h]
      rfl
section
variable {X : Cx} {Ψ : Sx} {e o : Expr} {es : List Expr} {pos apos pos' p : Pos} {da db : DE} {d : DO} {dl : DL} {f : Str} {ix : Nat → Option Nat} {i : Nat}
/-- o.f of a frozen object -/
def fldG (ix : Nat → Option Nat) : T → Option T
  | .obj c vs => (ix c).bind fun j => vs[j]?
  | _ => none
theorem de_fld (hf : FldOk Ψ.Γ X.K f ix) (ho : PE X o (tE Ψ da)) (hb : attributeBase o f X.env (eval o X.env) = eval o X.env := by rfl) : PE X (.Attribute o f pos) (tE Ψ (dUn (fldG ix) da)) := by
  refine PE.imp (pe_fld ho hb) fun σ H Q ⟨B, τ, tm, F, ω, rl, hio, q⟩ => ?_
  unfold dUn at q
  rw [R.sat_bind] at q
  refine ⟨B, τ, tm, F, ω, rl, hio, R.sat_mono q (fun t τ1 q1 v1 H1 F1 ω1 r1 s1 p1 => ?_) (fun _ _ _ x => x)⟩
  unfold fldG at q1
  cases t <;> first | exact q1.elim | skip
  rename_i c vs
  dsimp only at q1
  cases hj : ix c with
  | none => rw [hj] at q1; exact q1.elim
  | some j =>
    rw [hj] at q1
    simp only [Option.bind_some] at q1
    cases hv : vs[j]? with
    | none => rw [hv] at q1; exact q1.elim
    | some u =>
      rw [hv] at q1
      simp only [Rp] at p1
      obtain ⟨a, dx, xs, rfl, ha, hl, ra⟩ := p1
      obtain ⟨x, h1, h2⟩ := RpL.get ra hv
      refine ⟨a, _, dx, _, x, rfl, r1.fh _ _ ha, hf.cls c j hj, hf.no c j hj, ?_, q1 _ H1 F1 ω1 r1 s1 h2⟩
      rw [lookup_zip (hf.at_ c j hj)]
      exact h1
theorem obj_ow {Γ : Gam} {ω : Lab} {F H : Hp} {i : Nat} {r : List Nat} {v : V} {c : Nat} {vs : List O} (h : Ow Γ ω F H i r v (.obj c vs)) : ∃ a dx xs, v = .ref a ∧ ω a = some (i, r) ∧ H a = some (.ins (Γ.cls c) dx ((Γ.fld c).zip xs)) ∧ xs.length = (Γ.fld c).length ∧ OwL Γ ω F H i r 0 xs vs := by simpa only [Ow] using h
/-- o.f of an owned object, the field a frozen thing -/
def dFldS (i : Nat) (ix : Nat → Option Nat) : DE := fun τ => match τ[i]? with
  | some (some (.obj c vs)) => match (ix c).bind fun j => vs[j]? with
    | some (.fz t) => .ok t τ
    | _ => .st
  | _ => .st
theorem de_fldS (hf : FldOk Ψ.Γ X.K f ix) (ho : PE X o (tVar i)) (hb : attributeBase o f X.env (eval o X.env) = eval o X.env := by rfl) : PE X (.Attribute o f pos) (tE Ψ (dFldS i ix)) := by
  refine PE.imp (pe_fld ho hb) fun σ H Q ⟨B, τ, tm, F, ω, rl, hio, q⟩ => ?_
  unfold dFldS at q
  split at q
  case h_2 => exact q.elim
  rename_i c vs hi
  split at q
  case h_2 => exact q.elim
  rename_i t ht
  cases hj : ix c with
  | none => rw [hj] at ht; cases ht
  | some j =>
    rw [hj] at ht
    simp only [Option.bind_some] at ht
    obtain ⟨v, h1, h2⟩ := rl.slot i _ hi
    obtain ⟨a, dx, xs, rfl, hla, ha, hl, ho⟩ := obj_ow h2
    obtain ⟨x, h3, h4⟩ := OwL.get ho ht
    refine ⟨_, h1, a, _, dx, _, x, rfl, ha, hf.cls c j hj, hf.no c j hj, ?_, q x H F ω rl (fun _ _ e => e) (fz_ow h4)⟩
    rw [lookup_zip (hf.at_ c j hj)]
    exact h3
/-- o.f = value: an old field, or a new one that makes the object one of the next kind -/
def setF (ix : Nat → Option Nat) (nx : Nat → Option Nat) (c : Nat) (vs : List O) (x : O) : Option O := match ix c with
  | some j => match x, vs[j]? with
    | .fz t, some (.fz _) => some (.obj c (vs.set j (.fz t)))
    | _, _ => none
  | none => match nx c with
    | some c' => some (.obj c' (vs ++ [x]))
    | none => none
def dSetF (i : Nat) (ix nx : Nat → Option Nat) (d : DO) : DS := fun τ => (d τ).bind fun x τ1 => match τ1[i]? with
  | some (some (.obj c vs)) => match setF ix nx c vs x with
    | some o' => .ok .nx (τ1.set i (some o'))
    | none => .st
  | _ => .st
structure NxtOk (Γ : Gam) (K : PySem.W.Frag) (f : Str) (nx : Nat → Option Nat) : Prop where
  cls : ∀ c c', nx c = some c' → Cls K (Γ.cls c)
  no : ∀ c c', nx c = some c' → NoAttr K (Γ.cls c) f
  fld : ∀ c c', nx c = some c' → Γ.fld c' = Γ.fld c ++ [f] ∧ Γ.cls c' = Γ.cls c ∧ (Γ.fld c).findIdx? (fun g => f == g) = none ∧ (Γ.fld c).length < 900
theorem OwL.setFz {Γ : Gam} {F H : Hp} {ω : Lab} {r : List Nat} {i : Nat} {y : V} {u : T} (hy : Rp Γ F y u) : ∀ {os : List O} {j : Nat} {xs : List V} (k : Nat) {t : T}, OwL Γ ω F H i r j xs os → os[k]? = some (.fz t) → OwL Γ ω F H i r j (xs.set k y) (os.set k (.fz u))
  | [], j, xs, k, t, h, e => by simp at e
  | o :: os, j, xs, 0, t, h, e => by
    simp only [OwL] at h
    obtain ⟨x, s, rfl, h1, h2⟩ := h
    simp only [List.set_cons_zero, OwL]
    exact ⟨y, s, rfl, by simpa only [Ow] using hy, h2⟩
  | o :: os, j, xs, k + 1, t, h, e => by
    simp only [OwL] at h
    obtain ⟨x, s, rfl, h1, h2⟩ := h
    simp only [List.set_cons_succ, OwL]
    exact ⟨x, _, rfl, h1, OwL.setFz hy k h2 (by simpa using e)⟩
theorem ds_setF {nx : Nat → Option Nat} (hf : FldOk Ψ.Γ X.K f ix) (hx : NxtOk Ψ.Γ X.K f nx) (hlen : ∀ c, (Ψ.Γ.fld c).length < 900) (ho : PE X o (tVar i)) (he : PE X e (tO Ψ d)) (hs : swapsWith e (some (.Attribute o f pos')) pos.line X.env = pure false := by rfl) :
    PS X (.Assign [.Attribute o f pos'] e pos) (tS Ψ (dSetF i ix nx d)) := by
  refine PS.imp (ps_fld ho he hs) fun D σ H ⟨B, τ, tm, F, ω, r, hio, q⟩ => ?_
  unfold dSetF at q
  rw [R.sat_bind] at q
  refine ⟨B, τ, tm, F, ω, r, hio, R.sat_mono q (fun x τ1 q1 y H1 F1 ω1 r1 s1 => ?_) (fun _ _ _ x => x.exP)⟩
  split at q1
  case h_2 => exact q1.elim
  rename_i c vs hi
  split at q1
  case h_2 => exact q1.elim
  rename_i o' ho'
  obtain ⟨v, h1, h2⟩ := r1.slot i _ hi
  obtain ⟨a, dx, xs, rfl, hla, ha, hl, hol⟩ := obj_ow h2
  have hlt := (List.getElem?_eq_some_iff.mp hi).1
  refine ⟨_, h1, a, _, dx, _, rfl, ha, ?_⟩
  unfold setF at ho'
  cases hj : ix c with
  | some j =>
    rw [hj] at ho'
    dsimp only at ho'
    split at ho'
    case h_2 => cases ho'
    rename_i t u hu
    cases ho'
    refine ⟨hf.cls c j hj, hf.no c j hj, by rw [List.length_zip]; have := hlen c; omega, ?_⟩
    rw [putF_old hl (hf.at_ c j hj)]
    have ry := fz_ow r1.lastT
    refine q1 σ _ F1 ω1 (Rel.write r1.dropT hla hlt (fun w hw how => ?_) hi)
    rw [h1] at hw
    cases hw
    simp only [Ow]
    refine ⟨a, dx, _, rfl, hla, upd_same, by simpa using hl, ?_⟩
    exact OwL.upd (OwL.setFz ry j hol hu) hla
  | none =>
    rw [hj] at ho'
    dsimp only at ho'
    split at ho'
    case h_2 => cases ho'
    rename_i c' hc'
    cases ho'
    obtain ⟨g1, g2, g3, g4⟩ := hx.fld c c' hc'
    refine ⟨hx.cls c c' hc', hx.no c c' hc', by rw [List.length_zip]; have := hlen c; omega, ?_⟩
    rw [putF_new hl g3]
    have hvl := OwL.length _ _ _ _ hol
    refine q1 σ _ F1 _ (Rel.writeT (p := [vs.length]) r1 hla hlt (fun w hw how hlast => ?_) hi)
    rw [h1] at hw
    cases hw
    have hTB := r1.lt
    simp only [Ow]
    refine ⟨a, dx, xs ++ [y], rfl, ?_, ?_, by rw [g1]; simp [hl], ?_⟩
    · have hne : i ≠ TB + tm.length := by omega
      exact mv_ne hla hne
    · rw [upd_same, g1, g2]
    · have hne : i ≠ TB + tm.length := by omega
      have z1 : OwL Ψ.Γ (mv ω1 (TB + tm.length) i [vs.length]) F1 (upd H1 a (.ins (Ψ.Γ.cls c) dx ((Ψ.Γ.fld c ++ [f]).zip (xs ++ [y])))) i [] 0 xs vs := by
        have := OwL.upd (ob := .ins (Ψ.Γ.cls c) dx ((Ψ.Γ.fld c ++ [f]).zip (xs ++ [y]))) hol hla
        exact OwL.move (fun _ _ e => e) vs [] [] 0 xs (fun b q z => ⟨mv_ne z hne, rfl⟩) this
      refine OwL.append z1 ?_
      simp only [OwL]
      refine ⟨y, [], rfl, ?_, rfl⟩
      have hy : y ≠ .ref a ∨ True := .inr trivial
      refine Ow.move (fun _ _ e => e) x [] [0 + vs.length] y (fun b q z => ⟨?_, ?_⟩) hlast
      · have := mv_at (i' := i) (s := [vs.length]) z
        simpa using this
      · refine upd_ne fun w => ?_
        subst w
        rw [hla] at z
        exact hne (congrArg Prod.fst (Option.some.inj z))
end
end TL
set_option Elab.async false
set_option linter.all false
set_option maxRecDepth 100000
set_option maxHeartbeats 0
/-! TL18: own objects: made, methods, properties. -/
namespace TL
open PySem PySem.Spec L2

section
variable {X : Cx} {Ψ : Sx} {e o : Expr} {es : List Expr} {pos apos p : Pos} {da : DE} {dl : DL} {x m : Str} {f C : Addr} {fd : FuncData} {ps : List Str} {k n i : Nat} {io : List Nat} {mm : Env → R O}
/-- a wish of exceptions that looks at no slots -/
def FreeW (W : WX) : Prop := ∀ cls d σ σ' H, W cls d σ H → W cls d σ' H
theorem freeW_e {E : XK} : FreeW (wE E) := fun _ _ _ _ _ w => w
theorem freeW_nox : FreeW Ψ.nox.W := fun _ _ _ _ _ w => w
theorem passes_free (tk : Takes X Ψ.W) (hW : FreeW Ψ.W) : Passes (L2.CX X.prog X.w) X (fun cls d H => Ψ.W cls d [] H) := fun pins σ H s e s' I c => tk e s' (XE.of_call I (fun cls d H' h => hW cls d [] σ H' h) c)
/-! ### C(..) -/
def dMake (c0 n : Nat) (mm : Env → R O) (dl : DL) : DO := fun τ => (dl τ).bind fun ts τ1 => if ts.length + 1 = n then match mm (some (.obj c0 []) :: ts.map fun t => some (.fz t)) with
  | .ok o τ' => match o, τ'[0]? with
    | .fz .non, some (some o') => .ok o' τ1
    | _, _ => .st
  | .er e fs _ => .er e fs τ1
  | .st => .st else .st
/-- the object's places become the result's -/
def up0 (ω' : Lab) : Lab := fun b => match ω' b with
  | some (0, r) => some (TB, r)
  | _ => none
theorem up0_some {ω' : Lab} {b : Addr} {q : Nat × List Nat} (h : up0 ω' b = some q) : ∃ r, ω' b = some (0, r) ∧ q = (TB, r) := by
  unfold up0 at h
  split at h
  · rename_i r hr
    exact ⟨r, hr, (Option.some.inj h).symm⟩
  · cases h
theorem make_post {Γ : Gam} {H1 F1 H' F' : Hp} {ω1 ω' : Lab} {y dx : Addr} {ob : HO} {vs vs' : List V} {τ' : Env} (hy : H1 y = none) (hd : H1 dx = none) (hne : dx ≠ y) (pp : Post Γ [0] vs (upd (upd H1 dx (.own y)) y ob) F1 (fun b => if b = y then some (0, []) else none) τ' H' F' ω') :
    Post Γ [] vs' H1 F1 (inL [] ω1) τ' H' F' (up0 ω') where
  keep := fun b o e _ => pp.keep b o (by rw [upd_ne (ne_of_none e hy), upd_ne (ne_of_none e hd)]; exact e) (if_neg (ne_of_none e hy))
  ff := pp.ff
  fh := pp.fh
  fr := fun b o e => by
    rcases pp.fr b o e with h | h | ⟨q, h⟩
    · exact .inl h
    · refine .inr (.inl ?_)
      cases z : H1 b with
      | none => rfl
      | some u =>
        rw [upd_ne (ne_of_none z hy), upd_ne (ne_of_none z hd), z] at h
        cases h
    · by_cases hb : b = y
      · subst hb
        exact .inr (.inl hy)
      · rw [if_neg hb] at h
        cases h
  fo := fun b o e => by
    cases z : up0 ω' b with
    | none => rfl
    | some q =>
      obtain ⟨r, h1, _⟩ := up0_some z
      rw [pp.fo b o e] at h1
      cases h1
  oh := fun b q e => by
    obtain ⟨r, h1, _⟩ := up0_some e
    exact pp.oh b _ h1
  lb := fun b q e => by
    obtain ⟨r, h1, _⟩ := up0_some e
    rcases pp.lb b _ h1 with h | ⟨q', h⟩
    · refine .inl ?_
      cases z : H1 b with
      | none => rfl
      | some u =>
        rw [upd_ne (ne_of_none z hy), upd_ne (ne_of_none z hd), z] at h
        cases h
    · by_cases hb : b = y
      · subst hb
        exact .inl hy
      · rw [if_neg hb] at h
        cases h
  fin := fun k hk => absurd hk (by simp)
theorem make_road {c0 : Nat} (hc : Ψ.Γ.cls c0 = C) (hf : Ψ.Γ.fld c0 = []) {E : XK} {σ : St} {H : Hp} {Q : VK} (hE : ∀ cls d H', Ψ.W cls d σ H' → E cls d H') (q : tO Ψ (dMake c0 n mm dl) σ H Q) : tMake C (spM Ψ.Γ n [0] mm) [] E (tA Ψ dl) σ H Q := by
  obtain ⟨B, τ, tm, F, ω, r, hbio, q⟩ := q
  unfold dMake at q
  rw [R.sat_bind] at q
  refine ⟨B, τ, tm, F, ω, r, hbio, R.sat_mono q (fun ts τ1 q1 vs H1 F1 ω1 r1 s1 p1 y dx hy hdx hne => ?_) (fun _ _ _ x => x)⟩
  split at q1
  case isFalse => exact q1.elim
  rename_i hn
  have hlv := RpL.length _ _ p1
  have nF : ∀ {b : Addr} {u : HO}, F1 b = some u → b ≠ y ∧ b ≠ dx := fun {b u} e => ⟨ne_of_none (r1.fh _ _ e) hy, ne_of_none (r1.fh _ _ e) hdx⟩
  have sub1 : Sub F1 (upd (upd H1 dx (.own y)) y (.ins C dx [])) := fun b u e => by rw [upd_ne (nF e).1, upd_ne (nF e).2]; exact r1.fh _ _ e
  refine ⟨.obj c0 [] :: ts.map O.fz, F1, fun b => if b = y then some (0, []) else none, by simp [hlv, hn], by simp [hn], sub1, fun b u e => if_neg (nF e).1, fun b q e => ?_, fun k u e => ?_, ?_⟩
  · by_cases hb : b = y
    · subst hb
      exact ⟨_, upd_same⟩
    · have e : (if b = y then some (0, []) else none) = some q := e
      rw [if_neg hb] at e
      cases e
  · cases k with
    | zero =>
      simp at e
      subst e
      refine ⟨.ref y, rfl, ?_⟩
      simp only [Ow]
      exact ⟨y, dx, [], rfl, if_pos rfl, by rw [upd_same, hc, hf]; rfl, by rw [hf]; rfl, by simp only [OwL]⟩
    | succ k =>
      simp only [List.getElem?_cons_succ, List.getElem?_map] at e
      cases z : ts[k]? with
      | none => rw [z] at e; cases e
      | some t =>
        rw [z] at e
        cases e
        obtain ⟨v, h1, h2⟩ := RpL.get p1 z
        exact ⟨v, by simpa using h1, by simpa only [Ow] using h2⟩
  · have ee : (O.obj c0 [] :: ts.map O.fz).map some = some (.obj c0 []) :: ts.map fun t => some (.fz t) := by simp
    rw [ee]
    cases zm : mm (some (.obj c0 []) :: ts.map fun t => some (.fz t)) with
    | st => rw [zm] at q1; exact q1
    | ok o τ' =>
      rw [zm] at q1
      dsimp only at q1
      split at q1
      case h_2 => exact q1.elim
      rename_i o' ho'
      intro v H' F' ω' pp hr
      refine ⟨by simpa only [Ow, Rp] using hr, ?_⟩
      obtain ⟨w, h1, h2⟩ := pp.fin 0 (by simp) o' ho'
      simp at h1
      subst h1
      have r2 := Rel.called (is := []) (vs := vs) (fin := τ') r1 (by simp) (by simp) (Nat.zero_le _) (fun j i v h => by simp at h) [] (fun j h => absurd h (Nat.not_lt_zero _)) (Nat.zero_le _) (make_post hy hdx hne pp)
      refine q1 (.ref y) H' F' _ (Rel.withRes r2 (Ow.move (fun _ _ e => e) o' [] [] _ (fun b q z => ⟨?_, rfl⟩) h2)) (s1.trans pp.ff)
      unfold up0
      rw [z]
      rfl
    | er e fs τ' =>
      rw [zm] at q1
      dsimp only at q1
      intro cls dd H' F' ω' pp xx
      have r2 := Rel.called (is := []) (vs := vs) (fin := τ') r1 (by simp) (by simp) (Nat.zero_le _) (fun j i v h => by simp at h) [] (fun j h => absurd h (Nat.not_lt_zero _)) (Nat.zero_le _) (make_post hy hdx hne pp)
      exact hE _ _ _ (q1 cls dd H' F' _ tm r2 xx)
theorem do_make {c0 : Nat} (tk : Takes X Ψ.W) (hW : FreeW Ψ.W) (M : Mk X.K C f) (F : FnOk X.prog X.w X.K X.mg X.base (L2.CX X.prog X.w) k f fd ps (spM Ψ.Γ n [0] mm)) (hr : Room (k + 1) X.A) (hg : Gl X x) (hm : X.mg x = some (.ref C)) (hb : Binds X.K fd ps []) (hc : Ψ.Γ.cls c0 = C) (hf : Ψ.Γ.fld c0 = [])
    (ha : PA X (e :: es) (tA Ψ dl)) (hdb : (x == ("__debug__" : Str)) = false := by decide) (he : starEach (e :: es) X.env = (false, eval e X.env) :: starEach es X.env := by rfl) (hpl : (backTo pos (starEach es X.env)).any (·.1) = false := by rfl) :
    PE X (.Call (.Name x p) (e :: es) [] pos) (tO Ψ (dMake c0 n mm dl)) :=
  PE.imp (pe_make M F hr hg hm hb .nil (passes_free tk hW) ha hdb he hpl) fun σ H Q q => make_road hc hf (fun cls d H' w => hW cls d σ [] H' w) q

/-! ### o.m(..) of an owned object -/
def dMethO (n i : Nat) (cs : Nat → Bool) (mm : Env → R O) (dl : DL) : DO := fun τ => match τ[i]? with
  | some (some (.obj c _)) => if cs c then dCallF n [i] mm dl τ else .st
  | _ => .st
structure MetOk (Γ : Gam) (K : PySem.W.Frag) (C f : Addr) (m : Str) (cs : Nat → Bool) : Prop where
  cls : Cls K C
  met : Meth K C m f
  at_ : ∀ c, cs c = true → Γ.cls c = C ∧ (Γ.fld c).findIdx? (fun g => m == g) = none
theorem lookup_none {α : Type} {f : Str} : ∀ {l : List Str} {xs : List α}, l.findIdx? (fun g => f == g) = none → (l.zip xs).lookup f = none
  | [], xs, h => rfl
  | g :: l, [], h => rfl
  | g :: l, x :: xs, h => by
    rw [List.findIdx?_cons] at h
    cases hg : f == g with
    | true => rw [hg] at h; simp at h
    | false =>
      rw [hg] at h
      simp only [Bool.false_eq_true, if_false, Option.map_eq_none_iff] at h
      show List.lookup f ((g, x) :: l.zip xs) = none
      simp only [List.lookup, hg]
      exact lookup_none h
theorem methO_road {cs : Nat → Bool} (mo : MetOk Ψ.Γ X.K C f m cs) (hi : i < TB) {E : XK} {σ : St} {H : Hp} {Q : VK} (hE : ∀ cls d H', Ψ.W cls d σ H' → E cls d H') (h0 : 0 ∈ io) (q : tO Ψ (dMethO n i cs mm dl) σ H Q) : tMeth C m (spM Ψ.Γ n io mm) [] E (tVar i) (tA Ψ dl) σ H Q := by
  obtain ⟨B, τ, tm, F, ω, r, hbio, q⟩ := q
  unfold dMethO at q
  split at q
  case h_2 => exact q.elim
  rename_i c vs hτ
  split at q
  case isFalse => exact q.elim
  rename_i hcs
  obtain ⟨hC, hl⟩ := mo.at_ c hcs
  obtain ⟨v, hv, how⟩ := r.slot i _ hτ
  obtain ⟨a, dx, xs, rfl, hla, ha, hlen, _⟩ := obj_ow how
  have z := callF_road (Ψ := Ψ) (is := [i]) (n := n) (m := mm) (d := dl) (io := io) (by simp) (by simpa using hi) (by show 1 ≤ TB; decide) (fun j hj => by
    have hz : j = 0 := by simpa using hj
    rw [hz]
    exact h0) (σ := σ) (H := H) (Q := Q) ⟨B, τ, tm, F, ω, r, hbio, q⟩
  obtain ⟨v', hv', z⟩ := z
  rw [hv] at hv'
  cases hv'
  refine ⟨_, hv, a, dx, _, rfl, by rw [ha, hC], lookup_none hl, ?_⟩
  obtain ⟨B2, τ2, tm2, F2, ω2, r2, hb2, z⟩ := z
  refine ⟨B2, τ2, tm2, F2, ω2, r2, hb2, R.sat_mono z (fun ts τ3 q3 ws H3 F3 ω3 r3 s3 p3 => ?_) (fun _ _ _ x => x)⟩
  have q4 := q3 ws H3 F3 ω3 r3 s3 p3
  obtain ⟨os, F4, ω4, g1, g2, g3, g4, g5, g6, g7⟩ := q4
  exact ⟨os, F4, ω4, g1, g2, g3, g4, g5, g6, R.sat_mono g7 (fun _ _ y => y) (fun e fs τ' y cls d H' F' ω' pp xx => hE _ _ _ (y cls d H' F' ω' pp xx))⟩
theorem do_methO {cs : Nat → Bool} {pl : Sem Bool} (tk : Takes X Ψ.W) (hW : FreeW Ψ.W) (mo : MetOk Ψ.Γ X.K C f m cs) (ho : PE X o (tVar i)) (F : FnOk X.prog X.w X.K X.mg X.base (L2.CX X.prog X.w) k f fd ps (spM Ψ.Γ n io mm)) (hi : i < TB) (h0 : 0 ∈ io) (hr : Room k X.A) (hb : Binds X.K fd ps []) (ha : PA X (e :: es) (tA Ψ dl))
    (h1 : ∀ {dvs : List V} {ds : List Value} {E : XK} {ta : TE} {t : TA}, Binds X.K fd ps ds → Vals dvs ds → Passes (L2.CX X.prog X.w) X E → PE X o ta → PA X (e :: es) t → PE X (.Call (.Attribute o m apos) (e :: es) [] pos) (tMeth C m (spM Ψ.Γ n io mm) dvs E ta t)) :
    PE X (.Call (.Attribute o m apos) (e :: es) [] pos) (tO Ψ (dMethO n i cs mm dl)) :=
  PE.imp (h1 hb .nil (passes_free tk hW) ho ha) fun σ H Q q => methO_road mo hi (fun cls d H' w => hW cls d σ [] H' w) h0 q
theorem do_methO0 {cs : Nat → Bool} {pl : Sem Bool} (tk : Takes X Ψ.W) (hW : FreeW Ψ.W) (mo : MetOk Ψ.Γ X.K C f m cs) (ho : PE X o (tVar i)) (F : FnOk X.prog X.w X.K X.mg X.base (L2.CX X.prog X.w) k f fd ps (spM Ψ.Γ n io mm)) (hi : i < TB) (h0 : 0 ∈ io) (hr : Room k X.A) (hb : Binds X.K fd ps [])
    (h1 : ∀ {dvs : List V} {ds : List Value} {E : XK} {ta : TE}, Binds X.K fd ps ds → Vals dvs ds → Passes (L2.CX X.prog X.w) X E → PE X o ta → PE X (.Call (.Attribute o m apos) [] [] pos) (tMeth C m (spM Ψ.Γ n io mm) dvs E ta tNil)) :
    PE X (.Call (.Attribute o m apos) [] [] pos) (tO Ψ (dMethO n i cs mm dNil)) :=
  PE.imp (h1 hb .nil (passes_free tk hW) ho) fun σ H Q q => by
    obtain ⟨v, hv, a, dx, fs, e1, e2, e3, z⟩ := methO_road mo hi (fun cls d H' w => hW cls d σ [] H' w) h0 q
    obtain ⟨B2, τ2, tm2, F2, ω2, r2, hb2, z⟩ := z
    exact ⟨v, hv, a, dx, fs, e1, e2, e3, z [] H F2 ω2 r2 (fun _ _ e => e) (by simp only [RpL])⟩
end
end TL
set_option Elab.async false
set_option linter.all false
set_option maxRecDepth 100000
set_option maxHeartbeats 0
/-! TL19: functions as facts; more built-ins; displays of owned things. -/
namespace TL
open PySem PySem.Spec L2

/-- a def by its name -/
structure Fn (P : Program) (w : World) (K : PySem.W.Frag) (mg : Str → Option Value) (base : Heap) (Γ : Gam) (k : Nat) (x : Str) (n : Nat) (io : List Nat) (m : Env → R O) : Prop where
  ex : ∃ f fd ps, FnOk P w K mg base (L2.CX P w) k f fd ps (spM Γ n io m) ∧ mg x = some (.ref f) ∧ PySem.W.keepIn K (.ref f) = true ∧ Binds K fd ps []
section
variable {X : Cx} {Ψ : Sx} {e a b : Expr} {es : List Expr} {pos p : Pos} {d : DL} {x : Str} {k k' n : Nat} {io : List Nat} {m : Env → R O}
theorem do_fn {is : List Nat} (tk : Takes X Ψ.W) (C : Fn X.prog X.w X.K X.mg X.base Ψ.Γ k x n io m) (hr : Room k' X.A) (hk : k ≤ k') (hg : Gl X x) (hn : is.Nodup) (hib : ∀ i ∈ is, i < TB) (hl : is.length ≤ TB) (hio : ∀ j, j < is.length → j ∈ io) (ha : PA X (e :: es) (tAs Ψ is d))
    (hdb : (x == ("__debug__" : Str)) = false := by decide) (he : starEach (e :: es) X.env = (false, eval e X.env) :: starEach es X.env := by rfl) (hpl : (backTo pos (starEach es X.env)).any (·.1) = false := by rfl) : PE X (.Call (.Name x p) (e :: es) [] pos) (tO Ψ (dCallF n is m d)) := by
  obtain ⟨f, fd, ps, F, hm, hkp, hb⟩ := C.ex
  exact do_call tk F (hr.mono hk) hg hm hkp hb hn hib hl hio ha hdb he hpl
theorem do_fn0 (tk : Takes X Ψ.W) (C : Fn X.prog X.w X.K X.mg X.base Ψ.Γ k x n io m) (hr : Room k' X.A) (hk : k ≤ k') (hg : Gl X x) (ha : PA X (e :: es) (tA Ψ d))
    (hdb : (x == ("__debug__" : Str)) = false := by decide) (he : starEach (e :: es) X.env = (false, eval e X.env) :: starEach es X.env := by rfl) (hpl : (backTo pos (starEach es X.env)).any (·.1) = false := by rfl) : PE X (.Call (.Name x p) (e :: es) [] pos) (tO Ψ (dCallF n [] m d)) :=
  do_fn tk C hr hk hg (by simp) (by simp) (Nat.zero_le _) (fun j h => absurd h (Nat.not_lt_zero _)) ha hdb he hpl
end
section
variable {P : Program} {w : World} {K : PySem.W.Frag} {mg : Str → Option Value} {base : Heap} {Γ : Gam}
abbrev FnP (K : PySem.W.Frag) (x : Str) (st : Stmt) (f : Addr) (fd : FuncData) : Prop := FunD K x x (defArgs st) (defBody st) (defScope st) [] [] f fd
/-- a def of the text becomes a fact -/
theorem mkFn {x : Str} {st : Stmt} {f : Addr} {fd : FuncData} {N ps : List Str} {k : Nat} {io : List Nat} {d : DS} (F : FnP K x st f fd) (g : mg x = some (.ref f)) (S : FnScope N ps (defScope st)) (hTB : N.length ≤ TB) (hio : ∀ j ∈ io, j < ps.length)
    (hb : Binds K fd ps []) (h : ∀ (cdv : Value) (A : Around) (outer : List PySem.Env) (s : Shared) (H : Hp) (E : XK), Room k (A.deeper (PyProof.Rows.envOfC x (defScope st) s.heap.objs.size f cdv)) → PSs (cxT P w K mg base N x (defScope st) f cdv A outer s H E) (defBody st) (tS ⟨Γ, wE E, io, [], []⟩ d)) :
    Fn P w K mg base Γ (k + 1) x ps.length io (dFn N.length d) :=
  ⟨f, fd, ps, fn_T F S hTB hio h, g, F.kp, hb⟩
end
theorem vL {sc : Scope} {x : Str} (h : sc.names.lookup x = some .local := by rfl) : Vis sc x := Or.inl h
theorem vC {sc : Scope} {x : Str} (h : sc.names.lookup x = some .cell := by rfl) : Vis sc x := Or.inr (Or.inl h)
theorem vF {sc : Scope} {x : Str} (h : sc.names.lookup x = some .free := by rfl) : Vis sc x := Or.inr (Or.inr h)
theorem lL {sc : Scope} {x : Str} (h : sc.names.lookup x = some .local := by rfl) : Loc sc x := Or.inl h
theorem lC {sc : Scope} {x : Str} (h : sc.names.lookup x = some .cell := by rfl) : Loc sc x := Or.inr h
theorem _root_.L2.Room.units1 {k : Nat} {A : Around} (r : Room k A) : A.units + 1 < cLine := by have := r.un; omega
theorem rp_ty {Γ : Gam} {F : Hp} {n : String} : Rp Γ F (.ty n) (.ty n) := by simp only [Rp]
theorem bt_len : bootBuiltins "len" = some (.builtin "len") := by decide +kernel
theorem bt_sum : bootBuiltins "sum" = some (.builtin "sum") := by decide +kernel
theorem bt_any : bootBuiltins "any" = some (.builtin "any") := by decide +kernel
theorem bt_all : bootBuiltins "all" = some (.builtin "all") := by decide +kernel
theorem bt_max : bootBuiltins "max" = some (.builtin "max") := by decide +kernel
theorem bt_min : bootBuiltins "min" = some (.builtin "min") := by decide +kernel
theorem bt_isinstance : bootBuiltins "isinstance" = some (.builtin "isinstance") := by decide +kernel
theorem bt_sorted : bootBuiltins "sorted" = some (.builtin "sorted") := by decide +kernel
theorem bt_int : bootBuiltins "int" = some (.type "int") := by decide +kernel
theorem bt_str : bootBuiltins "str" = some (.type "str") := by decide +kernel
theorem bt_tuple : bootBuiltins "tuple" = some (.type "tuple") := by decide +kernel
theorem bt_list : bootBuiltins "list" = some (.type "list") := by decide +kernel
theorem bt_bool : bootBuiltins "bool" = some (.type "bool") := by decide +kernel
theorem bt_dict : bootBuiltins "dict" = some (.type "dict") := by decide +kernel
theorem nio {io : List Nat} {i : Nat} (h : io.contains i = false := by rfl) : i ∉ io := fun z => by
  have y := List.contains_iff_mem.mpr z
  rw [h] at y
  cases y
theorem nios {io l : List Nat} (h : (l.all fun i => !io.contains i) = true := by rfl) : ∀ i ∈ l, i ∉ io := fun i hi z => by
  have y := List.all_eq_true.mp h i hi
  rw [List.contains_iff_mem.mpr z] at y
  cases y
theorem nins {l m : List Nat} (h : (l.all fun i => m.contains i) = true := by rfl) : ∀ i ∈ l, i ∈ m := fun i hi => List.contains_iff_mem.mp (List.all_eq_true.mp h i hi)
theorem blk_of {N : List Str} {sc scope : Scope} {own : List (Str × Nat)} (h1 : scope.kind = .function) (h2 : ∀ y ∈ scope.names, scope.names.lookup y.1 = some y.2) (h3 : ∀ p ∈ own, N[p.2]? = some p.1)
    (h4 : ∀ y ∈ scope.names, y.2 = .free → sc.names.lookup y.1 = some .cell ∨ sc.names.lookup y.1 = some .free) (h5 : ∀ y ∈ scope.names, y.2 = .local ∨ y.2 = .cell → y.1 ∈ own.map (·.1) ∨ y.1 ∉ N) : BlkOk N sc scope own := ⟨h1, h2, h3, h4, h5⟩
end TL
set_option Elab.async false
set_option linter.all false
set_option maxRecDepth 100000
set_option maxHeartbeats 0
/-! TL20: children of owned things: looked at, set; displays of owned things; starred. -/
namespace TL
open PySem PySem.Spec L2

section
variable {X : Cx} {Ψ : Sx} {e a b x ix : Expr} {es : List Expr} {pos p p1 pos' : Pos} {da db dk : DE} {d dv : DO} {dl : DL} {r : DLO} {i j : Nat}
/-! ### a child of what an owned slot holds, the child frozen -/
def chT : O → T → Option T
  | .lst l, .int n => (ixN l.length n).bind fun m => match l[m]? with
    | some (.fz t) => some t
    | _ => none
  | .dic ks vs, k => (keyT k).bind fun j => match getA ks vs j with
    | some (.fz t) => some t
    | _ => none
  | _, _ => none
def dIxO (i : Nat) (dk : DE) : DE := fun τ => match τ[i]? with
  | some (some o) => match dk (ro τ) with
    | .ok k _ => if flatT k then match chT o k with
      | some t => .ok t τ
      | none => .st else .st
    | _ => .st
  | _ => .st
theorem OwL.getA {Γ : Gam} {F H : Hp} {ω : Lab} {r : List Nat} {i : Nat} {κ : Type} [DecidableEq κ] {k : κ} {t : T} : ∀ {ks : List κ} {os : List O} {j : Nat} {xs : List V}, OwL Γ ω F H i r j xs os → xs.length = ks.length → TL.getA ks os k = some (.fz t) → ∃ v, TL.getA ks xs k = some v ∧ Rp Γ F v t
  | [], os, j, xs, h, hl, e => by simp [TL.getA] at e
  | q :: ks, [], j, xs, h, hl, e => by simp [TL.getA] at e
  | q :: ks, o :: os, j, xs, h, hl, e => by
    simp only [OwL] at h
    obtain ⟨y, s, rfl, h1, h2⟩ := h
    simp only [TL.getA] at e ⊢
    split at e
    · rename_i hq
      rw [if_pos hq]
      cases e
      exact ⟨y, rfl, fz_ow h1⟩
    · rename_i hq
      rw [if_neg hq]
      exact OwL.getA h2 (by simpa using hl) e
theorem de_ixO (hu : X.A.units + 1 < cLine) (hx : PE X a (tVar i)) (hb : PE X b (tE Ψ dk)) (hs : PlainIx b := by intro _ _; rfl) : PE X (.Subscript a b pos) (tE Ψ (dIxO i dk)) := by
  refine PE.imp (PE.or2 (pe_ix ix_list hx (pe_ro hb) hs) (pe_dget hu hx (pe_ro hb) hs)) fun σ H Q ⟨B, τ, tm, F, ω, rl, hio, q⟩ => ?_
  unfold dIxO at q
  split at q
  case h_2 => exact q.elim
  rename_i o ho
  split at q
  case h_2 => exact q.elim
  rename_i k τ1 hk
  split at q
  case isFalse => exact q.elim
  rename_i hf
  split at q
  case h_2 => exact q.elim
  rename_i t ht
  obtain ⟨v, hv, how⟩ := rl.slot i o ho
  unfold chT at ht
  split at ht
  · rename_i l n
    cases hn : ixN l.length n with
    | none => rw [hn] at ht; cases ht
    | some m =>
      rw [hn] at ht
      simp only [Option.bind_some] at ht
      split at ht
      case h_2 => cases ht
      rename_i t' hm
      cases ht
      obtain ⟨a', xs, rfl, hla, hxa, hol⟩ := lst_ow how
      refine .inl ⟨_, hv, B, τ, tm, F, ω, _, τ1, rl, hio, hk, hf, fun w H' sub r' pw => ?_⟩
      obtain ⟨y, h1, h2⟩ := OwL.get hol hm
      simp only [Rp] at pw
      refine ⟨a', xs, n, y, rfl, pw, .of (sub _ _ hxa), ?_, q y H' F ω r' (fun _ _ e => e) (fz_ow h2)⟩
      unfold L2.atI
      rw [OwL.length _ _ _ _ hol, hn]
      exact h1
  · rename_i ks vs
    cases hn : keyT k with
    | none => rw [hn] at ht; cases ht
    | some m =>
      rw [hn] at ht
      simp only [Option.bind_some] at ht
      split at ht
      case h_2 => cases ht
      rename_i t' hm
      cases ht
      obtain ⟨a', xs, rfl, hla, hxa, hlen, hol⟩ := dic_ow how
      obtain ⟨y, h1, h2⟩ := OwL.getA hol hlen hm
      refine .inr ⟨_, hv, B, τ, tm, F, ω, _, τ1, rl, hio, hk, hf, fun w H' sub r' pw => ?_⟩
      refine ⟨a', y, rfl, .inl ⟨_, kK m, .inl (sub _ _ hxa), key_rp hn pw, ?_⟩, q y H' F ω r' (fun _ _ e => e) h2⟩
      rw [valV_zip kK (fun _ _ => kK_inj), h1]
  · cases ht
/-! ### x[j][ix] = value: a list in an owned list -/
def tIxC (i j : Nat) : TE := fun σ H Q => ∃ a xs v, σ[i]? = some (some (.ref a)) ∧ H a = some (.lst xs) ∧ xs[j]? = some v ∧ Q v H
theorem pe_ixC (hx : PE X x (tVar i)) {c : Nat} {p2 p3 : Pos} : PE X (.Subscript x (.Constant (.int (j : Nat)) c p2) p3) (tIxC i j) := by
  refine PE.imp (pe_ix ix_list hx pe_int (fun _ _ => rfl)) fun σ H Q ⟨a, xs, v, h1, h2, h3, q⟩ => ⟨_, h1, a, xs, (j : Nat), v, rfl, rfl, .of h2, ?_, q⟩
  have hlt := (List.getElem?_eq_some_iff.mp h3).1
  unfold L2.atI
  have : ixN xs.length ((j : Nat) : Int) = some j := by
    unfold ixN
    simp [hlt]
  rw [this]
  exact h3
def setLL (l : List O) (j : Nat) (k : T) (o : O) : Option (List O) := match l[j]?, k, o with
  | some (.lst l3), .int n, .fz t => (ixN l3.length n).bind fun m => match l3[m]? with
    | some (.fz _) => some (l.set j (.lst (l3.set m (.fz t))))
    | _ => none
  | _, _, _ => none
def dSetLL (i j : Nat) (dk : DE) (dv : DO) : DS := fun τ => (dv τ).bind fun o τ1 => match τ1[i]? with
  | some (some (.lst l)) => match dk (ro τ1) with
    | .ok k _ => if flatT k then match setLL l j k o with
      | some l2 => .ok .nx (τ1.set i (some (.lst l2)))
      | none => .st else .st
    | _ => .st
  | _ => .st
theorem ds_setLL (hk : PE X ix (tE Ψ dk)) (he : PE X e (tO Ψ dv))
    (h1 : ∀ {te ti : TE}, PE X e te → PE X ix ti → PS X (.Assign [.Subscript a ix pos'] e pos) (tAsg te (gSub (tIxC i j) ti rSetL))) : PS X (.Assign [.Subscript a ix pos'] e pos) (tS Ψ (dSetLL i j dk dv)) := by
  refine PS.imp (h1 he (pe_ro hk)) fun D σ H ⟨B, τ, tm, F, ω, r, hio, q⟩ => ?_
  unfold dSetLL at q
  rw [R.sat_bind] at q
  refine ⟨B, τ, tm, F, ω, r, hio, R.sat_mono q (fun o τ1 q1 v H1 F1 ω1 r1 s1 => ?_) (fun _ _ _ x => x.exP)⟩
  split at q1
  case h_2 => exact q1.elim
  rename_i l hl
  split at q1
  case h_2 => exact q1.elim
  rename_i k τ2 hk
  split at q1
  case isFalse => exact q1.elim
  rename_i hf
  split at q1
  case h_2 => exact q1.elim
  rename_i l2 hl2
  obtain ⟨w, hw, how⟩ := r1.slot i _ hl
  obtain ⟨a', xs, rfl, hla, hxa, hol⟩ := lst_ow how
  unfold setLL at hl2
  split at hl2
  case h_2 => cases hl2
  rename_i l3 n t hj
  cases hn : ixN l3.length n with
  | none => rw [hn] at hl2; cases hl2
  | some m =>
    rw [hn] at hl2
    simp only [Option.bind_some] at hl2
    split at hl2
    case h_2 => cases hl2
    rename_i t0 hm
    cases hl2
    obtain ⟨y, hy, hoy⟩ := OwL.get hol hj
    obtain ⟨b', ys, rfl, hlb, hyb, hol3⟩ := lst_ow hoy
    have hlt := (List.getElem?_eq_some_iff.mp hl).1
    refine ⟨a', xs, _, hw, hxa, hy, B, τ1, tm ++ [(v, .fz t)], F1, ω1, _, τ2, r1, hio, hk, hf, fun u H' sub r' pu => ?_⟩
    simp only [Rp] at pu
    refine ⟨b', ys, n, m, rfl, pu, sub _ _ hyb, by rw [OwL.length _ _ _ _ hol3]; exact hn, ?_⟩
    have ry := fz_ow r'.lastT
    refine q1 σ _ F1 ω1 (Rel.write r'.dropT hlb hlt (fun w2 hw2 how2 => ?_) hl)
    rw [hw] at hw2
    cases hw2
    obtain ⟨a2, xs2, ea, hla2, hxa2, hol2⟩ := lst_ow how2
    cases ea
    have hxx : xs2 = xs := by
      rw [sub _ _ hxa] at hxa2
      cases hxa2
      rfl
    subst hxx
    have hne : a' ≠ b' := fun z => by
      rw [← z, hla] at hlb
      have := congrArg Prod.snd (Option.some.inj hlb)
      simp at this
    simp only [Ow]
    refine ⟨a', xs2, rfl, hla2, by rw [upd_ne hne]; exact hxa2, ?_⟩
    obtain ⟨y2, hy2, hoy2⟩ := OwL.get hol2 hj
    rw [hy] at hy2
    cases hy2
    obtain ⟨b2, ys2, eb, hlb2, hyb2, hol4⟩ := lst_ow hoy2
    cases eb
    have hyy : ys2 = ys := by
      rw [sub _ _ hyb] at hyb2
      cases hyb2
      rfl
    subst hyy
    have hx0 : xs2.set j (.ref b') = xs2 := by
      have hlt2 := (List.getElem?_eq_some_iff.mp hy)
      obtain ⟨h5, h6⟩ := hlt2
      rw [← h6]
      exact List.set_getElem_self h5
    have z := OwL.put (F' := F1) (H' := upd H' b' (.lst (ys2.set m v))) (ω' := ω1) (x' := .ref b') (o' := .lst (l3.set m (.fz t))) j (fun _ _ e => e) (fun c q n0 hn0 z2 => ⟨z2, upd_ne fun w => by
      rw [w, hlb2] at z2
      have h5 := congrArg Prod.snd (Option.some.inj z2)
      have h6 := congrArg List.length h5
      simp at h6
      subst h6
      simp at h5
      omega⟩) hol2 (by
      simp only [Ow]
      exact ⟨b', ys2.set m v, rfl, hlb2, upd_same, OwL.upd (OwL.setFz ry m hol4 hm) hlb2⟩)
    rw [hx0] at z
    exact z
end
end TL
set_option Elab.async false
set_option linter.all false
set_option maxRecDepth 100000
set_option maxHeartbeats 0
/-! TL21: lists of owned things, starred arguments, isinstance of several classes, int of a text, fields counted up, properties. -/
namespace TL
open PySem PySem.Spec L2

section
variable {Γ : Gam} {B : Bs} {τ : Env} {tm : List (V × O)} {σ : St} {H F : Hp} {ω : Lab}
/-- the labels of n roots from T0 on are moved below the list at p -/
def gather (ω : Lab) (q : Addr) (T0 n : Nat) : Lab := fun b => if b = q then some (T0, []) else match ω b with
  | some (j, r) => if T0 ≤ j ∧ j < T0 + n then some (T0, r ++ [j - T0]) else some (j, r)
  | none => none
theorem gather_q {q : Addr} {T0 n : Nat} : gather ω q T0 n q = some (T0, []) := if_pos rfl
theorem gather_none {q b : Addr} {T0 n : Nat} (h : ω b = none) (hb : b ≠ q) : gather ω q T0 n b = none := by
  unfold gather
  rw [if_neg hb, h]
theorem gather_out {q b : Addr} {T0 n j : Nat} {r : List Nat} (h : ω b = some (j, r)) (hb : b ≠ q) (hj : j < T0) : gather ω q T0 n b = some (j, r) := by
  unfold gather
  rw [if_neg hb, h]
  dsimp only
  rw [if_neg (by omega)]
theorem gather_in {q b : Addr} {T0 n k : Nat} {r : List Nat} (h : ω b = some (T0 + k, r)) (hb : b ≠ q) (hk : k < n) : gather ω q T0 n b = some (T0, r ++ [k]) := by
  unfold gather
  rw [if_neg hb, h]
  dsimp only
  rw [if_pos (by omega), show T0 + k - T0 = k from by omega]
theorem gather_some {q b : Addr} {T0 n : Nat} {p : Nat × List Nat} (h : gather ω q T0 n b = some p) (hb : b ≠ q) : ∃ p', ω b = some p' := by
  cases z : ω b with
  | none => rw [gather_none z hb] at h; cases h
  | some p' => exact ⟨p', rfl⟩
theorem Rel.gatherL {q : Addr} {vs : List V} {os : List O} (r : Rel Γ B τ (tm ++ vs.zip os) σ H F ω) (hq : H q = none) (hl : vs.length = os.length) : ∃ ω', Rel Γ B τ (tm ++ [(.ref q, .lst os)]) σ (upd H q (.lst vs)) F ω' := by
  have np : ∀ b u, H b = some u → b ≠ q := fun b u e => ne_of_none e hq
  have nl : ∀ {b : Addr} {p : Nat × List Nat}, ω b = some p → b ≠ q := fun {b p} e => let ⟨u, hu⟩ := r.oh b p e; np b u hu
  have keep : ∀ {i : Nat} {v : V} {o : O}, i < TB + tm.length → Ow Γ ω F H i [] v o → Ow Γ (gather ω q (TB + tm.length) os.length) F (upd H q (.lst vs)) i [] v o := fun {i v o} hi h =>
    Ow.move (fun _ _ e => e) o [] [] v (fun b p z => ⟨gather_out z (nl z) hi, upd_ne (nl z)⟩) h
  have hz : (vs.zip os).length = os.length := by simp [hl]
  refine ⟨gather ω q (TB + tm.length) os.length, r.relab r.len r.lt (fun b o e => ?_) (fun _ _ e => e) (fun b o e => ?_) (fun b o e => ?_) (fun b p e => ?_) (fun b o e => ?_) (fun b o e => ?_) (fun _ _ _ _ e => e) (fun j o' e => ?_) (fun j v' o' e => ?_) r.io⟩
  · rw [upd_ne (np _ _ (r.fh _ _ e))]; exact r.fh _ _ e
  · rw [upd_ne (np _ _ (r.fh _ _ e))]; exact r.fh _ _ e
  · exact gather_none (r.fo b o e) (np _ _ (r.fh _ _ e))
  · by_cases hb : b = q
    · subst hb
      exact ⟨_, upd_same⟩
    · obtain ⟨p', hp⟩ := gather_some e hb
      rw [upd_ne hb]
      exact r.oh b p' hp
  · rw [upd_ne (np _ _ (r.gh _ _ e))]; exact r.gh _ _ e
  · exact gather_none (r.go b o e) (np _ _ (r.gh _ _ e))
  · obtain ⟨v, h1, h2⟩ := r.slot j o' e
    have hj := (List.getElem?_eq_some_iff.mp e).1
    have := r.lt
    exact ⟨v, h1, keep (by omega) h2⟩
  · by_cases hj : j < tm.length
    · rw [List.getElem?_append_left hj] at e
      exact keep (by omega) (r.tmp j v' o' (by rw [List.getElem?_append_left hj]; exact e))
    · rw [List.getElem?_append_right (by omega)] at e
      have hj' : j - tm.length = 0 := by
        have := (List.getElem?_eq_some_iff.mp e).1
        simp at this
        omega
      rw [hj'] at e
      simp at e
      obtain ⟨rfl, rfl⟩ := e
      have : j = tm.length := by omega
      subst this
      simp only [Ow]
      refine ⟨q, vs, rfl, gather_q, upd_same, ?_⟩
      have key : ∀ (os1 : List O) (vs1 : List V) (k0 : Nat), vs1.length = os1.length → (∀ k v o, (vs1.zip os1)[k]? = some (v, o) → (vs.zip os)[k0 + k]? = some (v, o)) → OwL Γ (gather ω q (TB + tm.length) os.length) F (upd H q (.lst vs)) (TB + tm.length) [] k0 vs1 os1 := by
        intro os1
        induction os1 with
        | nil =>
          intro vs1 k0 h1 _
          have : vs1 = [] := List.eq_nil_of_length_eq_zero (by simpa using h1)
          subst this
          simp only [OwL]
        | cons o os1 ih =>
          intro vs1 k0 h1 h2
          cases vs1 with
          | nil => simp at h1
          | cons v vs1 =>
            simp only [OwL]
            refine ⟨v, vs1, rfl, ?_, ih vs1 (k0 + 1) (by simpa using h1) fun k v' o' e => ?_⟩
            · have h3 := h2 0 v o rfl
              have h4 := (List.getElem?_eq_some_iff.mp h3).1
              have h5 := r.tmp (tm.length + k0) v o (by rw [List.getElem?_append_right (by omega)]; simpa using h3)
              refine Ow.move (fun _ _ e => e) o [] [k0] v (fun b p z => ⟨?_, upd_ne (nl z)⟩) h5
              have h6 : ω b = some (TB + tm.length + k0, p ++ []) := by rw [z]; congr 2; omega
              have := gather_in (n := os.length) h6 (nl z) (by omega)
              simpa using this
            · have := h2 (k + 1) v' o' (by simpa using e)
              rw [show k0 + 1 + k = k0 + (k + 1) by omega]
              exact this
      exact key os vs 0 hl fun k v o e => by simpa using e
end
section
variable {X : Cx} {Ψ : Sx} {e a b o : Expr} {es : List Expr} {pos p apos : Pos} {da : DE} {r : DLO} {d : DL} {i : Nat} {f : Str}
def dLstO (r : DLO) : DO := fun τ => (r τ).bind fun os τ1 => if os.length ≤ SZ then .ok (.lst os) τ1 else .st
theorem do_lstO (h : PA X es (tAO Ψ r)) : PE X (.List es pos) (tO Ψ (dLstO r)) := by
  refine PE.imp (pe_lst h) fun σ H Q ⟨B, τ, tm, F, ω, rl, hio, w⟩ => ?_
  unfold dLstO at w
  rw [R.sat_bind] at w
  refine ⟨B, τ, tm, F, ω, rl, hio, R.sat_mono w (fun os τ1 q1 vs H1 F1 ω1 hl r1 s1 => ?_) (fun _ _ _ x => x)⟩
  split at q1
  case isFalse => exact q1.elim
  rename_i hz
  refine ⟨by rw [hl]; exact szL hz, fun q hq => ?_⟩
  obtain ⟨ω2, r2⟩ := r1.gatherL hq hl
  exact q1 (.ref q) _ F1 ω2 r2 s1
/-! ### *e in an argument list -/
def starL : T → Option (List T)
  | .lst l => some l
  | .tup l => some l
  | _ => none
def dStar (d : DE) (r : DL) : DL := fun τ => (d τ).bind fun t τ1 => match starL t with
  | some l => (r τ1).map fun xs => l ++ xs
  | none => .st
theorem da_star (hK : X.K = Ψ.Γ.K) {p0 : Pos} (h : PE X e (tE Ψ da)) (hr : PA X es (tA Ψ d)) (h1 : ∀ {te : TE} {t : TA}, PE X e te → PA X es t → PA X (.Starred e p0 :: es) (StX.tStar X.K te t)) : PA X (.Starred e p0 :: es) (tA Ψ (dStar da d)) := by
  refine PA.imp (h1 h hr) fun σ H Q ⟨B, τ, tm, F, ω, rl, hio, w⟩ => ?_
  unfold dStar at w
  rw [R.sat_bind] at w
  refine ⟨B, τ, tm, F, ω, rl, hio, R.sat_mono w (fun t τ1 q1 v H1 F1 ω1 r1 s1 p1 => ?_) (fun _ _ _ x => x)⟩
  unfold starL at q1
  have fin : ∀ {l : List T} {xs : List V}, RpL Ψ.Γ F1 xs l → (match (some l : Option (List T)) with
      | some l => (d τ1).map fun xs => l ++ xs
      | none => .st).sat (fun ts τ' => ∀ vs H' F' ω', Rel Ψ.Γ B τ' tm σ H' F' ω' → Sub F F' → RpL Ψ.Γ F' vs ts → Q vs H') (exP Ψ B σ) → tA Ψ d σ H1 fun ys H2 => Q (xs ++ ys) H2 := fun {l xs} ra q => by
    have q : ((d τ1).map fun xs => l ++ xs).sat _ _ := q
    rw [R.sat_map] at q
    exact ⟨B, τ1, tm, F1, ω1, r1, hio, R.sat_mono q (fun ts τ2 q2 ys H2 F2 ω2 r2 s2 p2 => q2 _ H2 F2 ω2 r2 (s1.trans s2) (RpL.append (RpL.mono s2 _ _ ra) p2)) (fun _ _ _ x => x)⟩
  cases t <;> first | exact q1.elim | skip
  · simp only [Rp] at p1
    obtain ⟨q, xs, rfl, hq, ra⟩ := p1
    exact ⟨q, xs, rfl, .inl (.of (r1.fh _ _ hq)), fin ra q1⟩
  · simp only [Rp] at p1
    obtain ⟨q, xs, rfl, hq, ra⟩ := p1
    exact ⟨q, xs, rfl, .inr (.of (r1.fh _ _ hq)), fin ra q1⟩
/-! ### int of a text -/
def intTS : List T → Option T
  | [.str s] => if s.length ≤ 640 then (PySem.intText? (mkStr s)).map .int else none
  | l => intT l
theorem callT_intS {Γ : Gam} : CallT Γ X (.type "int") intTS := by
  refine CallT.or call_int1 call_int_str fun ts u H F xs Q h sub r n => ?_
  unfold intTS at h
  split at h
  · rename_i s
    split at h
    case isFalse => cases h
    rename_i hl
    cases z : PySem.intText? (mkStr s) with
    | none => rw [z] at h; cases h
    | some k =>
      rw [z] at h
      cases h
      obtain ⟨x, rfl, rx⟩ := rp1 r
      simp only [Rp] at rx
      subst rx
      exact .inr ⟨_, k, rfl, z, by rw [mkStr_length]; exact hl, n.same sub rp_int⟩
  · unfold intT at h
    split at h
    · cases h
      obtain ⟨x, rfl, rx⟩ := rp1 r
      simp only [Rp] at rx
      exact .inl (.inl ⟨_, by rw [rx], n.same sub rp_int⟩)
    · cases h
      obtain ⟨x, rfl, rx⟩ := rp1 r
      simp only [Rp] at rx
      exact .inl (.inr ⟨_, by rw [rx], n.same sub rp_int⟩)
    · cases h
end
end TL
set_option Elab.async false
set_option linter.all false
set_option maxRecDepth 100000
set_option maxHeartbeats 0
/-! TL22: own objects by value: properties, ==, len; fields counted up. -/
namespace TL
open PySem PySem.Spec L2

section
variable {Γ : Gam} {B : Bs} {τ : Env} {tm : List (V × O)} {σ : St} {H F : Hp} {ω : Lab}
/-- a call that is handed frozen things alone -/
theorem pure_call {n : Nat} {m : Env → R O} {ts : List T} {vs : List V} {Q : VK} {E : XK} (r : Rel Γ B τ tm σ H F ω) (p : RpL Γ F vs ts) (hn : ts.length = n)
    (q : (m (ts.map fun t => some (.fz t))).sat (fun o _ => ∀ v H' F' ω', Rel Γ B τ (tm ++ [(v, o)]) σ H' F' ω' → Sub F F' → Q v H') (fun e fs _ => ∀ cls d H' F' ω', Rel Γ B τ tm σ H' F' ω' → Γ.xr e fs cls d H' → E cls d H')) : spM Γ n [] m vs H Q E := by
  have hlv := RpL.length _ _ p
  refine ⟨ts.map O.fz, F, inL [] ω, by omega, by simp [hn], r.fh, fun b o e => ?_, fun b y e => ?_, fun k o e => ?_, ?_⟩
  · unfold inL
    rw [r.fo b o e]
  · obtain ⟨i, h1, h2⟩ := inL_some e
    simp at h2
  · rw [List.getElem?_map] at e
    cases z : ts[k]? with
    | none => rw [z] at e; cases e
    | some t =>
      rw [z] at e
      cases e
      obtain ⟨v, h1, h2⟩ := RpL.get p z
      exact ⟨v, h1, by simpa only [Ow] using h2⟩
  · have ee : (ts.map O.fz).map some = ts.map fun t => some (.fz t) := by simp
    rw [ee]
    refine R.sat_mono q (fun o τ' q1 v H' F' ω' pp hr => ?_) (fun e fs τ' q1 cls d H' F' ω' pp xx => ?_)
    · have r2 := Rel.called (is := []) (vs := vs) (fin := τ') r (by simp) (by simp) (Nat.zero_le _) (fun j i v h => by simp at h) [] (fun j h => absurd h (Nat.not_lt_zero _)) (Nat.zero_le _) pp
      exact q1 v H' F' _ (Rel.withRes r2 hr) pp.ff
    · have r2 := Rel.called (is := []) (vs := vs) (fin := τ') r (by simp) (by simp) (Nat.zero_le _) (fun j i v h => by simp at h) [] (fun j h => absurd h (Nat.not_lt_zero _)) (Nat.zero_le _) pp
      exact q1 cls d H' F' _ r2 xx
end
section
variable {X : Cx} {Ψ : Sx} {e a b o : Expr} {es : List Expr} {pos p apos pos' : Pos} {da db : DE} {d : DL} {i k n : Nat} {f : Str} {C g fa : Addr} {fd : FuncData} {ps : List Str} {m : Env → R O} {cs : Nat → Bool}
/-! ### o.f, a property, o frozen -/
def dProp (cs : Nat → Bool) (m : Env → R O) (da : DE) : DO := fun τ => (da τ).bind fun t τ1 => match t with
  | .obj c _ => if cs c then match m [some (.fz t)] with
    | .ok o _ => .ok o τ1
    | _ => .st else .st
  | _ => .st
theorem do_prop {q : Addr} (hcs : ∀ c, cs c = true → Ψ.Γ.cls c = C) (ho : PE X o (tE Ψ da)) (c : Cls X.K C) (hp : PropOf X.K C f q g) (F : FnOk X.prog X.w X.K X.mg X.base (L2.CX X.prog X.w) k g fd ps (spM Ψ.Γ 1 [] m)) (hr : Room (k + 1) X.A) (hb : Binds X.K fd ps [])
    (h1 : ∀ {dvs : List V} {ds : List Value} {E : XK} {ta : TE}, PE X o ta → Binds X.K fd ps ds → Vals dvs ds → Passes (L2.CX X.prog X.w) X.nox E → PE X (.Attribute o f pos) (tProp C (spM Ψ.Γ 1 [] m) dvs E ta)) : PE X (.Attribute o f pos) (tO Ψ (dProp cs m da)) := by
  have hx : Passes (L2.CX X.prog X.w) X.nox (fun _ _ _ => False) := fun pins σ H s e s' I ⟨_, _, _, _, _, _, _, _, _, _, _, _, z⟩ => z
  refine PE.imp (h1 ho hb .nil hx) fun σ H Q ⟨B, τ, tm, F, ω, rl, hio, w⟩ => ?_
  unfold dProp at w
  rw [R.sat_bind] at w
  refine ⟨B, τ, tm, F, ω, rl, hio, R.sat_mono w (fun t τ1 q1 v H1 F1 ω1 r1 s1 p1 => ?_) (fun _ _ _ x => x)⟩
  cases t <;> first | exact q1.elim | skip
  rename_i c0 vs
  dsimp only at q1
  split at q1
  case isFalse => exact q1.elim
  rename_i hc
  have p1' := p1
  simp only [Rp] at p1
  obtain ⟨a0, dx, xs, rfl, ha, hl, ra⟩ := p1
  refine ⟨a0, dx, _, rfl, by rw [← hcs c0 hc]; exact r1.fh _ _ ha, ?_⟩
  refine pure_call (ts := [.obj c0 vs]) r1 (RpL.one p1') rfl ?_
  show (m [some (.fz (.obj c0 vs))]).sat _ _
  cases z : m [some (.fz (.obj c0 vs))] with
  | ok u τ' =>
    rw [z] at q1
    exact fun v H' F' ω' r' s' => q1 v H' F' ω' r' (s1.trans s')
  | er e fs τ' => rw [z] at q1; exact q1.elim
  | st => rw [z] at q1; exact q1.elim
/-! ### a == b, a of an own class with its own == -/
def dEqO (cs : Nat → Bool) (m : Env → R O) (da db : DE) : DE := fun τ => (da τ).bind fun s τ1 => (db τ1).bind fun t τ2 => match s, t with
  | .obj c _, .obj c' _ => if cs c && cs c' then match m [some (.fz s), some (.fz t)] with
    | .ok (.fz (.bl r)) _ => .ok (.bl r) τ2
    | _ => .st else .st
  | _, _ => .st
theorem op_eqO {E : XK} {sp : Sp} (F : FnOk X.prog X.w X.K X.mg X.base (L2.CX X.prog X.w) k fa fd ps sp) (hs : PySem.W.findIn X.K (.ref C) "__eq__" = some (some (.ref fa))) (hf : PySem.W.isFn X.K (.ref fa) = true) (hb : Binds X.K fd ps []) (hr : Room k X.A) (hx : Passes (L2.CX X.prog X.w) X E) :
    OpR X (compareOp .Eq) (fun x y H Q => ∃ a b dx dy fs gs, x = .ref a ∧ y = .ref b ∧ H a = some (.ins C dx fs) ∧ H b = some (.ins C dy gs) ∧ sp [.ref a, .ref b] H (fun v H' => ∃ r, v = .bl r ∧ Q v H') E) := by
  intro pins s σ H x y v u Q I rx ry hq
  obtain ⟨a, b, dx, dy, fs, gs, rfl, rfl, ha, hb', hsp⟩ := hq
  cases rx
  cases ry
  obtain ⟨mA, J, _⟩ := ins_get I.hok ha
  obtain ⟨mB, J', _⟩ := ins_get I.hok hb'
  obtain ⟨od, J, _⟩ := J.look
  obtain ⟨od', J', _⟩ := J'.look
  obtain ⟨m0, hF⟩ := I.fr
  show wpAny (model X.prog X.w) X.A (richCompare .Eq (.ref a) (.ref b)) (EP X pins σ Q) X.xe s
  refine PySem.W.cmp_K (op := .Eq) (tb := .ref C) hr.units0 hF I.ok.mod.kin J J'.type (by simp [PySem.W.notFirst]) hs hf ?_
  have hl := F.len _ _ _ _ hsp
  have r2 : Vals [V.ref a, V.ref b] [Value.ref a, Value.ref b] := .cons rfl (.cons rfl .nil)
  refine wpAny_call (codeAny_mono (F.run X.A X.stack s H ⟨[.ref a, .ref b], []⟩ [.ref a, .ref b] [.ref a, .ref b] _ E hr I.env0 (by
    have := hb s [.ref a, .ref b] I.kIn (by simpa using hl)
    simpa using this) r2 hsp) fun r s' hq => ?_)
  cases r with
  | error e => exact hx pins σ H s e s' I hq
  | ok fl =>
    cases fl with
    | ret w =>
      obtain ⟨z, H', I', rz, r, ez, q⟩ := I.after hq
      subst ez
      cases rz
      exact ⟨.bl r, H', I', rfl, q⟩
    | next => exact False.elim hq
    | brk => exact False.elim hq
    | cont => exact False.elim hq
theorem eqO_road {E : XK} {σ : St} {H : Hp} {Q : VK} (hE : ∀ cls d H', Ψ.W cls d σ H' → E cls d H') (hcs : ∀ c, cs c = true → Ψ.Γ.cls c = C) (w : tE Ψ (dEqO cs m da db) σ H Q) : tOp (fun x y H Q => ∃ a b dx dy fs gs, x = .ref a ∧ y = .ref b ∧ H a = some (.ins C dx fs) ∧ H b = some (.ins C dy gs) ∧ spM Ψ.Γ 2 [] m [.ref a, .ref b] H (fun v H' => ∃ r, v = .bl r ∧ Q v H') E) (tE Ψ da) (tE Ψ db) σ H Q := by
  obtain ⟨B, τ, tm, F, ω, rl, hio, w⟩ := w
  unfold dEqO at w
  rw [R.sat_bind] at w
  refine ⟨B, τ, tm, F, ω, rl, hio, R.sat_mono w (fun s τ1 q1 v1 H1 F1 ω1 r1 s1 p1 => ?_) (fun _ _ _ x => x)⟩
  rw [R.sat_bind] at q1
  refine ⟨B, τ1, tm, F1, ω1, r1, hio, R.sat_mono q1 (fun t τ2 q2 v2 H2 F2 ω2 r2 s2 p2 => ?_) (fun _ _ _ x => x)⟩
  split at q2
  case h_2 => exact q2.elim
  rename_i c vs c' ws
  split at q2
  case isFalse => exact q2.elim
  rename_i hc
  rw [Bool.and_eq_true] at hc
  have p1' := Rp.mono s2 _ _ p1
  have p1'' := p1'
  have p2'' := p2
  simp only [Rp] at p1' p2
  obtain ⟨a0, dx, xs, rfl, ha0, hl, ra⟩ := p1'
  obtain ⟨b0, dy, ys, rfl, hb0, hl2, rb⟩ := p2
  refine ⟨a0, b0, dx, dy, _, _, rfl, rfl, by rw [← hcs c hc.1]; exact r2.fh _ _ ha0, by rw [← hcs c' hc.2]; exact r2.fh _ _ hb0, ?_⟩
  refine pure_call (ts := [.obj c vs, .obj c' ws]) r2 (RpL.cons p1'' (RpL.one p2'')) rfl ?_
  show (m [some (.fz (.obj c vs)), some (.fz (.obj c' ws))]).sat _ _
  cases z : m [some (.fz (.obj c vs)), some (.fz (.obj c' ws))] with
  | ok u τ' =>
    rw [z] at q2
    split at q2
    case h_2 => exact q2.elim
    rename_i r0 τ'' he
    cases he
    intro v H' F' ω' r' s'
    have := r'.lastT
    simp only [Ow, Rp] at this
    subst this
    exact ⟨_, rfl, q2 _ H' F' ω' r'.dropT (s1.trans (s2.trans s')) rp_bl⟩
  | er e fs τ' => rw [z] at q2; exact q2.elim
  | st => rw [z] at q2; exact q2.elim
theorem de_eqO (tk : Takes X Ψ.W) (hW : FreeW Ψ.W) (hcs : ∀ c, cs c = true → Ψ.Γ.cls c = C) (F : FnOk X.prog X.w X.K X.mg X.base (L2.CX X.prog X.w) k fa fd ps (spM Ψ.Γ 2 [] m)) (hs : PySem.W.findIn X.K (.ref C) "__eq__" = some (some (.ref fa))) (hf : PySem.W.isFn X.K (.ref fa) = true) (hb : Binds X.K fd ps [])
    (hr : Room k X.A) (ha : PE X a (tE Ψ da)) (hb2 : PE X b (tE Ψ db)) (hm : behindInMarks .Eq b = false) : PE X (.Compare a [.Eq] [b] pos) (tE Ψ (dEqO cs m da db)) :=
  PE.imp (pe_cmpR (op_eqO F hs hf hb hr (passes_free tk hW)) ha hb2 hm) fun σ H Q w => eqO_road (fun cls d H' w => hW cls d σ [] H' w) hcs w
theorem dt_eqO (tk : Takes X Ψ.W) (hW : FreeW Ψ.W) (hcs : ∀ c, cs c = true → Ψ.Γ.cls c = C) (F : FnOk X.prog X.w X.K X.mg X.base (L2.CX X.prog X.w) k fa fd ps (spM Ψ.Γ 2 [] m)) (hs : PySem.W.findIn X.K (.ref C) "__eq__" = some (some (.ref fa))) (hf : PySem.W.isFn X.K (.ref fa) = true) (hb : Binds X.K fd ps [])
    (hr : Room k X.A) (ha : PE X a (tE Ψ da)) (hb2 : PE X b (tE Ψ db)) (hm : behindInMarks .Eq b = false) : PT X (.Compare a [.Eq] [b] pos) (tT Ψ (dBl (dEqO cs m da db))) :=
  PT.imp (pt_cmpR (op_eqO F hs hf hb hr (passes_free tk hW)) ha hb2 hm) fun σ H Q w => eqO_road (fun cls d H' w => hW cls d σ [] H' w) hcs (bl_of w)
end
end TL
set_option Elab.async false
set_option linter.all false
set_option maxRecDepth 100000
set_option maxHeartbeats 0
/-! TL23: a field counted up; isinstance of more; classes and methods as facts. -/
namespace TL
open PySem PySem.Spec L2

section
variable {X : Cx} {Ψ : Sx} {e a b o value : Expr} {es : List Expr} {pos p apos tpos : Pos} {da db : DE} {d : DL} {i : Nat} {f : Str} {ix : Nat → Option Nat}
/-- o.f += value, whole numbers -/
def dIncF (i : Nat) (ix : Nat → Option Nat) (de : DE) : DS := fun τ => match τ[i]? with
  | some (some (.obj c vs)) => match (ix c).bind fun j => vs[j]? with
    | some (.fz (.int n)) => (de τ).bind fun t τ1 => match t, τ1[i]? with
      | .int m, some (some (.obj c' vs')) => if c' = c then match ix c with
        | some j => match vs'[j]? with
          | some (.fz _) => .ok .nx (τ1.set i (some (.obj c (vs'.set j (.fz (.int (n + m)))))))
          | _ => .st
        | none => .st else .st
      | _, _ => .st
    | _ => .st
  | _ => .st
theorem ds_incF (hf : FldOk Ψ.Γ X.K f ix) (hlen : ∀ c, (Ψ.Γ.fld c).length < 900) (ho : PE X o (tVar i)) (he : PE X value (tE Ψ da)) : PS X (.AugAssign (.Attribute o f tpos) .Add value pos) (tS Ψ (dIncF i ix da)) := by
  refine PS.imp (ps_fldaug ho he in_add) fun D σ H ⟨B, τ, tm, F, ω, r, hio, q⟩ => ?_
  unfold dIncF at q
  split at q
  case h_2 => exact q.elim
  rename_i c vs hi
  split at q
  case h_2 => exact q.elim
  rename_i n hn
  cases hj : ix c with
  | none => rw [hj] at hn; cases hn
  | some j =>
    rw [hj] at hn
    simp only [Option.bind_some] at hn
    obtain ⟨v, hv, how⟩ := r.slot i _ hi
    obtain ⟨a', dx, xs, rfl, hla, ha, hl, hol⟩ := obj_ow how
    obtain ⟨y, h1, h2⟩ := OwL.get hol hn
    have h2 := fz_ow h2
    simp only [Rp] at h2
    subst h2
    rw [R.sat_bind] at q
    refine ⟨_, hv, a', _, dx, _, _, rfl, ha, hf.cls c j hj, hf.no c j hj, (by rw [lookup_zip (hf.at_ c j hj)]; exact h1), B, τ, tm, F, ω, r, hio, R.sat_mono q (fun t τ1 q1 w H1 F1 ω1 r1 s1 p1 => ?_) (fun _ _ _ x => x.exP)⟩
    split at q1
    case h_2 => exact q1.elim
    rename_i m c' vs' hi'
    split at q1
    case isFalse => exact q1.elim
    rename_i hc
    subst hc
    rw [hj] at q1
    dsimp only at q1
    split at q1
    case h_2 => exact q1.elim
    rename_i t0 ht0
    simp only [Rp] at p1
    subst p1
    obtain ⟨v2, hv2, how2⟩ := r1.slot i _ hi'
    rw [hv] at hv2
    cases hv2
    obtain ⟨a2, dx2, xs2, ea, hla2, ha2, hl2, hol2⟩ := obj_ow how2
    cases ea
    have hlt := (List.getElem?_eq_some_iff.mp hi').1
    refine ⟨n, m, rfl, rfl, dx2, _, ha2, by rw [List.length_zip]; have := hlen c'; omega, ?_⟩
    rw [putF_old hl2 (hf.at_ c' j hj)]
    refine q1 σ _ F1 ω1 (Rel.write r1 hla2 hlt (fun w hw how => ?_) hi')
    rw [hv] at hw
    cases hw
    simp only [Ow]
    refine ⟨a', dx2, _, rfl, hla2, upd_same, by simpa using hl2, ?_⟩
    exact OwL.upd (OwL.setFz rp_int j hol2 ht0) hla2
/-! ### isinstance(x, C), C one class or several -/
def tyNs : List T → Option (List String)
  | [] => some []
  | .ty n :: r => (tyNs r).map fun l => n :: l
  | _ => none
def isiTT : List T → Option T
  | [t, .ty b] => isiT [t, .ty b]
  | [t, .tup l] => match tyN t, tyNs l with
    | some a, some bs => if bs.all (fun b => ["int", "bool", "str", "tuple", "list", "dict"].contains b) then some (.bl (bs.any (isTab a))) else none
    | _, _ => none
  | _ => none
theorem kit_any {K : PySem.W.Frag} {a : String} (ha : a ∈ ["NoneType", "bool", "int", "str", "list", "tuple", "dict"]) : ∀ bs : List String, bs.all (fun b => ["int", "bool", "str", "tuple", "list", "dict"].contains b) = true → PySem.W.kitAny K (.type a) (bs.map Value.type) = some (bs.any (isTab a))
  | [], _ => rfl
  | b :: bs, h => by
    rw [List.all_cons, Bool.and_eq_true] at h
    have ih := kit_any (K := K) ha bs h.2
    have h1 : b ∈ ["int", "bool", "str", "tuple", "list", "dict"] := List.contains_iff_mem.mp h.1
    have h2 := kit_ty (K := K) (kit_tab ha h1)
    refine kitAny_cons h2 (fun hb => ?_) (fun hb => ?_)
    · rw [ih, List.any_cons, hb, Bool.false_or]
    · rw [List.any_cons, hb, Bool.true_or]
theorem tyNs_rp {Γ : Gam} {F : Hp} : ∀ {l : List T} {bs : List String} {cs : List V}, tyNs l = some bs → RpL Γ F cs l → Paired ClsV cs (bs.map Value.type)
  | [], bs, cs, h, r => by
    simp only [tyNs, Option.some.injEq] at h
    simp only [RpL] at r
    subst h; subst r
    exact .nil
  | t :: l, bs, cs, h, r => by
    simp only [RpL] at r
    obtain ⟨x, s, rfl, r1, r2⟩ := r
    cases t <;> first | (simp only [tyNs] at h; cases h; done) | skip
    rename_i n
    simp only [tyNs] at h
    cases z : tyNs l with
    | none => rw [z] at h; cases h
    | some bs' =>
      rw [z] at h
      cases h
      simp only [Rp] at r1
      subst r1
      exact .cons (.ty n) (tyNs_rp z r2)
theorem callT_isiT {Γ : Gam} : CallT Γ X (.builtin "isinstance") isiTT := by
  obtain ⟨r1, h1, g1⟩ := callT_isi (Γ := Γ) (X := X)
  refine CallT.or h1 call_isiT fun ts u H F xs Q h sub r n => ?_
  unfold isiTT at h
  split at h
  · exact .inl (g1 _ _ _ _ _ _ h sub r n)
  · rename_i t l
    split at h
    case h_2 => cases h
    rename_i a0 bs hty hbs
    split at h
    case isFalse => cases h
    rename_i hall
    cases h
    obtain ⟨x, y, rfl, rx, ry⟩ := rp2 r
    simp only [Rp] at ry
    obtain ⟨q, cs, rfl, hq, rc⟩ := ry
    have ha : a0 ∈ ["NoneType", "bool", "int", "str", "list", "tuple", "dict"] := by
      unfold tyN at hty
      split at hty <;> cases hty <;> decide
    exact .inr ⟨x, q, cs, .type a0, bs.map Value.type, _, rfl, sub _ _ hq, tyNs_rp hbs rc, tyX_of hty sub rx, kit_any ha bs hall, n.same sub rp_bl⟩
  · cases h
end
/-! ### classes as facts -/
structure Mt (P : Program) (w : World) (K : PySem.W.Frag) (mg : Str → Option Value) (base : Heap) (Γ : Gam) (k : Nat) (C : Addr) (x : Str) (n : Nat) (io : List Nat) (m : Env → R O) : Prop where
  ex : ∃ f fd ps, FnOk P w K mg base (L2.CX P w) k f fd ps (spM Γ n io m) ∧ Meth K C x f ∧ Binds K fd ps []
structure Nw' (P : Program) (w : World) (K : PySem.W.Frag) (mg : Str → Option Value) (base : Heap) (Γ : Gam) (k : Nat) (C : Addr) (x : Str) (n : Nat) (m : Env → R O) : Prop where
  ex : ∃ f fd ps, FnOk P w K mg base (L2.CX P w) k f fd ps (spM Γ n [0] m) ∧ Mk K C f ∧ mg x = some (.ref C) ∧ Binds K fd ps []
section
variable {P : Program} {w : World} {K : PySem.W.Frag} {mg : Str → Option Value} {base : Heap} {Γ : Gam}
abbrev FnM (K : PySem.W.Frag) (x qual : Str) (st : Stmt) (f : Addr) (fd : FuncData) : Prop := FunD K x qual (defArgs st) (defBody st) (defScope st) [] [] f fd
theorem mkMt {x qual : Str} {C : Addr} {st : Stmt} {f : Addr} {fd : FuncData} {N ps : List Str} {k : Nat} {io : List Nat} {d : DS} (F : FnM K x qual st f fd) (g : Meth K C x f) (S : FnScope N ps (defScope st)) (hTB : N.length ≤ TB) (hio : ∀ j ∈ io, j < ps.length)
    (hb : Binds K fd ps []) (h : ∀ (cdv : Value) (A : Around) (outer : List PySem.Env) (s : Shared) (H : Hp) (E : XK), Room k (A.deeper (PyProof.Rows.envOfC qual (defScope st) s.heap.objs.size f cdv)) → PSs (cxT P w K mg base N qual (defScope st) f cdv A outer s H E) (defBody st) (tS ⟨Γ, wE E, io, [], []⟩ d)) :
    Mt P w K mg base Γ (k + 1) C x ps.length io (dFn N.length d) := ⟨f, fd, ps, fn_T F S hTB hio h, g, hb⟩
theorem mkNw {x qual : Str} {C : Addr} {st : Stmt} {f : Addr} {fd : FuncData} {N ps : List Str} {k : Nat} {d : DS} (F : FnM K "__init__" qual st f fd) (g : Mk K C f) (hm : mg x = some (.ref C)) (S : FnScope N ps (defScope st)) (hTB : N.length ≤ TB) (hio : ∀ j ∈ [0], j < ps.length)
    (hb : Binds K fd ps []) (h : ∀ (cdv : Value) (A : Around) (outer : List PySem.Env) (s : Shared) (H : Hp) (E : XK), Room k (A.deeper (PyProof.Rows.envOfC qual (defScope st) s.heap.objs.size f cdv)) → PSs (cxT P w K mg base N qual (defScope st) f cdv A outer s H E) (defBody st) (tS ⟨Γ, wE E, [0], [], []⟩ d)) :
    Nw' P w K mg base Γ (k + 1) C x ps.length (dFn N.length d) := ⟨f, fd, ps, fn_T F S hTB hio h, g, hm, hb⟩
end
section
variable {X : Cx} {Ψ : Sx} {e o : Expr} {es : List Expr} {pos p apos : Pos} {d : DL} {x m : Str} {k k' n i c0 : Nat} {io : List Nat} {mm : Env → R O} {C : Addr} {cs : Nat → Bool}
theorem do_new (tk : Takes X Ψ.W) (hW : FreeW Ψ.W) (N : Nw' X.prog X.w X.K X.mg X.base Ψ.Γ k C x n mm) (hr : Room k' X.A) (hk : k + 1 ≤ k') (hg : Gl X x) (hc : Ψ.Γ.cls c0 = C) (hf : Ψ.Γ.fld c0 = []) (ha : PA X (e :: es) (tA Ψ d))
    (hdb : (x == ("__debug__" : Str)) = false := by decide) (he : starEach (e :: es) X.env = (false, eval e X.env) :: starEach es X.env := by rfl) (hpl : (backTo pos (starEach es X.env)).any (·.1) = false := by rfl) : PE X (.Call (.Name x p) (e :: es) [] pos) (tO Ψ (dMake c0 n mm d)) := by
  obtain ⟨f, fd, ps, F, M, hm, hb⟩ := N.ex
  exact do_make tk hW M F (hr.mono hk) hg hm hb hc hf ha hdb he hpl
theorem do_mt {pl : Sem Bool} (tk : Takes X Ψ.W) (hW : FreeW Ψ.W) (N : Mt X.prog X.w X.K X.mg X.base Ψ.Γ k C m n io mm) (hC : Cls X.K C) (hat : ∀ c, cs c = true → Ψ.Γ.cls c = C ∧ (Ψ.Γ.fld c).findIdx? (fun g => m == g) = none) (ho : PE X o (tVar i)) (hi : i < TB) (h0 : 0 ∈ io) (hr : Room k' X.A) (hk : k ≤ k') (ha : PA X (e :: es) (tA Ψ d))
    (hst : starEach (e :: es) X.env = (false, eval e X.env) :: starEach es X.env := by rfl) (hpl : (backTo pos (starEach es X.env)).any (·.1) = false := by rfl)
    (ht : eval (.Call (.Attribute o m apos) (e :: es) [] pos) X.env = (do
      let ov ← eval o X.env
      standAt apos.atName
      let (f, first) ← holding [ov] (getMethod ov m pl)
      callWith pos f first (backTo pos (starEach (e :: es) X.env)) (backToKw pos (keywordEach [] X.env))) := by rfl) : PE X (.Call (.Attribute o m apos) (e :: es) [] pos) (tO Ψ (dMethO n i cs mm d)) := by
  obtain ⟨f, fd, ps, F, M, hb⟩ := N.ex
  exact do_methO (pl := pl) tk hW ⟨hC, M, hat⟩ ho F hi h0 (hr.mono hk) hb ha fun hb hd hx ho' ha' => pe_meth (pl := pl) ho' hC M F (hr.mono hk) hb hd hx ha' hst hpl ht
theorem do_mt0 {pl : Sem Bool} (tk : Takes X Ψ.W) (hW : FreeW Ψ.W) (N : Mt X.prog X.w X.K X.mg X.base Ψ.Γ k C m n io mm) (hC : Cls X.K C) (hat : ∀ c, cs c = true → Ψ.Γ.cls c = C ∧ (Ψ.Γ.fld c).findIdx? (fun g => m == g) = none) (ho : PE X o (tVar i)) (hi : i < TB) (h0 : 0 ∈ io) (hr : Room k' X.A) (hk : k ≤ k')
    (ht : eval (.Call (.Attribute o m apos) [] [] pos) X.env = (do
      let ov ← eval o X.env
      standAt apos.atName
      let (f, first) ← holding [ov] (getMethod ov m pl)
      callWith pos f first (backTo pos (starEach [] X.env)) (backToKw pos (keywordEach [] X.env))) := by rfl) : PE X (.Call (.Attribute o m apos) [] [] pos) (tO Ψ (dMethO n i cs mm dNil)) := by
  obtain ⟨f, fd, ps, F, M, hb⟩ := N.ex
  exact do_methO0 (pl := pl) tk hW ⟨hC, M, hat⟩ ho F hi h0 (hr.mono hk) hb fun hb hd hx ho' => pe_meth0 (pl := pl) ho' hC M F (hr.mono hk) hb hd hx ht
end
theorem blk_of0 {N : List Str} {sc scope : Scope} {own : List (Str × Nat)} (h1 : scope.kind = .function) (h2 : ∀ y ∈ scope.names, scope.names.lookup y.1 = some y.2) (h3 : ∀ p ∈ own, N[p.2]? = some p.1)
    (h4 : ∀ y ∈ scope.names, y.2 ≠ .free) (h5 : ∀ y ∈ scope.names, y.2 = .local ∨ y.2 = .cell → y.1 ∈ own.map (·.1) ∨ y.1 ∉ N) : BlkOk N sc scope own := ⟨h1, h2, h3, fun y hy e => absurd e (h4 y hy), h5⟩
end TL
set_option Elab.async false
set_option linter.all false
set_option maxRecDepth 100000
set_option maxHeartbeats 0
/-! TL24: what a law's text needs: globals, fields, properties, own == as facts. -/
namespace TL
open PySem PySem.Spec L2

section
variable {X : Cx} {Ψ : Sx} {e a b o : Expr} {es : List Expr} {pos p apos : Pos} {da db : DE} {x f : Str} {t : T} {k k' n : Nat} {C : Addr} {cs : Nat → Bool} {m : Env → R O}
def GlT (Γ : Gam) (mg : Str → Option Value) (x : Str) (t : T) : Prop := ∃ v u, mg x = some u ∧ RelV v u ∧ ∀ F, Rp Γ F v t
theorem de_globX (hg : Gl X x) (h : GlT Ψ.Γ X.mg x t) (hd : (x == ("__debug__" : Str)) = false := by decide) : PE X (.Name x pos) (tE Ψ (dC t)) := by
  obtain ⟨v, u, h1, h2, h3⟩ := h
  exact de_glob hg h1 h2 h3 hd
structure Pr (P : Program) (w : World) (K : PySem.W.Frag) (mg : Str → Option Value) (base : Heap) (Γ : Gam) (k : Nat) (C : Addr) (x : Str) (m : Env → R O) : Prop where
  ex : ∃ q g fd ps, FnOk P w K mg base (L2.CX P w) k g fd ps (spM Γ 1 [] m) ∧ PropOf K C x q g ∧ Binds K fd ps [] ∧ Cls K C
theorem do_propM (c : Pr X.prog X.w X.K X.mg X.base Ψ.Γ k C f m) (hcs : ∀ c, cs c = true → Ψ.Γ.cls c = C) (hr : Room k' X.A) (hk : k + 1 ≤ k') (ho : PE X o (tE Ψ da))
    (hab : attributeBase o f X.env (eval o X.env) = eval o X.env := by rfl) : PE X (.Attribute o f pos) (tO Ψ (dProp cs m da)) := by
  obtain ⟨q, g, fd, ps, F, hp, hb, hc⟩ := c.ex
  exact do_prop hcs ho hc hp F (hr.mono hk) hb fun ho' hb' hd hx => pe_prop ho' hc hp F (hr.mono hk) hb' hd hx hab
theorem de_eqM (tk : Takes X Ψ.W) (hW : FreeW Ψ.W) (c : Mt X.prog X.w X.K X.mg X.base Ψ.Γ k C "__eq__" 2 [] m) (hcs : ∀ c, cs c = true → Ψ.Γ.cls c = C) (hr : Room k' X.A) (hk : k ≤ k') (ha : PE X a (tE Ψ da)) (hb : PE X b (tE Ψ db)) (hm : behindInMarks .Eq b = false) :
    PE X (.Compare a [.Eq] [b] pos) (tE Ψ (dEqO cs m da db)) := by
  obtain ⟨f, fd, ps, F, M, hbd⟩ := c.ex
  exact de_eqO tk hW hcs F M.at_ M.fn hbd (hr.mono hk) ha hb hm
theorem dt_eqM (tk : Takes X Ψ.W) (hW : FreeW Ψ.W) (c : Mt X.prog X.w X.K X.mg X.base Ψ.Γ k C "__eq__" 2 [] m) (hcs : ∀ c, cs c = true → Ψ.Γ.cls c = C) (hr : Room k' X.A) (hk : k ≤ k') (ha : PE X a (tE Ψ da)) (hb : PE X b (tE Ψ db)) (hm : behindInMarks .Eq b = false) :
    PT X (.Compare a [.Eq] [b] pos) (tT Ψ (dBl (dEqO cs m da db))) := by
  obtain ⟨f, fd, ps, F, M, hbd⟩ := c.ex
  exact dt_eqO tk hW hcs F M.at_ M.fn hbd (hr.mono hk) ha hb hm
/-- isinstance(o, C), o of that class -/
def isiO (cs : Nat → Bool) (id : Nat) : List T → Option T
  | [.obj c _, .kl k] => if cs c && k == id then some (.bl true) else none
  | _ => none
structure InsOk (K : PySem.W.Frag) (C : Addr) : Prop where
  cls : Cls K C
  ha : PySem.W.findIn K (.ref C) "__class__" = some (some (.builtin "object.__class__"))
  hn : PySem.W.specialIn K (.builtin "object.__class__") "__get__" = some (some (.builtin "getset_descriptor.__get__"))
  htk : PySem.W.takesIn K (.builtin "object.__class__") = some true
  hm : PySem.W.mroIn K C (.type "object") = some true
theorem callT_isiO {Γ : Gam} {id : Nat} (h : InsOk X.K C) (hcs : ∀ c, cs c = true → Γ.cls c = C) (hid : Γ.cls id = C) : CallT Γ X (.builtin "isinstance") (isiO cs id) := by
  refine ⟨_, call_isi, fun ts u H F xs Q hg sub r n => ?_⟩
  unfold isiO at hg
  split at hg
  case h_2 => cases hg
  rename_i c vs k0
  split at hg
  case isFalse => cases hg
  rename_i hc
  rw [Bool.and_eq_true] at hc
  cases hg
  obtain ⟨x, y, rfl, rx, ry⟩ := rp2 r
  simp only [Rp] at rx ry
  obtain ⟨a, dx, xs, rfl, ha, hl, ra⟩ := rx
  have e1 : Γ.cls k0 = C := by rw [beq_iff_eq.mp hc.2]; exact hid
  rw [e1] at ry
  subst ry
  refine ⟨.ref a, .ref C, .ref C, .ref C, true, rfl, .own C, ?_, ?_, n.same sub rp_bl⟩
  · have ha' := sub _ _ ha
    rw [hcs c hc.1] at ha'
    exact .base (.ins ha' h.cls h.ha h.hn h.htk h.hm)
  · unfold PySem.W.kitOne
    rw [if_pos (by simp)]
end
/-! ### kinds of objects: 10 · the class's number + how many fields stand -/
def ixF (id j : Nat) : Nat → Option Nat := fun c => if c / 10 = id ∧ j < c % 10 then some j else none
def nxF (id j : Nat) : Nat → Option Nat := fun c => if c = 10 * id + j then some (c + 1) else none
def gamF (K : PySem.W.Frag) (cl : Nat → Addr) (fl : Nat → List Str) (xr : Nat → List T → Value → Option Addr → Hp → Prop) : Gam := ⟨K, fun c => cl (c / 10), fun c => (fl (c / 10)).take (c % 10), xr⟩
section
variable {K : PySem.W.Frag} {cl : Nat → Addr} {fl : Nat → List Str} {xr : Nat → List T → Value → Option Addr → Hp → Prop} {f : Str} {id j : Nat}
theorem findIdx_take {p : Str → Bool} : ∀ {l : List Str} {j n : Nat}, l.findIdx? p = some j → j < n → (l.take n).findIdx? p = some j
  | [], j, n, h, _ => by simp at h
  | a :: l, j, 0, h, hn => absurd hn (Nat.not_lt_zero _)
  | a :: l, j, n + 1, h, hn => by
    rw [List.take_succ_cons, List.findIdx?_cons]
    rw [List.findIdx?_cons] at h
    cases hp : p a with
    | true => rw [hp] at h; simpa using h
    | false =>
      rw [hp] at h
      simp at h
      obtain ⟨i, h1, rfl⟩ := h
      have ih := findIdx_take (n := n) h1 (by omega)
      rw [ih]
      rfl
theorem findIdx_take0 {p : Str → Bool} : ∀ {l : List Str} {j : Nat}, l.findIdx? p = some j → (l.take j).findIdx? p = none ∧ l.take (j + 1) = l.take j ++ (l[j]?).toList ∧ ∃ x, l[j]? = some x ∧ p x = true
  | [], j, h => by simp at h
  | a :: l, j, h => by
    rw [List.findIdx?_cons] at h
    cases hp : p a with
    | true =>
      rw [hp] at h
      simp at h
      subst h
      exact ⟨by simp, by simp, a, rfl, hp⟩
    | false =>
      rw [hp] at h
      simp at h
      obtain ⟨i, h1, rfl⟩ := h
      obtain ⟨g1, g2, x, g3, g4⟩ := findIdx_take0 h1
      refine ⟨?_, ?_, x, by simpa using g3, g4⟩
      · rw [List.take_succ_cons, List.findIdx?_cons, hp]
        simp [g1]
      · rw [List.take_succ_cons, g2]
        simp
theorem fldOk (hc : Cls K (cl id)) (hn : NoAttr K (cl id) f) (h : (fl id).findIdx? (fun g => f == g) = some j) : FldOk (gamF K cl fl xr) K f (ixF id j) := by
  have sp : ∀ {c i}, ixF id j c = some i → c / 10 = id ∧ j < c % 10 ∧ i = j := fun {c i} e => by
    unfold ixF at e
    split at e
    · rename_i q
      exact ⟨q.1, q.2, (Option.some.inj e).symm⟩
    · cases e
  refine ⟨fun c i e => ?_, fun c i e => ?_, fun c i e => ?_⟩
  · show Cls K (cl (c / 10))
    rw [(sp e).1]
    exact hc
  · show NoAttr K (cl (c / 10)) f
    rw [(sp e).1]
    exact hn
  · obtain ⟨h1, h2, rfl⟩ := sp e
    show ((fl (c / 10)).take (c % 10)).findIdx? _ = _
    rw [h1]
    exact findIdx_take h h2
theorem nxtOk (hc : Cls K (cl id)) (hn : NoAttr K (cl id) f) (h : (fl id).findIdx? (fun g => f == g) = some j) (hj : j < 9) : NxtOk (gamF K cl fl xr) K f (nxF id j) := by
  have sp : ∀ {c c'}, nxF id j c = some c' → c = 10 * id + j ∧ c' = c + 1 := fun {c c'} e => by
    unfold nxF at e
    split at e
    · rename_i q
      exact ⟨q, (Option.some.inj e).symm⟩
    · cases e
  have dv : (10 * id + j) / 10 = id := by omega
  have md : (10 * id + j) % 10 = j := by omega
  have dv' : (10 * id + j + 1) / 10 = id := by omega
  have md' : (10 * id + j + 1) % 10 = j + 1 := by omega
  refine ⟨fun c c' e => ?_, fun c c' e => ?_, fun c c' e => ?_⟩
  · obtain ⟨rfl, rfl⟩ := sp e
    show Cls K (cl ((10 * id + j) / 10))
    rw [dv]
    exact hc
  · obtain ⟨rfl, rfl⟩ := sp e
    show NoAttr K (cl ((10 * id + j) / 10)) f
    rw [dv]
    exact hn
  · obtain ⟨rfl, rfl⟩ := sp e
    obtain ⟨g1, g2, y, g3, g4⟩ := findIdx_take0 h
    show (fl ((10 * id + j + 1) / 10)).take ((10 * id + j + 1) % 10) = (fl ((10 * id + j) / 10)).take ((10 * id + j) % 10) ++ [f] ∧ cl ((10 * id + j + 1) / 10) = cl ((10 * id + j) / 10) ∧ ((fl ((10 * id + j) / 10)).take ((10 * id + j) % 10)).findIdx? (fun g => f == g) = none ∧ ((fl ((10 * id + j) / 10)).take ((10 * id + j) % 10)).length < 900
    rw [dv, md, dv', md']
    have hy : f = y := beq_iff_eq.mp g4
    refine ⟨by rw [g2, g3, ← hy]; rfl, rfl, g1, ?_⟩
    rw [List.length_take]
    omega
theorem fldN_len {c : Nat} : ((gamF K cl fl xr).fld c).length < 900 := by
  show ((fl (c / 10)).take (c % 10)).length < 900
  rw [List.length_take]
  omega
end
theorem pss_stuck {X : Cx} {Ψ : Sx} {l : List Stmt} : PSs X l (tS Ψ dStuck) := ⟨fun pins s σ H D I ⟨_, _, _, _, _, _, _, q⟩ => q.elim⟩
section
variable {P : Program} {w : World} {K : PySem.W.Frag} {mg : Str → Option Value} {base : Heap} {Γ : Gam}
theorem mkPr {x qual : Str} {C q : Addr} {st : Stmt} {f : Addr} {fd : FuncData} {N ps : List Str} {k : Nat} {d : DS} (F : FnM K x qual st f fd) (g : PropOf K C x q f) (hC : Cls K C) (S : FnScope N ps (defScope st)) (hTB : N.length ≤ TB) (h1 : ps.length = 1)
    (hb : Binds K fd ps []) (h : ∀ (cdv : Value) (A : Around) (outer : List PySem.Env) (s : Shared) (H : Hp) (E : XK), Room k (A.deeper (PyProof.Rows.envOfC qual (defScope st) s.heap.objs.size f cdv)) → PSs (cxT P w K mg base N qual (defScope st) f cdv A outer s H E) (defBody st) (tS ⟨Γ, wE E, [], [], []⟩ d)) :
    Pr P w K mg base Γ (k + 1) C x (dFn N.length d) := ⟨q, f, fd, ps, (by
    have z := fn_T (io := []) F S hTB (by simp) h
    rw [h1] at z
    exact z), g, hb, hC⟩
end
end TL
set_option Elab.async false
set_option linter.all false
set_option maxRecDepth 100000
set_option maxHeartbeats 0
/-! TL25: the head's facts, the getters of properties among them. -/
namespace TL
open PySem PySem.Spec PyProof.Rows L2

/-- a def by the way to its address -/
structure FD where
  ad : PySem.W.Frag → Addr
  name : Str
  qual : Str
  st : Stmt
  cl : List Str
def prA (C f : Str) (K : PySem.W.Frag) : Addr := match PySem.W.findIn K (.ref (He.ga K C)) f with
  | some (some (.ref a)) => a
  | _ => 0
def geA (C f : Str) (K : PySem.W.Frag) : Addr := match PySem.W.recIn K (prA C f K) "property" with
  | some (.ref g :: _) => g
  | _ => 0
def fnA (K : PySem.W.Frag) (a : Addr) : He.FnW := match K.lookup a with
  | some ⟨_, _, .func fd, _⟩ => some (fd.name, fd.qualname, fd.params, fd.body, fd.scope, fd.globals, fd.closure.map fun p => (p.1, 0), fd.builtins)
  | _ => none
def FD.ok (K : PySem.W.Frag) (d : FD) : Bool := PySem.W.keepIn K (.ref (d.ad K)) && (match K.lookup (d.ad K) with
  | some ⟨_, _, .func fd, _⟩ => PySem.W.codeIn K fd.code d.qual && (He.dflB K fd.defaults [] && He.kwdB K fd.kwdefaults [])
  | _ => false)
def FD.val (d : FD) : He.FnW := some (d.name, d.qual, defArgs d.st, .stmts (defBody d.st), defScope d.st, mainGlobals, d.cl.map fun n => (n, 0), builtinsNs)
theorem FD.funD {K : PySem.W.Frag} {d : FD} (hcl : d.cl = []) (e : fnA K (d.ad K) = d.val) (c : d.ok K = true) : ∃ fd, FnM K d.name d.qual d.st (d.ad K) fd := by
  obtain ⟨kp, c2⟩ := He.ba c
  unfold fnA at e
  cases q : K.lookup (d.ad K) with
  | none => rw [q] at c2; cases c2
  | some o =>
    obtain ⟨oc, od, dt, osl⟩ := o
    rw [q] at c2 e
    cases dt with
    | func fd =>
      obtain ⟨m1, m2, m3, m4, m5, m6, m7, m8, m9, m10, m11, m12, m13, m14, m15⟩ := fd
      have e2 : (some (m1, m2, m3, m4, m5, m6, m7.map (fun p => (p.1, 0)), m15) : He.FnW) = some (d.name, d.qual, defArgs d.st, .stmts (defBody d.st), defScope d.st, mainGlobals, d.cl.map (fun n => (n, 0)), builtinsNs) := e
      simp only [Option.some.injEq, Prod.mk.injEq] at e2
      obtain ⟨h1, h2, h3, h4, h5, h6, h7, h8⟩ := e2
      rw [hcl, List.map_nil, List.map_eq_nil_iff] at h7
      subst h1 h2 h3 h4 h5 h6 h7 h8
      have c3 : (PySem.W.codeIn K m13 d.qual && (He.dflB K m8 [] && He.kwdB K m9 [])) = true := c2
      obtain ⟨k1, k2⟩ := He.ba c3
      obtain ⟨k3, k4⟩ := He.ba k2
      exact ⟨_, ⟨oc, od, m8, m9, m10, m11, m12, m13, m14, osl, rfl, q, k1, He.dflB_ok k3, He.kwdB_ok k4⟩, kp⟩
    | _ => cases c2
/-! ### one more fact each -/
def propB (C f : Str) (K : PySem.W.Frag) : Bool := decide (PySem.W.findIn K (.ref (He.ga K C)) f = some (some (.ref (prA C f K)))) && (decide (PySem.W.specialIn K (.ref (prA C f K)) "__get__" = some (some (.builtin "property.__get__"))) && (decide (PySem.W.takesIn K (.ref (prA C f K)) = some true) &&
  (match PySem.W.recIn K (prA C f K) "property" with
  | some (.ref _ :: _) => true
  | _ => false)))
theorem propB_ok {C f : Str} {K : PySem.W.Frag} (h : propB C f K = true) : PropOf K (He.ga K C) f (prA C f K) (geA C f K) := by
  obtain ⟨h1, h2⟩ := He.ba h
  obtain ⟨h2, h3⟩ := He.ba h2
  obtain ⟨h3, h4⟩ := He.ba h3
  refine ⟨of_decide_eq_true h1, of_decide_eq_true h2, of_decide_eq_true h3, ?_⟩
  unfold geA
  cases z : PySem.W.recIn K (prA C f K) "property" with
  | none => rw [z] at h4; cases h4
  | some l =>
    rw [z] at h4
    match l, h4 with
    | .ref g :: r, _ => exact ⟨r, rfl⟩
def insB (C : Str) (K : PySem.W.Frag) : Bool := (He.Fa.cls C).ok K && (decide (PySem.W.findIn K (.ref (He.ga K C)) "__class__" = some (some (.builtin "object.__class__"))) && (decide (PySem.W.specialIn K (.builtin "object.__class__") "__get__" = some (some (.builtin "getset_descriptor.__get__"))) &&
  (decide (PySem.W.takesIn K (.builtin "object.__class__") = some true) && decide (PySem.W.mroIn K (He.ga K C) (.type "object") = some true))))
theorem insB_ok {C : Str} {K : PySem.W.Frag} (h : insB C K = true) : InsOk K (He.ga K C) := by
  obtain ⟨h1, h2⟩ := He.ba h
  obtain ⟨h2, h3⟩ := He.ba h2
  obtain ⟨h3, h4⟩ := He.ba h3
  obtain ⟨h4, h5⟩ := He.ba h4
  exact ⟨He.cls_ok h1, of_decide_eq_true h2, of_decide_eq_true h3, of_decide_eq_true h4, of_decide_eq_true h5⟩
/-- facts in a row -/
def allB (l : List (PySem.W.Frag → Bool)) (K : PySem.W.Frag) : Bool := l.all fun b => b K
def obsP (ex : List (PySem.W.Frag → Bool)) (fn : List FD) (K : PySem.W.Frag) : He.AlD := (allB ex K && fn.all fun d => d.ok K, fn.map fun d => fnA K (d.ad K))
def SaysP (ex : List (PySem.W.Frag → Bool)) (fn : List FD) (K : PySem.W.Frag) : Prop := obsP ex fn K = (true, fn.map FD.val)
def obsPG (n : Nat) (ex : List (PySem.W.Frag → Bool)) (fn : List FD) (g : Addr → Option Obj) : He.AlD := obsP ex fn (He.frG g (He.asD g n ++ [cStatics]))
def hookP (n : Nat) (ex : List (PySem.W.Frag → Bool)) (fn : List FD) : PySem.W.Hook where
  α := He.AlD
  obs := fun s => obsPG n ex fn s.heap.get?
  val := fun _ => (true, fn.map FD.val)
  says := fun _ h => ∃ K : PySem.W.Frag, K.In h ∧ SaysP ex fn K
  of := fun _ _ e => ⟨_, He.frG_in, e⟩
  keeps := fun _ _ _ ⟨K, hK, c⟩ k => ⟨K, PySem.W.Frag.In.keeps hK k, c⟩
theorem obsPG_eq {n : Nat} {ex : List (PySem.W.Frag → Bool)} {fn : List FD} {g : Addr → Option Obj} {s : Shared} (h : ∀ a, g a = s.heap.get? a) : obsPG n ex fn g = (hookP n ex fn).obs s := by
  have e : g = s.heap.get? := funext h
  rw [e] <;> rfl
theorem SaysP.fact {ex : List (PySem.W.Frag → Bool)} {fn : List FD} {K : PySem.W.Frag} (c : SaysP ex fn K) (i : Nat) {b : PySem.W.Frag → Bool} (h : ex[i]? = some b := by rfl) : b K = true := by
  have c1 := (He.ba (show (allB ex K && fn.all fun d => d.ok K) = true from congrArg (fun z : He.AlD => z.1) c)).1
  exact List.all_eq_true.mp c1 b (List.mem_of_getElem? h)
theorem SaysP.def_ {ex : List (PySem.W.Frag → Bool)} {fn : List FD} {K : PySem.W.Frag} (c : SaysP ex fn K) (i : Nat) {d : FD} (h : fn[i]? = some d := by rfl) (hcl : d.cl = [] := by rfl) : ∃ fd, FnM K d.name d.qual d.st (d.ad K) fd := by
  have c2 := (He.ba (show (allB ex K && fn.all fun d => d.ok K) = true from congrArg (fun z : He.AlD => z.1) c)).2
  have e : fn.map (fun d => fnA K (d.ad K)) = fn.map FD.val := congrArg (fun z : He.AlD => z.2) c
  have e2 : (fn.map fun d => fnA K (d.ad K))[i]? = (fn.map FD.val)[i]? := by rw [e]
  rw [List.getElem?_map, List.getElem?_map, h] at e2
  exact FD.funD hcl (Option.some.inj e2) (List.all_eq_true.mp c2 d (List.mem_of_getElem? h))
/-! ### globals -/
theorem glT_int {Γ : Gam} {K : PySem.W.Frag} {h : Heap} {mg : Str → Option Value} (X : K.In h) (G : h.Ns mainGlobals mg) {x : Str} {i : Int} (c : (He.Fa.int x i).ok K = true) : GlT Γ mg x (.int i) := by
  obtain ⟨t, e⟩ := He.int_ok X G c
  exact ⟨.int i, _, e, ⟨t, rfl⟩, fun F => rp_int⟩
theorem glT_str {Γ : Gam} {K : PySem.W.Frag} {h : Heap} {mg : Str → Option Value} (X : K.In h) (G : h.Ns mainGlobals mg) {x : Str} {s : Cs} (c : (He.Fa.str x (mkStr s)).ok K = true) : GlT Γ mg x (.str s) := by
  obtain ⟨t, e⟩ := He.str_ok X G c
  exact ⟨.str (mkStr s), _, e, ⟨t, rfl⟩, fun F => rp_str⟩
theorem glT_cls {Γ : Gam} {K : PySem.W.Frag} {h : Heap} {mg : Str → Option Value} (X : K.In h) (G : h.Ns mainGlobals mg) {x : Str} {c : Nat} (hc : Γ.cls c = He.ga K x) (g : (He.Fa.glo x).ok K = true) : GlT Γ mg x (.kl c) :=
  ⟨.ref (He.ga K x), _, He.glo_ok X G g, rfl, fun F => by simp only [Rp]; rw [hc]⟩
theorem strs_ktp {Γ : Gam} {F : Hp} {K : PySem.W.Frag} : ∀ l : List Cs, RpL Γ F ((l.map fun s => He.Dv.str (mkStr s)).map (He.Dv.v K)) (l.map T.str)
  | [] => by simp only [List.map_nil, RpL]
  | s :: r => RpL.cons rp_str (strs_ktp r)
theorem glT_strs {Γ : Gam} {K : PySem.W.Frag} {h : Heap} {mg : Str → Option Value} (hK : Γ.K = K) (X : K.In h) (G : h.Ns mainGlobals mg) {x : Str} {l : List Cs} (g : (He.Fa.glo x).ok K = true) (c : He.tupB K x (l.map fun s => He.Dv.str (mkStr s)) = true) : GlT Γ mg x (.ktp (l.map T.str)) :=
  ⟨.ref (He.ga K x), _, He.glo_ok X G g, rfl, fun F => by
    simp only [Rp]
    exact ⟨_, _, rfl, by rw [hK]; exact He.tupB_ok c F, strs_ktp l⟩⟩
theorem funD_eq {K : PySem.W.Frag} {x q : Str} {pa pa' : Arguments} {b b' : List Stmt} {sc sc' : Scope} {f : Addr} {fd fd' : FuncData} (F : FunD K x q pa b sc [] [] f fd) (F' : FunD K x q pa' b' sc' [] [] f fd') : fd = fd' := by
  obtain ⟨oc, od, dV, kV, doc, pm, an, cdv, ct, osl, e, lk, _⟩ := F.ex
  obtain ⟨oc', od', dV', kV', doc', pm', an', cdv', ct', osl', e', lk', _⟩ := F'.ex
  rw [lk] at lk'
  cases lk'
  rfl
theorem fnOk_0 {P : Program} {w : World} {K : PySem.W.Frag} {mg : Str → Option Value} {base : Heap} {k : Nat} {f : Addr} {fd : FuncData} {ps : List Str} {sp : Sp} (F : FnOk P w K mg base (L2.CX P w) k f fd ps sp) : FnOk P w K mg base L2.CX0 k f fd ps (fun vs H Q _ => sp vs H Q fun _ _ _ => False) :=
  ⟨fun vs H Q E h => F.len vs H Q _ h, fun A outer s H args us vs Q E hr he hb hv hs => codeAny_mono (F.run A outer s H args us vs Q _ hr he hb hv hs) fun r s' hq => by
    cases r with
    | error e =>
      obtain ⟨_, _, _, _, _, _, _, _, _, _, _, _, z⟩ := hq
      exact z.elim
    | ok fl => cases fl <;> exact hq⟩
theorem sp_law {Γ : Gam} {m : Env → R O} {H : Hp} {a : Addr} {ns : List Int} {E : XK} (hS : SqL Γ.K H a (ns.map V.int)) (h : ∃ τ, m [some (.fz (.scr ns))] = .ok (.fz (.bl true)) τ) : spM Γ 1 [] m [.ref a] H (fun v _ => v = .bl true) E := by
  obtain ⟨τ, h⟩ := h
  refine ⟨[.fz (.scr ns)], H, fun _ => none, rfl, rfl, fun _ _ e => e, fun _ _ _ => rfl, fun b p e => (nomatch (show (none : Option (Nat × List Nat)) = some p from e)), fun k o e => ?_, ?_⟩
  · cases k with
    | zero =>
      simp at e
      subst e
      refine ⟨.ref a, rfl, ?_⟩
      simp only [Ow, Rp]
      exact ⟨a, rfl, hS⟩
    | succ k => simp at e
  · show (m [some (.fz (.scr ns))]).sat _ _
    rw [h]
    intro v H' F' ω' _ hv
    simpa only [Ow, Rp] using hv
end TL
set_option Elab.async false
set_option linter.all false
set_option maxRecDepth 100000
set_option maxHeartbeats 0
/-! TL26: list of a text, of a dict. -/
namespace TL
open PySem PySem.Spec L2

section
variable {X : Cx} {Γ : Gam}
theorem call_listS (hc : X.calm = true) : CallR X (.type "list") (fun xs H Q => ∃ z : Str, xs = [.str z] ∧ z.cps.size ≤ sizeLine ∧ ∀ q, H q = none → Q (.ref q) (upd H q (.lst (z.cps.toList.map fun c => .str ⟨#[c]⟩)))) := by
  intro pins s σ H xs us Q I r h
  obtain ⟨z, rfl, hz, q⟩ := h
  obtain ⟨u, eu, rx⟩ := vals1 r
  subst eu
  obtain ⟨t, rfl⟩ := rx
  refine PySem.call_list_str (I.ok.hd hc) z t (fun h' tk acc' c' hk hS hacc => ?_) hz
  refine ⟨.ref s.heap.objs.size, _, I.laid hk (Nat.le_refl _) (show ObjOk X.prog X.w _ _ _ (.lst (z.cps.toList.map fun c => .str ⟨#[c]⟩)) from ⟨by simpa using hz, acc'.toList, c', ?_, by simpa using hS⟩), rfl, q _ (I.hok.fresh (Nat.le_refl _))⟩
  refine vals_of_idx _ _ (by simp [hacc.1]) fun j w hj => ?_
  obtain ⟨c, u, hc, rfl⟩ := hacc.2 j w (by rw [← Array.getElem?_toList]; exact hj)
  refine ⟨.str ⟨#[c]⟩, ?_, ⟨u, rfl⟩⟩
  rw [List.getElem?_map]
  have : z.cps.toList[j]? = some c := by simpa using hc
  rw [this]
  rfl
def listN2 : List T → Option (List T)
  | [.str s] => if s.length ≤ SZ then some (s.map fun c => .str [c]) else none
  | [.dic ks _] => some (ks.map kT)
  | l => listN l
theorem callN_list2 (hK : X.K = Γ.K) (hc : X.calm = true) : CallN Γ X (.type "list") listN2 := by
  obtain ⟨r1, h1, g1⟩ := callN_list (Γ := Γ) (X := X) hK
  refine ⟨fun xs H Q => r1 xs H Q ∨ (∃ z : Str, xs = [.str z] ∧ z.cps.size ≤ sizeLine ∧ ∀ q, H q = none → Q (.ref q) (upd H q (.lst (z.cps.toList.map fun c => .str ⟨#[c]⟩)))) ∨ (∃ (a : Addr) (kvs : List (L2.Key × V)), xs = [.ref a] ∧ Rd H a (.dK kvs) ∧ ∀ p, H p = none → Q (.ref p) (upd H p (.lst (kvs.map fun kv => kV kv.1)))), fun pins s σ H xs us Q I rv h => ?_, fun ts us H F xs Q h sub r n => ?_⟩
  · rcases h with h | h | h
    · exact h1 pins s σ H xs us Q I rv h
    · exact call_listS hc pins s σ H xs us Q I rv h
    · exact call_listD hc pins s σ H xs us Q I rv h
  · unfold listN2 at h
    split at h
    · rename_i s
      split at h
      case isFalse => cases h
      rename_i hl
      cases h
      obtain ⟨x, rfl, rx⟩ := rp1 r
      simp only [Rp] at rx
      subst rx
      refine .inr (.inl ⟨_, rfl, by have := szL hl; simpa [mkStr] using this, fun q hq => ?_⟩)
      rw [cps_list]
      exact n q _ hq (strs_each s)
    · cases h
      rename_i ks vs
      obtain ⟨x, rfl, rx⟩ := rp1 r
      simp only [Rp] at rx
      obtain ⟨a, ys, rfl, ⟨od, ha⟩, hl, ra⟩ := rx
      refine .inr (.inr ⟨a, _, rfl, sub.rd (.inr ⟨od, ha⟩), fun q hq => n q _ hq ?_⟩)
      have e : (((ks.map kK).zip ys).map fun kv => kV kv.1) = (ks.map kK).map kV := by
        have e2 : (((ks.map kK).zip ys).map fun kv => kV kv.1) = (((ks.map kK).zip ys).map Prod.fst).map kV := by rw [List.map_map]; rfl
        rw [e2, List.map_fst_zip (by simp [hl])]
      rw [e]
      exact rpl_kT ks
    · exact .inl (g1 _ _ _ _ _ _ h sub r n)
end
end TL
set_option Elab.async false
set_option linter.all false
set_option maxRecDepth 100000
set_option maxHeartbeats 0
/-! TL27: an own exception's __init__ that says super().__init__("..") and stores fields. -/
namespace TL
open PySem PySem.Spec PySem.Calls PyProof.Rows L2

/-- the scope of an __init__ that says super() -/
structure SuScope (ps : List Str) (sc : Scope) : Prop where
  kind : sc.kind = .function
  co : sc.isCoroutine = false
  gen : sc.isGenerator = false
  nd : ps.Nodup
  par : ∀ x ∈ ps, sc.names.lookup x = some .local
  nocell : ∀ x ∈ sc.names, x.2 ≠ .cell
  free : ∀ x ∈ sc.names, x.2 = .free → x.1 = ("__class__" : Str)
  ks : sc.names.lookup ("super" : Str) = some .globalImplicit
  kc : sc.names.lookup ("__class__" : Str) = some .free
abbrev suEnv (qual : Str) (scope : Scope) (L f : Addr) (cd : Value) (cc : Addr) : PySem.Env := PySem.W.envX qual scope L f cd [("__class__", cc)]
def cxSu (CX : CXT) (P : Program) (w : World) (K : PySem.W.Frag) (mg : Str → Option Value) (base : Heap) (N : List Str) (qual : Str) (scope : Scope) (f : Addr) (cd : Value) (cc : Addr) (A : Around) (outer : List PySem.Env) (s : Shared) (H : Hp) (E : XK) : Cx where
  prog := P
  w := w
  K := K
  mg := mg
  base := base
  A := A.deeper (suEnv qual scope s.heap.objs.size f cd cc)
  N := N
  s_0 := s
  H_0 := H
  env := suEnv qual scope s.heap.objs.size f cd cc
  outer := outer
  stack := suEnv qual scope s.heap.objs.size f cd cc :: outer
  ex := []
  calm := true
  fn := fun _ => false
  pn := []
  xe := fun e s' => wpAny (model P w) (A.deeper (suEnv qual scope s.heap.objs.size f cd cc)) (leaving (suEnv qual scope s.heap.objs.size f cd cc) e) (fun _ s'' => CX outer H s E e s'') (fun e' s'' => CX outer H s E e' s'') s'
theorem lookup_zip_none {ps : List Str} {us : List Value} {x : Str} (h : x ∉ ps) : (ps.zip us).reverse.lookup x = none := by
  rw [List.lookup_eq_none_iff]
  intro p hp
  have h1 := (List.of_mem_zip (List.mem_reverse.mp hp)).1
  refine bne_iff_ne.mpr fun e => h ?_
  rw [e]
  exact h1
theorem lookup_zip_rev : ∀ {ps : List Str} {us : List Value} {i : Nat} {x : Str} {v : Value}, ps.Nodup → ps[i]? = some x → us[i]? = some v → (ps.zip us).reverse.lookup x = some v
  | [], _, _, _, _, _, h, _ => by simp at h
  | _ :: _, [], _, _, _, _, _, h => by simp at h
  | p :: ps, u :: us, 0, x, v, nd, h1, h2 => by
    simp at h1 h2
    subst h1; subst h2
    rw [List.zip_cons_cons, List.reverse_cons, List.lookup_append, lookup_zip_none (List.nodup_cons.mp nd).1]
    simp
  | p :: ps, u :: us, i + 1, x, v, nd, h1, h2 => by
    simp at h1 h2
    rw [List.zip_cons_cons, List.reverse_cons, List.lookup_append, lookup_zip_rev (List.nodup_cons.mp nd).2 h1 h2]
    rfl
theorem inv_startS {CX : CXT} {P : Program} {w : World} {K : PySem.W.Frag} {mg : Str → Option Value} {base : Heap} {ps : List Str} {qual : Str} {scope : Scope} {f cc : Addr} {cd : Value} {A : Around} {outer : List PySem.Env} {s : Shared} {H : Hp} {E : XK} {us : List Value} {vs : List V} {h1 : Heap} {tk : Nat}
    (S : SuScope ps scope) (hd : A.handled = none) (e0 : Env0 P w K mg base A outer s H) (hl : vs.length = ps.length) (r : Vals vs us) {oc : Value} {od : Option Addr} {ov : Option Value} {osl : Array (Option Value)} (hcell : K.lookup cc = some ⟨oc, od, .cell ov, osl⟩)
    (hns : h1.Ns s.heap.objs.size (fun x => (ps.zip us).reverse.lookup x)) (hk : ∀ b o, s.heap.get? b = some o → h1.get? b = some o) :
    L2.Inv (cxSu CX P w K mg base ps qual scope f cd cc A outer s H E) [] (L2.start ps vs) H { s with heap := h1, toks := tk } := by
  have hcb : base.get? cc = some ⟨oc, od, .cell ov, osl⟩ := e0.mod.kin _ _ hcell
  have cl : ∀ {x : Str} {c : Addr}, ([("__class__", cc)] : List (Str × Addr)).lookup x = some c → x = ("__class__" : Str) ∧ c = cc := fun {x c} h => by
    rw [List.lookup_cons] at h
    split at h
    · rename_i q
      exact ⟨beq_iff_eq.mp q, (Option.some.inj h).symm⟩
    · simp at h
  have noA : ∀ b : Addr, b ∉ (cxSu CX P w K mg base ps qual scope f cd cc A outer s H E).ex := fun b z => absurd (show b ∈ ([] : List Addr) from z) (by simp)
  have hsz : cc ≠ s.heap.objs.size := Nat.ne_of_lt (Heap.lt_size (e0.bs _ _ hcb).1)
  refine ⟨⟨e0.mod, S.kind, rfl, rfl, Nat.le_refl _, fun y z c h1 h2 => ((cl h1).1).trans ((cl h2).1).symm, fun y hy => ?_, fun y c h => absurd h (by show ¬ (false = true); decide), fun _ => hd, Around.frames_deeper e0.frames, .inr ⟨rfl, rfl⟩, fun b z => absurd z (noA b), e0.bs, e0.bsz, fun b _ _ => noA b, fun b z => absurd z (noA b), e0.funs, e0.frf⟩,
    rfl, e0.bare, Un.kept hk, ⟨_, hns, fun i y v h1 h2 h3 => ?_⟩, fun y c h => ?_, e0.hok.fresh (Nat.le_refl _), fun y c h => ?_, fun p hp => absurd (show p ∈ ([] : List (Addr × Obj)) from hp) (by simp), e0.hok.kept hk, ?_⟩
  · have hy : scope.names.lookup y = some .cell ∨ scope.names.lookup y = some .free := hy
    rcases hy with hy | hy
    · exact absurd rfl (S.nocell _ (PySem.mem_of_lookup hy))
    · have := S.free _ (PySem.mem_of_lookup hy) rfl
      dsimp only at this
      subst this
      exact ⟨cc, rfl⟩
  · have hi : i < vs.length := by rw [hl]; exact (List.getElem?_eq_some_iff.mp h1).1
    have ha : vs[i]? = some v := by
      unfold L2.start at h2
      rw [List.getElem?_append_left (by simpa using hi), List.getElem?_map] at h2
      cases e : vs[i]? with
      | none => rw [e] at h2; cases h2
      | some a => rw [e] at h2; cases h2; rfl
    obtain ⟨u, hu, rv⟩ := r.get ha
    exact ⟨u, rv, .inl ⟨S.par y (List.mem_of_getElem? h1), lookup_zip_rev S.nd h1 hu⟩⟩
  · obtain ⟨-, rfl⟩ := cl h
    exact ⟨ov, _, hk _ _ (e0.bs _ _ hcb).1, rfl⟩
  · obtain ⟨-, rfl⟩ := cl h
    exact (e0.bs _ _ hcb).2
  · unfold L2.start
    show _ = ps.length
    rw [List.length_append, List.length_map, List.length_replicate]
    omega
/-- what the written part says of an own exception class whose __init__ says super() -/
structure SuC (K : PySem.W.Frag) (C : Addr) : Prop where
  oex : OexC K C
  mroC : PySem.W.mroIn K C (.ref C) = some true
  along : PySem.W.ks_superIn K C C "__init__" = some (some (.builtin "ValueError.__init__"))
  subB : PySem.W.subIn K (.ref C) (.type "ValueError") = some true
  nop : PySem.W.nsIn K cStatics "thirdparty.any" = some none
section
variable {prog : Program} {w : World} {A : Around} {E : Value → Shared → Prop} {h : Heap} {g : Array GenState} {d : Drawn} {t : Nat} {os : OsState}
variable {nm q : Str} {C N : Addr} {bs bm : List Value} {hdct : Bool} {sn : List Str} {sub : List Value} {ab : Bool} {col : Option Bool} {dd : Option Addr} {k0 k1 k2 k3 k5 : Option Value}
theorem call_mw {u e t0 : Addr} {rest : List Value} {Q : Value → Shared → Prop}
    (hC : h.get? C = some (excClassObj nm q C N bs bm hdct sn sub ab col dd k0 k1 k2 k3 k5 "ValueError.__new__")) (he : h.get? e = some (HandSPX.excO C t0)) (hu : h.get? u = some (PySem.W.kxs_mw "ValueError.__init__" e)) (hrest : rest.length ≤ sizeLine)
    (hq : ∀ h' t1, (∀ b o, b ≠ e → h.get? b = some o → h'.get? b = some o) → h'.get? e = some (HandSPX.excO C t1) → Q .none ⟨h', g, d, t, os⟩) :
    wpAny (model prog w) A (call (.ref u) rest) Q E ⟨h, g, d, t, os⟩ := by
  refine wpAny_call (codeAny_of_tree ?_)
  show wpAny _ A.in1 (callAny (.ref u) ⟨rest, []⟩) _ _ _
  simp only [callAny]
  refine wpAny_bind (wpAny_load hu ?_)
  simp only [PySem.W.kxs_mw, show (Value.type "method-wrapper" == Value.type "method" || Value.type "method-wrapper" == Value.type "builtin_function_or_method" || Value.type "method-wrapper" == Value.type "method-wrapper") = true by decide, if_true]
  refine W.KFB.if_so (by decide) ?_
  refine wpAny_bind (PySem.W.check_bound_init F.excBase_ValueError.toExcCallFacts hC he rfl ?_)
  refine wpAny_bind (wpAny_pure (wpAny_pure ?_))
  refine ⟨Code.quiet_builtin _ (by decide +kernel), codeAny_builtin F.excBase_ValueError.initEntry ?_⟩
  rw [Around.under_plainId F.excBase_ValueError.init.plain _]
  wp_walk
  refine hq _ h.objs.size (fun b o hb ho => ?_) ?_
  · rw [Heap.get?_update_other _ _ (Ne.symm hb)]
    exact Heap.get?_push_of_some _ ho
  · rw [Heap.get?_update_self _ (Heap.get?_push_of_some _ he) rfl]
    rfl
end
section
variable {P : Program} {w : World} {K : PySem.W.Frag} {mg : Str → Option Value} {base : Heap}
theorem clsIn_oex {C : Addr} (T : OexC K C) : ∃ cd, PySem.W.clsIn K C = some cd := by
  obtain ⟨nm, q, N, bs, bm, sn, sub, ab, col, dd, k0, k1, k2, k3, k5, hC, hbm⟩ := T.cls
  exact ⟨_, by unfold PySem.W.clsIn; rw [hC]⟩
theorem mc_su {M : Model} {A : Around} {c : Code} {E : Value → Shared → Prop} {s : Shared} {env : PySem.Env} {o e : Expr} {name : Str} {apos pos : Pos} {Q : Value → Shared → Prop} (hline : (apos.endLine == pos.line) = true)
    (he : starEach [e] env = [(false, eval e env)] := by rfl)
    (h : _root_.PySem.wpAt M A c (attributeBase o name env (eval o env)) (fun ov s₁ => ∀ pl, wpAny M A (getMethod ov name pl) (fun fx s₂ => wpAny M A (callWith pos fx.1 fx.2 (backTo pos (starEach [e] env)) []) Q E s₂) E s₁) E s) :
    _root_.PySem.wpAt M A c (eval (.Call (.Attribute o name apos) [e] [] pos) env) Q E s := by
  rw [arm_eval_Call]
  refine _root_.PySem.wpAt_bind (PySem.ks_wpAt_mono h (fun ov s₁ h₁ => _root_.PySem.wpAt_of_wpAny (wpAny_bind (wpAny_standAt ?_))) fun _ _ x => x)
  have hform : methodCallForm ([e].length + ([] : List Keyword).length) (backTo pos (starEach [e] env)) (backToKw pos (keywordEach [] env)) = true := by
    rw [he]
    rfl
  have hpos : methodCallPos true o env apos pos = pure pos := by unfold methodCallPos; simp [hline]
  unfold methodCall
  rw [hform]
  refine wpAny_bind (wpAny_holding (wpAny_mono (h₁ _) (fun fx s₂ h₂ => ?_) fun _ _ x => x))
  exact wpAny_bind (wpAny_of_eq hpos h₂)
/-- THE RULE: such an __init__, by what comes behind super().__init__("..") -/
theorem fn_su {CX : CXT} {k : Nat} {f C cc cda : Addr} {name qual : Str} {params : Arguments} {rest : List Stmt} {scope : Scope} {dV kV doc pm ct oc : Value} {an od : Option Addr} {osl : Array (Option Value)} {ps : List Str} {sp : Sp} {p0 p1 p2 p3 p4 p5 : Pos} {msg : Str} {j : Nat} {ar : Arg}
    {oc1 oc2 : Value} {od1 od2 : Option Addr} {sl1 sl2 : Array (Option Value)} {vs2 : Array Value} {file : Str} {tf : Tok}
    (lk : K.lookup f = some ⟨oc, od, .func (PySem.W.fnX name qual params (.Expr (.Call (.Attribute (.Call (.Name "super" p0) [] [] p1) "__init__" p2) [.Constant (.str msg) j p3] [] p4) p5 :: rest) scope [("__class__", cc)] dV kV doc pm an (.ref cda) ct), osl⟩) (hcd : PySem.W.codeIn K (.ref cda) qual = true)
    (S : SuScope ps scope) (hT : SuC K C) (hcc : K.lookup cc = some ⟨oc1, od1, .cell (some (.ref C)), sl1⟩) (hcda : K.lookup cda = some ⟨oc2, od2, .fields vs2, sl2⟩) (hvs : vs2[2]? = some (.str file tf)) (hfile : ((P.main.file : Str) == file) = true)
    (hline : (p2.endLine == p4.line) = true) (htop : (P.main.scope.names.lookup ("super" : Str)).isSome = false) (hmg : mg "super" = none) (hp : (params.posonlyargs ++ params.args).head? = some ar) (hps : ps[0]? = some ar.arg)
    (len : ∀ vs H Q E, sp vs H Q E → vs.length = ps.length)
    (hbody : ∀ (A : Around) (outer : List PySem.Env) (s : Shared) (H : Hp) (vs : List V) (Q : VK) (E : XK), sp vs H Q E →
      ∃ a t, vs[0]? = some (.ref a) ∧ H a = some (exo a C none) ∧ PSs (cxSu CX P w K mg base ps qual scope f (.ref cda) cc A outer s H E) rest t ∧ t { nx := fun _ H' => Q .non H', rt := Q } (L2.start ps vs) H) :
    FnOk P w K mg base CX (k + 1) f (PySem.W.fnX name qual params (.Expr (.Call (.Attribute (.Call (.Name "super" p0) [] [] p1) "__init__" p2) [.Constant (.str msg) j p3] [] p4) p5 :: rest) scope [("__class__", cc)] dV kV doc pm an (.ref cda) ct) ps sp := by
  refine ⟨len, fun A outer s H args us vs Q E hr e0 hb r hsp => ?_⟩
  have T' := hT.oex
  have hl := len _ _ _ _ hsp
  have KX : K.In s.heap := e0.mod.kin.keeps fun b o e => (e0.bs b o e).1
  have lim : s.heap.NoLimit := e0.mod.nolimit.keeps fun b o e => (e0.bs b o e).1
  refine PySem.ks_codeAny_call_defAt hr.depth (KX _ _ lk) rfl lim (PySem.W.codeRec_of KX hcd) rfl hb S.nocell (fun x hx => S.par x.1 (List.of_mem_zip hx).1) (fun h1 hns hk => ?_) S.co S.gen S.kind
  obtain ⟨a, t, h0, ea, ht, hq⟩ := hbody A outer s H vs Q E hsp
  have I : L2.Inv (cxSu CX P w K mg base ps qual scope f (.ref cda) cc A outer s H E) [] (L2.start ps vs) H { s with heap := h1, toks := s.toks + (ps.zip us).length } := inv_startS S hr.hd e0 hl r hcc hns hk
  refine PySem.ks_wpAt_mono (Q := SP (cxSu CX P w K mg base ps qual scope f (.ref cda) cc A outer s H E) [] { nx := fun _ H' => Q .non H', rt := Q }) (E := (cxSu CX P w K mg base ps qual scope f (.ref cda) cc A outer s H E).xe) ?_ (fun fl s' hs => ?_) fun e s' z => z
  · have hC0 := T'.cls
    obtain ⟨nm, q, N, bs, bm, sn, sub, ab, col, dd, k0, k1, k2, k3, k5, hC, hbm⟩ := hC0
    have hcl : PySem.W.clsIn K C = some { name := nm, bases := bs, mro := .ref C :: bm, ns := N, qualname := q, hasDict := true, slotNames := sn, subclasses := sub, abstract := ab, collection := col, hasDel := false } := by unfold PySem.W.clsIn; rw [hC] <;> rfl
    obtain ⟨t1, ho⟩ := exo_at I.hok ea
    have X1 : K.In h1 := KX.keeps hk
    have hcl1 : h1.get? C = some (excClassObj nm q C N bs bm true sn sub ab col dd k0 k1 k2 k3 k5 "ValueError.__new__") := X1 _ _ hC
    have hxC : a ≠ C := fun z => by
      have ho' : h1.get? a = some _ := ho
      rw [z, hcl1] at ho'
      cases ho'
    obtain ⟨u0, hu0, ru0⟩ := r.get h0
    obtain rfl : u0 = Value.ref a := ru0
    refine PySem.ks_wpAt_execs_cons (PySem.ks_wpAt_Expr_any (mc_su hline rfl ?_) (by show interactive (suEnv qual scope s.heap.objs.size f (.ref cda) cc) = false; unfold interactive; rw [show (suEnv qual scope s.heap.objs.size f (.ref cda) cc).scope.kind = .function from S.kind]; rfl))
    refine PySem.ks_wpAt_super_base (env := suEnv qual scope s.heap.objs.size f (.ref cda) cc) S.ks S.kc (by decide) rfl (X1 _ _ lk) rfl hp rfl (X1 _ _ hcda) rfl hvs hfile htop ?_
    obtain ⟨mb, hb1, hb2⟩ := e0.mod.blt
    have kb : ∀ b o, base.get? b = some o → h1.get? b = some o := fun b o e => hk b o (e0.bs b o e).1
    refine PySem.W.ks_loadName_global S.kind S.ks (Calls.loadGlobal_builtin (env := suEnv qual scope s.heap.objs.size f (.ref cda) cc) (e0.mod.glob.keeps kb) hmg (hb1.keeps kb) ((hb2 _ (by decide)).trans (show bootBuiltins "super" = some (.type "super") from PyProof.Rows.Boot.«super»)) ⟨rfl, ?_⟩)
    refine wpAny_loadName_free S.kind S.kc rfl ⟨_, X1 _ _ hcc, rfl⟩ ?_
    refine wpAny_loadName_local S.kind (S.par _ (List.mem_of_getElem? hps)) hns (lookup_zip_rev S.nd hps hu0) ?_
    refine PySem.ks_wpAny_isType_cls hcl1 rfl ⟨rfl, ?_⟩
    refine PySem.ks_wpAny_call_super hcl1 rfl ho rfl (fun c z => by cases z) (PySem.W.looks_mroIn X1 hT.mroC) (fun h2 hso k2 => ?_)
    intro pl
    have X2 : K.In h2 := X1.keeps k2
    have hal : PySem.W.alongIn K "__init__" (((Value.ref C :: bm).dropWhile (· != .ref C)).drop 1) = some (some (.builtin "ValueError.__init__")) := by
      have := hT.along
      unfold PySem.W.ks_superIn at this
      rw [hcl] at this
      exact this
    have LT : PySem.W.Looks (model P w) h2 (typeOf (.ref a)) (.ref C) := fun A Q E s k q => wpAny_typeOf_ref (k _ _ (k2 _ _ ho)) q
    have hI2 : PySem.W.Looks (model P w) h2 (isInstance (.ref a) (.type "ValueError")) true := LT.andThen (PySem.W.looks_subIn X2 hT.subB)
    refine PySem.W.kxs_getMethod PySem.W.kxs_ValueError hso (PySem.W.looks_opaque X2 hT.nop) (l₀ := .ref C :: bm) (fun A Q E s k q => wpAny_bind ((PySem.W.looks_clsIn X2 hcl) A _ E s k (wpAny_pure q))) rfl X2 hal hI2 hxC (by decide) ?_
    have k3 : ∀ b o, h1.get? b = some o → (h2.push (PySem.W.kxs_mw "ValueError.__init__" a)).get? b = some o := fun b o e => Heap.get?_push_of_some _ (k2 b o e)
    have hu3 : (h2.push (PySem.W.kxs_mw "ValueError.__init__" a)).get? h2.objs.size = some (PySem.W.kxs_mw "ValueError.__init__" a) := Heap.get?_push_at rfl rfl
    have I3 := I.kept (h' := h2.push (PySem.W.kxs_mw "ValueError.__init__" a)) (t' := s.toks + (ps.zip us).length + 1) k3
    show wpAny (model P w) _ (callWith p4 (.ref h2.objs.size) [] (backTo p4 [(false, eval (.Constant (.str msg) j p3) (suEnv qual scope s.heap.objs.size f (.ref cda) cc))]) []) _ _ _
    refine PySem.W.kxs_callWith (i := "ValueError.__init__") (x := a) rfl (Calls.evalArgs_plain (Calls.spliced_cons (Calls.Constant_str (k := j) (pos := p3) ?_)))
    show wpAny _ _ (spliced []) _ _ _
    rw [spliced]
    refine wpAny_pure ⟨hu3, ?_⟩
    refine call_mw (X1.keeps k3 _ _ hC) (k3 _ _ ho) hu3 (by show 1 ≤ sizeLine; rw [sizeLine_eq]; omega) (fun h4 t4 k4 he4 => ?_)
    have I4 := (I3.tok (s.toks + (ps.zip us).length + 1 + 1)).write (h' := h4) (t' := s.toks + (ps.zip us).length + 1 + 1) (x := a) (e := a) (o := exo a C none) (by rw [ea]; exact True.intro) (.inl rfl) k4 ⟨_, he4⟩ (exo_ok he4)
    have eu : upd H a (exo a C none) = H := by
      funext b
      by_cases hb : b = a
      · rw [hb, upd_same, ea]
      · rw [upd_ne hb]
    rw [eu] at I4
    exact _root_.PySem.wpAt_of_wpAny (ht.run [] _ _ H _ I4 hq)
  · have fin : ∀ {σ' : St} {H' : Hp} {v : V} {u : Value}, L2.Inv (cxSu CX P w K mg base ps qual scope f (.ref cda) cc A outer s H E) [] σ' H' s' → RelV v u → Q v H' → CE outer P w H s Q u s' :=
      fun {σ' H' v u} J rv q => ⟨v, H', J.os, J.bare, J.base, J.hok, rv, q⟩
    cases fl with
    | ret u =>
      obtain ⟨v, σ', H', J, rv, q⟩ := hs
      exact fin J rv q
    | next =>
      obtain ⟨σ', H', J, q⟩ := hs
      exact fin (v := V.non) (u := Value.none) J rfl q
    | brk =>
      obtain ⟨_, _, _, q⟩ := hs
      exact False.elim q
    | cont =>
      obtain ⟨_, _, _, q⟩ := hs
      exact False.elim q
end
end TL
set_option Elab.async false
set_option linter.all false
set_option maxRecDepth 100000
set_option maxHeartbeats 0
/-! TL28: own exceptions made and raised; calls inside a try. -/
namespace TL
open PySem PySem.Spec PySem.Calls PyProof.Rows L2

/-! ### the promise of an own __init__ -/
/-- __init__(a, ys ..): the fields fs are stored -/
def spI (C : Addr) (fs : List Str) : Sp := fun vs H Q _ => ∃ (a : Addr) (ys : List V), vs = .ref a :: ys ∧ ys.length = fs.length ∧ H a = some (exo a C none) ∧
  (fs = [] → Q .non H) ∧ (fs ≠ [] → ∀ (dx : Addr) (H2 : Hp), H dx = none → dx ≠ a → H2 a = some (exo a C (some dx)) → H2 dx = some (exd dx (fs.zip ys).reverse) → (∀ b, b ≠ a → b ≠ dx → H2 b = H b) → Q .non H2)
/-- what a caught exception's dict says -/
def immV : T → Option V
  | .non => some .non
  | .bl b => some (.bl b)
  | .int i => some (.int i)
  | .str s => some (.str (mkStr s))
  | _ => none
def XD (fs : List Str) (ts : List T) (d : Option Addr) (H : Hp) : Prop := ts.length = fs.length ∧ ((fs = [] ∧ d = none) ∨ fs ≠ [] ∧ ∃ dx vs, d = some dx ∧ H dx = some (.xd (fs.zip vs).reverse) ∧ ts.map immV = vs.map some)
section
variable {Γ : Gam} {F : Hp}
theorem imm_rp {v : V} {t : T} (h : Rp Γ F v t) (hi : (immV t).isSome = true) : immV t = some v := by
  cases t <;> first | (simp only [Rp] at h; subst h; rfl) | (simp [immV] at hi; done)
theorem imm_rpL : ∀ {ts : List T} {vs : List V}, RpL Γ F vs ts → ts.all (fun t => (immV t).isSome) = true → ts.map immV = vs.map some
  | [], vs, h, _ => by
    simp only [RpL] at h
    subst h
    rfl
  | t :: ts, vs, h, ha => by
    simp only [RpL] at h
    obtain ⟨x, r, rfl, h1, h2⟩ := h
    rw [List.all_cons, Bool.and_eq_true] at ha
    rw [List.map_cons, List.map_cons, imm_rp h1 ha.1, imm_rpL h2 ha.2]
end
/-! ### C(..) of an own exception -/
def tMkS (C : Addr) (fs : List Str) (ta : TA) : St → Hp → XK → Prop := fun σ H Q => ta σ H fun vs H1 => vs.length = fs.length ∧ fs.length ≤ 9 ∧ (fs = [] → Q (.ref C) none H1) ∧ (fs ≠ [] → ∀ d, H1 d = none → Q (.ref C) (some d) (upd H1 d (.xd (fs.zip vs).reverse)))
section
variable {X : Cx}
/-- the end of C() where no field is stored -/
theorem mk_end1 {pins : List (Addr × Obj)} {σ : St} {H1 H2 : Hp} {hp hp2 h2 : Heap} {g1 g2 : Array GenState} {d1 d2 : Drawn} {t1 t2 : Nat} {os1 os2 : OsState} {a C : Addr} (I1 : L2.Inv X pins σ H1 ⟨hp, g1, d1, t1, os1⟩)
    (ha : hp.objs.size ≤ a) (k : ∀ b o, hp.get? b = some o → hp2.get? b = some o) (un : Un (frs X.stack) [] (upd H1 a (exo a C none)) H2 hp2 h2) (hok : HOk X.prog X.w H2 h2) (ho : os2 = os1) (hb : AllBare g2)
    (ea : H2 a = some (exo a C none)) :
    ∃ (t0 : Addr) (G : Heap), L2.Inv X pins σ (del H2 a) ⟨G, g2, d2, t2, os2⟩ ∧ (∀ b o, G.get? b = some o → h2.get? b = some o) ∧ G.get? a = none ∧
      h2.get? a = some ({ cls := .ref C, dict := none, data := .fields #[.ref t0, .none, .none, .none, .bool false, .none] } : Obj) ∧ (del H2 a) a = none := by
  obtain ⟨t0, hoe⟩ := exo_at hok ea
  have hn : H1 a = none := I1.hok.fresh ha
  obtain ⟨G, g1', g2'⟩ := restrict h2 fun b => decide (b ≠ a)
  have gk : ∀ b, b ≠ a → G.get? b = h2.get? b := fun b hb => g1' b (decide_eq_true hb)
  have ge : G.get? a = none := g2' a (by simp)
  have nha : ∀ {b : Addr} {o : Obj}, hp.get? b = some o → b ≠ a := fun {b o} z => Nat.ne_of_lt (Nat.lt_of_lt_of_le (Heap.lt_size z) ha)
  have up : ∀ {b : Addr}, b ≠ a → H1 b = none → upd H1 a (exo a C none) b = none := fun {b} hb n => by rw [upd_ne hb]; exact n
  have U : Un (frs X.stack) [] H1 (del H2 a) hp G := {
    keep := fun b o z n hf hx => by
      rw [gk b (nha z)]
      exact un.keep b o (k b o z) (up (nha z) n) hf hx
    slot := fun b o z n hf hx => by
      rw [gk b (nha z)]
      exact un.slot b o (k b o z) (up (nha z) n) hf hx
    free := fun b o z n hx => by
      rw [del_ne (nha z)]
      exact un.free b o (k b o z) (up (nha z) n) hx
    there := fun b o z hx => by
      rw [gk b (nha z)]
      exact un.there b o (k b o z) hx
    tups := fun b xs z => by
      rw [del_ne (ne_of_none z hn)]
      exact un.tups b xs (by rw [upd_ne (ne_of_none z hn)]; exact z)
    frzs := fun b o v z => by
      rw [del_ne (ne_of_none z hn)]
      exact un.frzs b o v (by rw [upd_ne (ne_of_none z hn)]; exact z)
    tbls := fun b ps z => by
      rw [del_ne (ne_of_none z hn)]
      exact un.tbls b ps (by rw [upd_ne (ne_of_none z hn)]; exact z) }
  have hok3 : HOk X.prog X.w (del H2 a) G := fun b o z => by
    have hba : b ≠ a := fun e => by
      rw [e, del_same] at z
      cases z
    rw [del_ne hba] at z
    have noa : ∀ {c : Addr}, H2 c = some (.own b) → c ≠ a := fun {c} hc => at_ne ea hc exo_own
    exact (hok b o z).stay (fun c v hc y => by
        have hca : c ≠ a := by
          rcases hc with hc | hc
          · rw [hc]
            exact hba
          · exact noa hc
        rw [gk c hca]
        exact y)
      (fun c hc => by rw [del_ne (noa hc)]; exact hc) (fun c xs hc => by rw [del_ne (at_ne ea hc exo_tup)]; exact hc)
  have J : L2.Inv X pins σ (del H2 a) ⟨G, g2, d2, t2, os2⟩ := I1.call' (ch := []) ho U hok3 hb (fun b z => absurd z (by simp))
  refine ⟨t0, G, J, fun b o z => ?_, ge, hoe, del_same⟩
  by_cases hba : b = a
  · rw [hba, ge] at z
    cases z
  · exact (gk b hba).symm.trans z
variable {CX : CXT} {C fI : Addr} {k : Nat} {fd : FuncData} {ps fs : List Str} {x : Str} {e : Expr} {es : List Expr} {ta : TA} {p pos : Pos}
/-- C(us ..), at the call -/
theorem run_mkS (T : OexC X.K C) (iC : PySem.W.findIn X.K (.ref C) "__init__" = some (some (.ref fI))) (tI : PySem.W.typeIn X.K (.ref fI) = some (.type "function"))
    (F1 : FnOk X.prog X.w X.K X.mg X.base CX k fI fd ps (spI C fs)) (hr : Room (k + 1) X.A) (hb : Binds X.K fd ps []) (hx : Passes CX X (fun _ _ _ => False)) {pins : List (Addr × Obj)} {σ : St} {H1 : Hp} {s1 : Shared} {Q : XK} {us : List Value} {vs : List V}
    (I1 : L2.Inv X pins σ H1 s1) (r1 : Vals vs us) (q1 : vs.length = fs.length ∧ fs.length ≤ 9 ∧ (fs = [] → Q (.ref C) none H1) ∧ (fs ≠ [] → ∀ d, H1 d = none → Q (.ref C) (some d) (upd H1 d (.xd (fs.zip vs).reverse)))) :
    wpAny (model X.prog X.w) X.A (call (.ref C) us) (MkP X pins σ Q) X.xe s1 := by
  obtain ⟨nm, q, N, bs, bm, sn, sub, ab, col, dd, k0, k1, k2, k3, k5, hC, hbm⟩ := T.cls
  obtain ⟨hv, h9, q0, qd⟩ := q1
  obtain ⟨hp, g, dr, tk, os⟩ := s1
  have hsz : hp.objs.size ≤ hp.objs.size + 1 := Nat.le_succ _
  have hn : H1 (hp.objs.size + 1) = none := I1.hok.fresh hsz
  have kk : ∀ b o, hp.get? b = some o → ((hp.push (PySem.W.kdv_tup us)).push (PySem.HandSPX.excO C hp.objs.size)).get? b = some o := fun b o e => Heap.get?_push_of_some _ (Heap.get?_push_of_some _ e)
  have hget : ((hp.push (PySem.W.kdv_tup us)).push (PySem.HandSPX.excO C hp.objs.size)).get? (hp.objs.size + 1) = some (PySem.HandSPX.excO C hp.objs.size) := by heap_get
  have I2 : L2.Inv X pins σ (upd H1 (hp.objs.size + 1) (exo (hp.objs.size + 1) C none)) ⟨(hp.push (PySem.W.kdv_tup us)).push (PySem.HandSPX.excO C hp.objs.size), g, dr, tk, os⟩ :=
    I1.laid (t' := tk) (a := hp.objs.size + 1) (o := exo (hp.objs.size + 1) C none) (h' := (hp.push (PySem.W.kdv_tup us)).push (PySem.HandSPX.excO C hp.objs.size)) kk hsz (exo_ok hget)
  have hq : spI C fs (.ref (hp.objs.size + 1) :: (vs ++ [])) (upd H1 (hp.objs.size + 1) (exo (hp.objs.size + 1) C none)) (fun v H2 => v = .non ∧
      ((fs = [] ∧ H2 = upd H1 (hp.objs.size + 1) (exo (hp.objs.size + 1) C none)) ∨ ∃ d, fs ≠ [] ∧ H1 d = none ∧ H2 (hp.objs.size + 1) = some (exo (hp.objs.size + 1) C (some d)) ∧ H2 d = some (exd d (fs.zip vs).reverse) ∧ ∀ b, b ≠ hp.objs.size + 1 → b ≠ d → H2 b = H1 b)) (fun _ _ _ => False) := by
    refine ⟨_, _, rfl, by simpa using hv, upd_same, fun e => ⟨rfl, .inl ⟨e, rfl⟩⟩, fun ne dx H2 h1 h2 h3 h4 h5 => ⟨rfl, .inr ⟨dx, ne, ?_, h3, ?_, fun b hb hd => ?_⟩⟩⟩
    · rw [upd_ne h2] at h1
      exact h1
    · rw [List.append_nil] at h4
      exact h4
    · rw [h5 b hb hd, upd_ne hb]
  have r2 : Vals (V.ref (hp.objs.size + 1) :: (vs ++ [])) (Value.ref (hp.objs.size + 1) :: (us ++ [])) := .cons rfl (r1.append .nil)
  have hl : (Value.ref (hp.objs.size + 1) :: us ++ []).length = ps.length := by
    have e := r2.length
    rw [F1.len _ _ _ _ hq] at e
    exact e.symm
  have hus : us.length ≤ sizeLine := by
    rw [← Paired.length r1, sizeLine_eq, hv]
    omega
  refine wpAny_call (PySem.HandSPX.call_own F.excBase_ValueError (fun Y => PySem.HandSPX.refsVE_contains Y bm hbm) (I1.kIn _ _ hC) (PySem.W.looks_findIn I1.kIn iC) (fun self => PySem.W.bind_fn I1.kIn self tI) hus
    (codeAny_mono (F1.run _ X.stack _ _ ⟨Value.ref (hp.objs.size + 1) :: us, []⟩ (Value.ref (hp.objs.size + 1) :: (us ++ [])) _ _ (fun _ _ _ => False) (hr.make C us []) (I2.env0.make C us []) (by rw [← List.cons_append]; exact hb _ (Value.ref (hp.objs.size + 1) :: us) I2.kIn hl) r2 hq) fun r s' hq' => ?_))
  cases r with
  | error er => exact hx pins σ _ _ er s' I2 hq'
  | ok fl =>
    cases fl with
    | ret u =>
      obtain ⟨v, H2, os2, bare2, un2, hok2, rv, ev, w⟩ := hq'
      subst ev
      obtain ⟨h2, g2, d2, t2, os'⟩ := s'
      rcases w with ⟨e0, rfl⟩ | ⟨d, ne, hd1, ea, ed, rest⟩
      · obtain ⟨t0, G, J, kG, ge, hoe, na⟩ := mk_end1 (d2 := d2) (t2 := t2) I1 hsz kk un2 hok2 os2 bare2 upd_same
        have eH : del (upd H1 (hp.objs.size + 1) (exo (hp.objs.size + 1) C none)) (hp.objs.size + 1) = H1 := by
          funext b
          by_cases hb : b = hp.objs.size + 1
          · rw [hb, del_same, hn]
          · rw [del_ne hb, upd_ne hb]
        rw [eH] at J na
        exact ⟨rv, hp.objs.size + 1, _, _, ⟨G, g2, d2, t2, os'⟩, _, .ref C, none, rfl, J, kG, ge, hoe, ⟨rfl, rfl⟩, rfl, rfl, na, rfl, bare2, raises_own T.exC T.tyC, q0 e0⟩
      · obtain ⟨t0, G, J, kG, ge, hoe, na⟩ := mk_end0 (d2 := d2) (t2 := t2) I1 hsz kk un2 hok2 os2 bare2 ea ed hd1
        have eH : upd (del H2 (hp.objs.size + 1)) d (.xd (fs.zip vs).reverse) = upd H1 d (.xd (fs.zip vs).reverse) := by
          funext b
          by_cases hbd : b = d
          · subst hbd
            rw [upd_same, upd_same]
          · rw [upd_ne hbd, upd_ne hbd]
            by_cases hb : b = hp.objs.size + 1
            · rw [hb, del_same, hn]
            · rw [del_ne hb, rest b hb hbd]
        rw [eH] at J na
        exact ⟨rv, hp.objs.size + 1, _, _, ⟨G, g2, d2, t2, os'⟩, _, .ref C, some d, rfl, J, kG, ge, hoe, ⟨rfl, rfl⟩, rfl, rfl, na, rfl, bare2, raises_own T.exC T.tyC, qd ne d hd1⟩
    | next => exact False.elim hq'
    | brk => exact False.elim hq'
    | cont => exact False.elim hq'
theorem pmk_su (T : OexC X.K C) (iC : PySem.W.findIn X.K (.ref C) "__init__" = some (some (.ref fI))) (tI : PySem.W.typeIn X.K (.ref fI) = some (.type "function"))
    (F1 : FnOk X.prog X.w X.K X.mg X.base CX k fI fd ps (spI C fs)) (hr : Room (k + 1) X.A) (hb : Binds X.K fd ps []) (hx : Passes CX X (fun _ _ _ => False)) (hg : Gl X x) (hm : X.mg x = some (.ref C)) (ha : PA X (e :: es) ta)
    (hdb : (x == ("__debug__" : Str)) = false := by decide) (he : starEach (e :: es) X.env = (false, eval e X.env) :: starEach es X.env := by rfl) (hpl : (backTo pos (starEach es X.env)).any (·.1) = false := by rfl) :
    PMk X (.Call (.Name x p) (e :: es) [] pos) (tMkS C fs ta) := by
  intro pins s σ H Q I h
  refine wpAny_Call_Name_kw (ld_glob I hg hm ?_ hdb)
  refine PySem.W.callWith_K (h₀ := X.base) I.ok.mod.kin T.kC (thn (ha.run pos pins s σ H _ I h) fun us s1 ⟨vs, H1, I1, r1, q1⟩ => ⟨I1.kIn, ?_⟩) he hpl
  exact run_mkS T iC tI F1 hr hb hx I1 r1 q1
theorem pmk_su0 (T : OexC X.K C) (iC : PySem.W.findIn X.K (.ref C) "__init__" = some (some (.ref fI))) (tI : PySem.W.typeIn X.K (.ref fI) = some (.type "function"))
    (F1 : FnOk X.prog X.w X.K X.mg X.base CX k fI fd ps (spI C fs)) (hr : Room (k + 1) X.A) (hb : Binds X.K fd ps []) (hx : Passes CX X (fun _ _ _ => False)) (hg : Gl X x) (hm : X.mg x = some (.ref C))
    (hdb : (x == ("__debug__" : Str)) = false := by decide) : PMk X (.Call (.Name x p) [] [] pos) (tMkS C fs tNil) := by
  intro pins s σ H Q I h
  refine wpAny_Call_Name_kw (ld_glob I hg hm ?_ hdb)
  exact PySem.W.callWith_K0 I.kIn T.kC (run_mkS (us := []) T iC tI F1 hr hb hx I .nil h)
end
end TL
set_option Elab.async false
set_option linter.all false
set_option maxRecDepth 100000
set_option maxHeartbeats 0
/-! TL29: own exceptions as facts; the __init__s of none, one, two fields; raise. -/
namespace TL
open PySem PySem.Spec PySem.Calls PyProof.Rows L2

section
variable {P : Program} {w : World} {K : PySem.W.Frag} {mg : Str → Option Value} {base : Heap} {Γ : Gam}
/-- what of such a def the written part says, but for its body -/
structure SuD (P : Program) (K : PySem.W.Frag) (mg : Str → Option Value) (C : Addr) (qual : Str) (scope : Scope) (params : Arguments) (ps : List Str) (cc cda : Addr) : Prop where
  S : SuScope ps scope
  T : SuC K C
  code : PySem.W.codeIn K (.ref cda) qual = true
  cell : ∃ oc od sl, K.lookup cc = some ⟨oc, od, .cell (some (.ref C)), sl⟩
  file : ∃ oc od vs sl file tf, K.lookup cda = some ⟨oc, od, .fields vs, sl⟩ ∧ vs[2]? = some (.str file tf) ∧ ((P.main.file : Str) == file) = true
  top : (P.main.scope.names.lookup ("super" : Str)).isSome = false
  mgs : mg "super" = none
  par : ∃ ar : Arg, (params.posonlyargs ++ params.args).head? = some ar ∧ ps[0]? = some ar.arg
variable {k : Nat} {f C cc cda : Addr} {name qual : Str} {params : Arguments} {scope : Scope} {dV kV doc pm ct oc : Value} {an od : Option Addr} {osl : Array (Option Value)} {ps : List Str} {p0 p1 p2 p3 p4 p5 : Pos} {msg : Str} {j : Nat}
theorem spI_len {fs : List Str} (h : ps.length = fs.length + 1) : ∀ vs H Q E, spI C fs vs H Q E → vs.length = ps.length := fun vs H Q E ⟨a, ys, e, hl, _⟩ => by rw [e, List.length_cons, hl, h]
theorem fn_su0 (D : SuD P K mg C qual scope params ps cc cda) (hl : ps.length = 1) (hline : (p2.endLine == p4.line) = true)
    (lk : K.lookup f = some ⟨oc, od, .func (PySem.W.fnX name qual params [.Expr (.Call (.Attribute (.Call (.Name "super" p0) [] [] p1) "__init__" p2) [.Constant (.str msg) j p3] [] p4) p5] scope [("__class__", cc)] dV kV doc pm an (.ref cda) ct), osl⟩) :
    FnOk P w K mg base (L2.CX P w) (k + 1) f (PySem.W.fnX name qual params [.Expr (.Call (.Attribute (.Call (.Name "super" p0) [] [] p1) "__init__" p2) [.Constant (.str msg) j p3] [] p4) p5] scope [("__class__", cc)] dV kV doc pm an (.ref cda) ct) ps (spI C []) := by
  obtain ⟨oc1, od1, sl1, h1⟩ := D.cell
  obtain ⟨oc2, od2, vs2, sl2, file, tf, h2, h3, h4⟩ := D.file
  obtain ⟨ar, h5, h6⟩ := D.par
  refine fn_su lk D.code D.S D.T h1 h2 h3 h4 hline D.top D.mgs h5 h6 (spI_len (by simpa using hl)) fun A outer s H vs Q E ⟨a, ys, e, hly, ha, q0, q1⟩ => ?_
  subst e
  exact ⟨a, _, rfl, ha, pss_nil, q0 rfl⟩
theorem fn_su1 {f1 y sf : Str} {q0 q1 q2 q3 : Pos} (D : SuD P K mg C qual scope params ps cc cda) (hps : ps = [sf, y]) (hno : PySem.W.findIn K (.ref C) f1 = some none) (hline : (p2.endLine == p4.line) = true)
    (hsw : ∀ env, swapsWith (.Name y q2) (some (.Attribute (.Name sf q0) f1 q1)) q3.line env = pure false) (hd : ∀ n ∈ [sf, y], (n == ("__debug__" : Str)) = false ∧ (n == ("__classdict__" : Str)) = false)
    (lk : K.lookup f = some ⟨oc, od, .func (PySem.W.fnX name qual params [.Expr (.Call (.Attribute (.Call (.Name "super" p0) [] [] p1) "__init__" p2) [.Constant (.str msg) j p3] [] p4) p5, .Assign [.Attribute (.Name sf q0) f1 q1] (.Name y q2) q3] scope [("__class__", cc)] dV kV doc pm an (.ref cda) ct), osl⟩) :
    FnOk P w K mg base (L2.CX P w) (k + 1) f (PySem.W.fnX name qual params [.Expr (.Call (.Attribute (.Call (.Name "super" p0) [] [] p1) "__init__" p2) [.Constant (.str msg) j p3] [] p4) p5, .Assign [.Attribute (.Name sf q0) f1 q1] (.Name y q2) q3] scope [("__class__", cc)] dV kV doc pm an (.ref cda) ct) ps (spI C [f1]) := by
  obtain ⟨oc1, od1, sl1, h1⟩ := D.cell
  obtain ⟨oc2, od2, vs2, sl2, file, tf, h2, h3, h4⟩ := D.file
  obtain ⟨ar, h5, h6⟩ := D.par
  subst hps
  refine fn_su lk D.code D.S D.T h1 h2 h3 h4 hline D.top D.mgs h5 h6 (spI_len rfl) fun A outer s H vs Q E ⟨a, ys, e, hly, ha, q0, q1⟩ => ?_
  subst e
  obtain ⟨y0, rfl⟩ : ∃ y0, ys = [y0] := by
    match ys, hly with
    | [y0], _ => exact ⟨y0, rfl⟩
  refine ⟨a, _, rfl, ha, pss_one (ps_ost (pe_var (i := 0) rfl (.inl (D.S.par _ (by simp))) (hd sf (by simp)).1 (hd sf (by simp)).2) (pe_var (i := 1) rfl (.inl (D.S.par _ (by simp))) (hd y (by simp)).1 (hd y (by simp)).2) (hsw _)), ?_⟩
  refine ⟨y0, rfl, .ref a, rfl, a, C, rfl, D.T.oex, hno, .inl ⟨ha, fun dx hn hne => ?_⟩⟩
  refine q1 (by simp) dx _ hn hne upd_same ?_ (fun b hb hd => ?_)
  · rw [upd_ne hne, upd_same]
    rfl
  · rw [upd_ne hb, upd_ne hd]
theorem fn_su2 {f1 f2 y z sf : Str} {q0 q1 q2 q3 r0 r1 r2 r3 : Pos} (D : SuD P K mg C qual scope params ps cc cda) (hps : ps = [sf, y, z]) (hno : PySem.W.findIn K (.ref C) f1 = some none) (hno2 : PySem.W.findIn K (.ref C) f2 = some none) (hline : (p2.endLine == p4.line) = true)
    (hsw : ∀ env, swapsWith (.Name y q2) (some (.Attribute (.Name sf q0) f1 q1)) q3.line env = pure false) (hsw2 : ∀ env, swapsWith (.Name z r2) (some (.Attribute (.Name sf r0) f2 r1)) r3.line env = pure false) (hd : ∀ n ∈ [sf, y, z], (n == ("__debug__" : Str)) = false ∧ (n == ("__classdict__" : Str)) = false)
    (lk : K.lookup f = some ⟨oc, od, .func (PySem.W.fnX name qual params [.Expr (.Call (.Attribute (.Call (.Name "super" p0) [] [] p1) "__init__" p2) [.Constant (.str msg) j p3] [] p4) p5, .Assign [.Attribute (.Name sf q0) f1 q1] (.Name y q2) q3, .Assign [.Attribute (.Name sf r0) f2 r1] (.Name z r2) r3] scope [("__class__", cc)] dV kV doc pm an (.ref cda) ct), osl⟩) :
    FnOk P w K mg base (L2.CX P w) (k + 1) f (PySem.W.fnX name qual params [.Expr (.Call (.Attribute (.Call (.Name "super" p0) [] [] p1) "__init__" p2) [.Constant (.str msg) j p3] [] p4) p5, .Assign [.Attribute (.Name sf q0) f1 q1] (.Name y q2) q3, .Assign [.Attribute (.Name sf r0) f2 r1] (.Name z r2) r3] scope [("__class__", cc)] dV kV doc pm an (.ref cda) ct) ps (spI C [f1, f2]) := by
  obtain ⟨oc1, od1, sl1, h1⟩ := D.cell
  obtain ⟨oc2, od2, vs2, sl2, file, tf, h2, h3, h4⟩ := D.file
  obtain ⟨ar, h5, h6⟩ := D.par
  subst hps
  refine fn_su lk D.code D.S D.T h1 h2 h3 h4 hline D.top D.mgs h5 h6 (spI_len rfl) fun A outer s H vs Q E ⟨a, ys, e, hly, ha, q0, q1⟩ => ?_
  subst e
  obtain ⟨y0, z0, rfl⟩ : ∃ y0 z0, ys = [y0, z0] := by
    match ys, hly with
    | [y0, z0], _ => exact ⟨y0, z0, rfl⟩
  refine ⟨a, _, rfl, ha, pss_cons (ps_ost (pe_var (i := 0) rfl (.inl (D.S.par _ (by simp))) (hd sf (by simp)).1 (hd sf (by simp)).2) (pe_var (i := 1) rfl (.inl (D.S.par _ (by simp))) (hd y (by simp)).1 (hd y (by simp)).2) (hsw _))
    (pss_one (ps_ost (pe_var (i := 0) rfl (.inl (D.S.par _ (by simp))) (hd sf (by simp)).1 (hd sf (by simp)).2) (pe_var (i := 2) rfl (.inl (D.S.par _ (by simp))) (hd z (by simp)).1 (hd z (by simp)).2) (hsw2 _))), ?_⟩
  refine ⟨y0, rfl, .ref a, rfl, a, C, rfl, D.T.oex, hno, .inl ⟨ha, fun dx hn hne => ?_⟩⟩
  refine ⟨z0, rfl, .ref a, rfl, a, C, rfl, D.T.oex, hno2, .inr ⟨dx, _, upd_same, by rw [upd_ne hne, upd_same], by simp, ?_⟩⟩
  refine q1 (by simp) dx _ hn hne ?_ ?_ (fun b hb hd => ?_)
  · rw [upd_ne (Ne.symm hne), upd_same]
  · rw [upd_same]
    rfl
  · rw [upd_ne hd, upd_ne hb, upd_ne hd]
end
/-- the law's own exception class x, its number n, its fields fs -/
structure Exn (P : Program) (w : World) (K : PySem.W.Frag) (mg : Str → Option Value) (base : Heap) (Γ : Gam) (k : Nat) (C : Addr) (n : Nat) (x : Str) (fs : List Str) : Prop where
  ex : ∃ f fd ps, FnOk P w K mg base (L2.CX P w) k f fd ps (spI C fs) ∧ PySem.W.findIn K (.ref C) "__init__" = some (some (.ref f)) ∧ PySem.W.typeIn K (.ref f) = some (.type "function") ∧ Binds K fd ps []
  oex : OexC K C
  hm : mg x = some (.ref C)
  xr : ∀ ts d H, XD fs ts d H → Γ.xr n ts (.ref C) d H
section
variable {X : Cx} {Ψ : Sx} {e : Expr} {es : List Expr} {pos pos' p : Pos} {d : DL} {x : Str} {k k' n : Nat} {C : Addr} {fs : List Str}
def dRaise (n l : Nat) (d : DL) : DS := fun τ => (d τ).bind fun ts τ1 => if ts.length = l ∧ l ≤ 9 ∧ ts.all (fun t => (immV t).isSome) = true then .er n ts τ1 else .st
theorem raise_road {xe : Value → Shared → Prop} (N : Exn X.prog X.w X.K X.mg X.base Ψ.Γ k C n x fs) {D : Ends} {σ : St} {H : Hp} (q : tS Ψ (dRaise n fs.length d) D σ H) : tMkS C fs (tA Ψ d) σ H fun cls d' H' => Ψ.W cls d' σ H' := by
  obtain ⟨B, τ, tm, F, ω, rl, hio, q⟩ := q
  unfold dRaise at q
  rw [R.sat_bind] at q
  refine ⟨B, τ, tm, F, ω, rl, hio, R.sat_mono q (fun ts τ1 q1 vs H1 F1 ω1 r1 s1 p1 => ?_) (fun _ _ _ x => x.exP)⟩
  split at q1
  case isFalse => exact q1.elim
  rename_i hc
  obtain ⟨h1, h2, h3⟩ := hc
  have hl := RpL.length _ _ p1
  refine ⟨by omega, h2, fun e => ?_, fun ne dx hdx => ?_⟩
  · exact q1 _ _ σ H1 F1 ω1 _ r1 (N.xr _ _ _ ⟨h1, .inl ⟨e, rfl⟩⟩)
  · have g : Sub H1 (upd H1 dx (.xd (fs.zip vs).reverse)) := fun b o e => by rw [upd_ne (ne_of_none e hdx)]; exact e
    exact q1 _ _ σ _ F1 ω1 _ (r1.grow ⟨g, fun _ _ e => e, fun b o e => g b o (r1.fh b o e), fun b o e e' => by rw [e] at e'; cases e'⟩) (N.xr _ _ _ ⟨h1, .inr ⟨ne, dx, vs, rfl, upd_same, imm_rpL p1 h3⟩⟩)
theorem ds_raise {l : Nat} (hc : X.calm = true) (tk : Takes X Ψ.W) (N : Exn X.prog X.w X.K X.mg X.base Ψ.Γ k C n x fs) (hr : Room k' X.A) (hk : k + 1 ≤ k') (hg : Gl X x) (ha : PA X (e :: es) (tA Ψ d))
    (hdb : (x == ("__debug__" : Str)) = false := by decide) (he : starEach (e :: es) X.env = (false, eval e X.env) :: starEach es X.env := by rfl) (hpl : (backTo pos (starEach es X.env)).any (·.1) = false := by rfl) (hl : l = fs.length := by rfl) :
    PS X (.Raise (some (.Call (.Name x p) (e :: es) [] pos)) none pos') (tS Ψ (dRaise n l d)) := by
  subst hl
  obtain ⟨f, fd, ps, F, h1, h2, hb⟩ := N.ex
  exact PS.imp (ps_raise hc tk (pmk_su N.oex h1 h2 F (hr.mono hk) hb passL hg N.hm ha hdb he hpl)) fun D σ H q => raise_road (xe := X.xe) N q
theorem ds_raise0 {l : Nat} (hc : X.calm = true) (tk : Takes X Ψ.W) (N : Exn X.prog X.w X.K X.mg X.base Ψ.Γ k C n x fs) (hr : Room k' X.A) (hk : k + 1 ≤ k') (hg : Gl X x)
    (hdb : (x == ("__debug__" : Str)) = false := by decide) (hl : l = fs.length := by rfl) : PS X (.Raise (some (.Call (.Name x p) [] [] pos)) none pos') (tS Ψ (dRaise n l dNil)) := by
  subst hl
  obtain ⟨f, fd, ps, F, h1, h2, hb⟩ := N.ex
  refine PS.imp (ps_raise hc tk (pmk_su0 N.oex h1 h2 F (hr.mono hk) hb passL hg N.hm hdb)) fun D σ H q => ?_
  obtain ⟨B, τ, tm, F, ω, rl, hio, q⟩ := raise_road (xe := X.xe) N q
  exact q [] H F ω rl (fun _ _ e => e) (by simp only [RpL])
end
end TL
set_option Elab.async false
set_option linter.all false
set_option maxRecDepth 100000
set_option maxHeartbeats 0
/-! TL30: try: .. except C: .. except D as e: .. -/
namespace TL
open PySem PySem.Spec PySem.Calls PyProof.Rows L2

/-! ### C(..) where what is wished of an exception speaks of the slots -/
section
variable {X : Cx} {Ψ : Sx} {CX : CXT} {k k' n c0 : Nat} {f C : Addr} {fd : FuncData} {ps : List Str} {sp : Sp} {E : XK} {x : Str} {e : Expr} {es : List Expr} {dl : DL} {mm : Env → R O} {p pos : Pos}
theorem run_makeS {pins : List (Addr × Obj)} {σ : St} {H : Hp} {s : Shared} {Q : VK} {us : List Value} {vs : List V} (M : Mk X.K C f) (F : FnOk X.prog X.w X.K X.mg X.base CX k f fd ps sp) (hr : Room (k + 1) X.A) (hb : Binds X.K fd ps [])
    (hx : ∀ (H : Hp) (s : Shared) (e : Value) (s' : Shared), L2.Inv X pins σ H s → CX X.stack H s E e s' → X.xe e s') (I : L2.Inv X pins σ H s) (r : Vals vs us)
    (h : ∀ x dx, H x = none → H dx = none → dx ≠ x → sp (.ref x :: (vs ++ [])) (upd (upd H dx (.own x)) x (.ins C dx [])) (fun v H2 => v = .non ∧ Q (.ref x) H2) E) :
    wpAny (model X.prog X.w) X.A (call (.ref C) us) (EP X pins σ Q) X.xe s := by
  have hq := h (s.heap.objs.size + 1) s.heap.objs.size (I.hok.fresh (Nat.le_succ _)) (I.hok.fresh (Nat.le_refl _)) (Nat.ne_of_lt (Nat.lt_succ_self _))
  have I2 := Inv.made (C := C) I
  have r2 : Vals (V.ref (s.heap.objs.size + 1) :: (vs ++ [])) (Value.ref (s.heap.objs.size + 1) :: (us ++ [])) := .cons rfl (r.append .nil)
  have hl : (Value.ref (s.heap.objs.size + 1) :: us ++ []).length = ps.length := by
    have e := r2.length
    rw [F.len _ _ _ _ hq] at e
    exact e.symm
  refine wpAny_call (make_map (f := f) I.kIn M.makes M.init (beq_iff_eq.mp M.fn) (codeAny_mono (F.run _ X.stack _ _ ⟨Value.ref (s.heap.objs.size + 1) :: us, []⟩ (Value.ref (s.heap.objs.size + 1) :: (us ++ [])) _ _ E (hr.make C us [])
    (I2.env0.make C us []) (by rw [← List.cons_append]; exact hb _ (Value.ref (s.heap.objs.size + 1) :: us) I2.kIn hl) r2 hq) fun r s' hq' => ?_))
  cases r with
  | error e => exact hx _ _ e s' I2 hq'
  | ok fl =>
    cases fl with
    | ret u =>
      obtain ⟨v, H', I3, rv, ev, q3⟩ := I2.after hq'
      subst ev
      exact ⟨rv, ⟨V.ref (s.heap.objs.size + 1), H', I3, rfl, q3⟩⟩
    | next => exact False.elim hq'
    | brk => exact False.elim hq'
    | cont => exact False.elim hq'
theorem do_newS (tk : Takes X Ψ.W) (N : Nw' X.prog X.w X.K X.mg X.base Ψ.Γ k C x n mm) (hr : Room k' X.A) (hk : k + 1 ≤ k') (hg : Gl X x) (hc : Ψ.Γ.cls c0 = C) (hf : Ψ.Γ.fld c0 = []) (ha : PA X (e :: es) (tA Ψ dl))
    (hdb : (x == ("__debug__" : Str)) = false := by decide) (he : starEach (e :: es) X.env = (false, eval e X.env) :: starEach es X.env := by rfl) (hpl : (backTo pos (starEach es X.env)).any (·.1) = false := by rfl) : PE X (.Call (.Name x p) (e :: es) [] pos) (tO Ψ (dMake c0 n mm dl)) := by
  obtain ⟨f, fd, ps, F, M, hm, hb⟩ := N.ex
  refine ⟨fun pins s σ H Q I h => ?_⟩
  have h' := make_road (C := C) (E := fun cls d H => Ψ.W cls d σ H) hc hf (fun _ _ _ w => w) h
  refine wpAny_Call_Name_kw (ld_glob I hg hm ?_ hdb)
  refine PySem.W.callWith_K (h₀ := X.base) I.ok.mod.kin M.kp (thn (ha.run pos pins s σ H _ I h') fun us s1 ⟨vs, H1, I1, r, q⟩ => ⟨I1.kIn, ?_⟩) he hpl
  exact run_makeS M F (hr.mono hk) hb (fun H2 s2 e s' I2 c => tk e s' (XE.of_call I2 (fun cls d H' w => w) c)) I1 r q
end

/-! ### except clauses, with a name and without -/
abbrev HdL := List (Value × Option Nat × (Addr → Value → Option Addr → TS))
def endsGone (i : Nat) (D : Ends) : Ends := { nx := fun σ' H' => D.nx (σ'.set i none) H', rt := D.rt, bk := fun σ' H' => D.bk (σ'.set i none) H', ct := fun σ' H' => D.ct (σ'.set i none) H' }
def cSt (si : Option Nat) (t : TS) (a : Addr) : TS := fun D σ H => match si with
  | none => t D σ H
  | some i => t (endsGone i D) (σ.set i (some (.ref a))) H
def wHs (K : PySem.W.Frag) (Wout : WX) (D : Ends) : HdL → WX
  | [] => Wout
  | (c, si, ts) :: r => fun cls d σ H => ∃ b, PySem.W.exmOne K cls c = some b ∧ (b = true → ∀ a, H a = none → cSt si (ts a cls d) a D σ H) ∧ (b = false → wHs K Wout D r cls d σ H)
inductive HsOk (X : Cx) : List ExceptHandler → HdL → Prop
  | nil : HsOk X [] []
  | cons {x : Str} {c : Value} {ts : Addr → Value → Option Addr → TS} {b₀ : Stmt} {suite : List Stmt} {np pos' : Pos} {hds : List ExceptHandler} {l : HdL} (hc : Names X x c)
      (hsu : ∀ (a : Addr) (oe : Obj) (cls : Value) (d : Option Addr) (pn : List (Addr × Obj)), Zc cls d oe → (∃ vs, oe.data = .fields vs) → PSs (X.suite a ((a, oe) :: pn)) (b₀ :: suite) (ts a cls d)) (r : HsOk X hds l) :
      HsOk X (.ExceptHandler (some (.Name x np)) none (b₀ :: suite) pos' :: hds) ((c, none, ts) :: l)
  | consA {x n : Str} {i : Nat} {c : Value} {ts : Addr → Value → Option Addr → TS} {b₀ : Stmt} {suite : List Stmt} {np pos' : Pos} {hds : List ExceptHandler} {l : HdL} (hi : X.N[i]? = some n) (hln : X.env.kindOf n = some .local) (hc : Names X x c)
      (hsu : ∀ (a : Addr) (oe : Obj) (cls : Value) (d : Option Addr) (pn : List (Addr × Obj)), Zc cls d oe → (∃ vs, oe.data = .fields vs) → PSs (X.suite a ((a, oe) :: pn)) (b₀ :: suite) (ts a cls d)) (r : HsOk X hds l) :
      HsOk X (.ExceptHandler (some (.Name x np)) (some n) (b₀ :: suite) pos' :: hds) ((c, some i, ts) :: l)
section
variable {X : Cx} {body : List Stmt} {h₀ : ExceptHandler} {hds : List ExceptHandler} {l : HdL} {pos : Pos} {tb : WX → TS} {Wout : WX}
theorem ps_try_hs (hs : X.stack = X.env :: X.outer) (hf : X.env.frame = some X.env.locals) (hN : X.N.Nodup) (tk : Takes X Wout)
    (hb : ∀ (W : WX) (pn : List (Addr × Obj)) (xe : Value → Shared → Prop), Takes (X.tr pn xe) W → PassesOwn (model X.prog X.w) X.A X.env xe → PSs (X.tr pn xe) body (tb W))
    (hh : HsOk X (h₀ :: hds) l) : PS X (.Try body (h₀ :: hds) [] [] pos) (fun D σ H => tb (wHs X.K Wout D l) D σ H) := by
  refine ⟨fun pins s σ H D I h => ?_⟩
  have ok := I.ok
  have hfr : X.A.frames = some (X.env :: X.outer) := by rw [ok.frames, hs]
  refine wpAny_Try_except ?_
  refine wpAny_mono ((hb (wHs X.K Wout D l) (X.pn ++ pins) (fun e s₁ => wpAny (model X.prog X.w) X.A (noteFrame e X.env) (fun _ s₂ => wpAny (model X.prog X.w) X.A (setFlight e none) (fun _ s₃ =>
    wpAny (model X.prog X.w) X.A (handleBy e X.env (h₀ :: hds)) (SP X pins D) X.xe s₃) X.xe s₂) X.xe s₁) (fun u s' xx => ?_) PassesOwn.looking).run [] s σ H D (I.toTry _) h) (fun f s1 hsp => ?_) (fun e s1 he => he)
  · -- the catch
    obtain ⟨a, B, sI, pins', σ', H', cls, d, rfl, J', nb, up, sky, na, os, ag, w⟩ := xx
    have J : L2.Inv X pins σ' H' sI := J'.ofTry ok
    have sky' : Sky B (X.env :: X.outer) a (Zc cls d) X.env.locals s'.heap := by rw [← hs]; exact sky
    show wpAny (model X.prog X.w) X.A (noteFrame (.ref a) X.env) _ _ _
    refine Sky.land Zc.steady hfr hf sky' fun h3 fl3 up3 => ?_
    have J3 : L2.Inv X pins σ' H' { s' with heap := h3 } := J.landed nb fl3.1 (up.trans up3) os ag
    obtain ⟨oe3, vs3, he3, hz3, hd3⟩ := fl3.there
    have notFr : ∀ {h : Heap} {o : Obj} {vs : Array Value}, h.FunFrames B (X.env :: X.outer) → h.get? a = some o → o.data = .fields vs → a ∉ frs (X.env :: X.outer) := fun {h o vs} ff e dd hm => by
      obtain ⟨_, o', e', hnf⟩ := ff.mem hm
      rw [e] at e'; cases e'
      exact hnf _ dd
    have nfr := notFr fl3.2.2.1 he3 hd3
    have nL : a ≠ X.env.locals := fun z => nfr (List.mem_filterMap.mpr ⟨X.env, List.mem_cons_self, by rw [hf, z]⟩)
    have nF : a ∉ X.fs := fun hm => by
      obtain ⟨e, he, q⟩ := List.mem_filterMap.mp hm
      exact nfr (List.mem_filterMap.mpr ⟨e, List.mem_cons_of_mem _ he, q⟩)
    have S3 := J3.suite he3 hd3 na nL nF
    have LT : PySem.W.Looks (model X.prog X.w) h3 (typeOf (.ref a)) cls := fun A Q E s k q => wpAny_typeOf_ref (k _ _ he3) (by rw [hz3.1]; exact q)
    have test : ∀ {x : Str} {c : Value} {np : Pos} {Q : Value → Shared → Prop} {E : Value → Shared → Prop}, Names X x c → Q c { s' with heap := h3 } → wpAny (model X.prog X.w) (X.A.mark (some (.ref a))) (eval (.Name x np) X.env) Q E { s' with heap := h3 } := fun {x c np Q E} hc q => by
      obtain ⟨hg, hdbg, hm | ⟨hm, hv, hnn⟩⟩ := hc
      · exact ld_glob (X := X.suite a ((a, oe3) :: (X.pn ++ pins))) S3 hg hm q hdbg
      · exact ld_blt (X := X.suite a ((a, oe3) :: (X.pn ++ pins))) S3 hg hm hv q hnn hdbg
    have go : ∀ {hds' : List ExceptHandler} {l' : HdL}, HsOk X hds' l' → wHs X.K Wout D l' cls d σ' H' →
        wpAny (model X.prog X.w) X.A (handleBy (.ref a) X.env hds') (SP X pins D) X.xe { s' with heap := h3 } := by
      intro hds' l' hk
      induction hk with
      | nil =>
        intro w
        refine wpAny_handleBy_nil ?_
        obtain ⟨k1, k2, k3, oe, vs, T, oT, ts', he, hz, hd, h1, hr⟩ := id fl3
        unfold PySem.passOn
        refine wpAny_bind (wpAny_field he hd h1 ?_)
        rw [if_neg (show ¬ ((Value.ref T == Value.none) = true) from by simp)]
        have fin : wpAny (model X.prog X.w) X.A (setFlight (.ref a) X.env.frame) (fun _ s4 => wpAny (model X.prog X.w) X.A (throw (.ref a) : Sem Flow) (SP X pins D) X.xe s4) X.xe { s' with heap := h3 } := by
          rw [hf]
          refine HandSPX.setFlight_upZ fl3 fun h4 hh4 up4 => wpAny_throw (tk _ _ ?_)
          exact ⟨a, B, sI, pins, σ', H', cls, d, rfl, J, nb, (up.trans up3).trans up4, .inr (.inr (by rw [hs]; exact hh4)), na, os, ag, w⟩
        first
          | exact wpAny_bind (wpAny_pure (wpAny_bind fin))
          | exact wpAny_bind fin
      | @cons x c ts b₀ suite np pos' hds2 l2 hc hsu r ih =>
        intro w
        obtain ⟨b, hb1, hyes, hno⟩ := w
        refine wpAny_handleBy_cons (codeAny_handlers_test ?_) (by intro q; cases q)
        have LM := PySem.W.exm_one (M := model X.prog X.w) (J3.kIn) LT hb1
        refine test hc (LM.here ?_)
        cases b with
        | true =>
          refine codeAny_handlers_suite ?_
          refine HandSPX.lands_againZ fl3 fun h4 fl4 up4 => ?_
          have J4 : L2.Inv X pins σ' H' { s' with heap := h4 } := J.landed nb fl4.1 ((up.trans up3).trans up4) os ag
          obtain ⟨oe4, vs4, he4, hz4, hd4⟩ := fl4.there
          have S4 := J4.suite he4 hd4 na nL nF
          refine wpAny_mono ((hsu a oe4 cls d (X.pn ++ pins) hz4 ⟨_, hd4⟩).run [] _ _ H' D S4 (hyes rfl a na)) (fun f s6 hsp => ?_) (fun _ _ z => False.elim z)
          cases f with
          | next =>
            obtain ⟨σ6, H6, S6, q6⟩ := hsp
            exact ⟨_, _, S6.unsuite ok, q6⟩
          | brk =>
            obtain ⟨σ6, H6, S6, q6⟩ := hsp
            exact ⟨_, _, S6.unsuite ok, q6⟩
          | cont =>
            obtain ⟨σ6, H6, S6, q6⟩ := hsp
            exact ⟨_, _, S6.unsuite ok, q6⟩
          | ret u =>
            obtain ⟨v6, σ6, H6, S6, r6, q6⟩ := hsp
            exact ⟨_, _, _, S6.unsuite ok, r6, q6⟩
        | false =>
          show wpAny _ X.A (handleBy (.ref a) X.env hds2) _ _ _
          exact ih (hno rfl)
      | @consA x n i c ts b₀ suite np pos' hds2 l2 hi hln hc hsu r ih =>
        intro w
        obtain ⟨b, hb1, hyes, hno⟩ := w
        have hloc : Loc X.env.scope n := .inl hln
        refine wpAny_handleBy_cons (codeAny_handlers_test ?_) (by intro q; cases q)
        have LM := PySem.W.exm_one (M := model X.prog X.w) (J3.kIn) LT hb1
        refine test hc (LM.here ?_)
        cases b with
        | true =>
          refine codeAny_handlers_suite_as ?_
          refine HandSPX.lands_againZ fl3 fun h4 fl4 up4 => ?_
          have J4 : L2.Inv X pins σ' H' { s' with heap := h4 } := J.landed nb fl4.1 ((up.trans up3).trans up4) os ag
          obtain ⟨oe4, vs4, he4, hz4, hd4⟩ := fl4.there
          have S4 := J4.suite he4 hd4 na nL nF
          refine store_ok (X := X.suite a ((a, oe4) :: (X.pn ++ pins))) (v := .ref a) S4 hN hi hloc rfl (fun s5 S5 => ?_) (.inr hln)
          refine wpAny_mono ((hsu a oe4 cls d (X.pn ++ pins) hz4 ⟨_, hd4⟩).run [] s5 _ H' (endsGone i D) S5 (hyes rfl a na)) (fun f s6 hsp => ?_) (fun _ _ z => False.elim z)
          have end_ : ∀ {σ6 : St} {H6 : Hp} {Q : Shared → Prop}, L2.Inv (X.suite a ((a, oe4) :: (X.pn ++ pins))) [] σ6 H6 s6 → (∀ s7, L2.Inv X pins (σ6.set i none) H6 s7 → Q s7) →
              wpAny (model X.prog X.w) X.A (do bindName X.env n .none; unbindBehindTheSuite X.env n pos') (fun _ s7 => Q s7) X.xe s6 := fun {σ6 H6 Q} S6 hq => gone_ok (S6.unsuite ok) hN hi hln hq
          cases f with
          | next =>
            obtain ⟨σ6, H6, S6, q6⟩ := hsp
            exact end_ S6 fun s7 J7 => ⟨_, _, J7, q6⟩
          | brk =>
            obtain ⟨σ6, H6, S6, q6⟩ := hsp
            exact end_ S6 fun s7 J7 => ⟨_, _, J7, q6⟩
          | cont =>
            obtain ⟨σ6, H6, S6, q6⟩ := hsp
            exact end_ S6 fun s7 J7 => ⟨_, _, J7, q6⟩
          | ret u =>
            obtain ⟨v6, σ6, H6, S6, r6, q6⟩ := hsp
            exact end_ S6 fun s7 J7 => ⟨_, _, _, J7, r6, q6⟩
        | false =>
          show wpAny _ X.A (handleBy (.ref a) X.env hds2) _ _ _
          exact ih (hno rfl)
    exact go hh w
  · cases f with
    | next =>
      obtain ⟨σ', H', J', q⟩ := hsp
      exact wpAny_execs_nil ⟨σ', H', J'.ofTry ok, q⟩
    | brk =>
      obtain ⟨σ', H', J', q⟩ := hsp
      exact ⟨σ', H', J'.ofTry ok, q⟩
    | cont =>
      obtain ⟨σ', H', J', q⟩ := hsp
      exact ⟨σ', H', J'.ofTry ok, q⟩
    | ret u =>
      obtain ⟨v, σ', H', J', r, q⟩ := hsp
      exact ⟨v, σ', H', J'.ofTry ok, r, q⟩
end
end TL
set_option Elab.async false
set_option linter.all false
set_option maxRecDepth 100000
set_option maxHeartbeats 0
/-! TL31: try over trees; isinstance of a caught error, its fields. -/
namespace TL
open PySem PySem.Spec PySem.Calls PyProof.Rows L2

/-! ### labels at an exception's dict count for nothing -/
section
variable {Γ : Gam} {ω ω' : Lab} {F H : Hp}
mutual
theorem Ow.un (h : ∀ b q, ω b = some q → (∃ x, H b = some (.xd x)) ∨ ω' b = some q) : ∀ (o : O) (i : Nat) (r : List Nat) (v : V), Ow Γ ω F H i r v o → Ow Γ ω' F H i r v o
  | .fz t, i, r, v, x => by
    simp only [Ow] at x ⊢
    exact x
  | .lst l, i, r, v, x => by
    simp only [Ow] at x ⊢
    obtain ⟨a, xs, e, ha, hh, ol⟩ := x
    refine ⟨a, xs, e, ?_, hh, OwL.un h l i r 0 xs ol⟩
    rcases h a _ ha with ⟨y, z⟩ | z
    · rw [hh] at z; cases z
    · exact z
  | .dic ks vs, i, r, v, x => by
    simp only [Ow] at x ⊢
    obtain ⟨a, xs, e, ha, hh, hl, ol⟩ := x
    refine ⟨a, xs, e, ?_, hh, hl, OwL.un h vs i r 0 xs ol⟩
    rcases h a _ ha with ⟨y, z⟩ | z
    · rw [hh] at z; cases z
    · exact z
  | .dct ks vs, i, r, v, x => by
    simp only [Ow] at x ⊢
    obtain ⟨a, xs, e, ha, hh, hl, ol⟩ := x
    refine ⟨a, xs, e, ?_, hh, hl, OwL.un h vs i r 0 xs ol⟩
    rcases h a _ ha with ⟨y, z⟩ | z
    · rw [hh] at z; cases z
    · exact z
  | .obj c vs, i, r, v, x => by
    simp only [Ow] at x ⊢
    obtain ⟨a, dx, xs, e, ha, hh, hl, ol⟩ := x
    refine ⟨a, dx, xs, e, ?_, hh, hl, OwL.un h vs i r 0 xs ol⟩
    rcases h a _ ha with ⟨y, z⟩ | z
    · rw [hh] at z; cases z
    · exact z
theorem OwL.un (h : ∀ b q, ω b = some q → (∃ x, H b = some (.xd x)) ∨ ω' b = some q) : ∀ (l : List O) (i : Nat) (r : List Nat) (j : Nat) (xs : List V), OwL Γ ω F H i r j xs l → OwL Γ ω' F H i r j xs l
  | [], i, r, j, xs, x => by
    simp only [OwL] at x ⊢
    exact x
  | o :: os, i, r, j, xs, x => by
    simp only [OwL] at x ⊢
    obtain ⟨y, s, e, h1, h2⟩ := x
    exact ⟨y, s, e, Ow.un h o i (j :: r) y h1, OwL.un h os i r (j + 1) s h2⟩
end
end
/-- the ground of an except suite -/
def Bs.su (B : Bs) (F : Hp) (si : Option Nat) (a : Addr) (g : List (Addr × HO)) : Bs :=
  ⟨match g with | [] => B.G | p :: _ => upd B.G p.1 p.2, F, match si with | none => B.io | some i => i :: B.io, match si with | none => B.iv | some i => fun j => if j = i then .ref a else B.iv j⟩
def suE (si : Option Nat) (τ : Env) : Env := match si with
  | none => τ
  | some i => τ.set i none
def suS (si : Option Nat) (a : Addr) (σ : St) : St := match si with
  | none => σ
  | some i => σ.set i (some (.ref a))
section
variable {Γ : Gam} {B : Bs} {τ : Env} {tm : List (V × O)} {σ : St} {H F : Hp} {ω : Lab}
theorem Rel.noT (r : Rel Γ B τ tm σ H F ω) : Rel Γ B τ [] σ H F ω :=
  ⟨r.len, r.lt, r.fh, r.fo, r.oh, r.gh, r.go, r.gf, r.f0, r.slot, fun j v o e => by simp at e, r.io⟩
/-- into an except suite -/
theorem Rel.toSu {si : Option Nat} {a : Addr} {g : List (Addr × HO)} (r : Rel Γ B τ tm σ H F ω) (hg : g = [] ∨ ∃ dx x, g = [(dx, .xd x)] ∧ H dx = some (.xd x)) (hi : ∀ i, si = some i → i ∉ B.io ∧ i < σ.length) :
    ∃ ω', Rel Γ (B.su F si a g) (suE si τ) [] (suS si a σ) H F ω' := by
  have r1 : Rel Γ B (suE si τ) [] (suS si a σ) H F ω := by
    cases si with
    | none => exact r.noT
    | some i => exact (r.noT).setN (hi i rfl).1
  have hio : ∀ i ∈ (B.su F si a g).io, (suS si a σ)[i]? = some (some ((B.su F si a g).iv i)) := by
    intro j hj
    cases si with
    | none => exact r1.io j hj
    | some i =>
      by_cases e : j = i
      · subst e
        show (σ.set j (some (.ref a)))[j]? = some (some (if j = j then .ref a else B.iv j))
        rw [List.getElem?_set_self (hi j rfl).2, if_pos rfl]
      · have hj' : j ∈ B.io := by
          rcases List.mem_cons.mp (show j ∈ i :: B.io from hj) with z | z
          · exact absurd z e
          · exact z
        show _ = some (some (if j = i then .ref a else B.iv j))
        rw [if_neg e]
        exact r1.io j hj'
  rcases hg with rfl | ⟨dx, x, rfl, hd⟩
  · exact ⟨ω, r1.len, r1.lt, r1.fh, r1.fo, r1.oh, r1.gh, r1.go, fun b o u e e' => ⟨u, e'⟩, fun b o e => e, r1.slot, r1.tmp, hio⟩
  · have un : ∀ b q, ω b = some q → (∃ x, H b = some (.xd x)) ∨ (if b = dx then none else ω b) = some q := fun b q e => by
      by_cases hb : b = dx
      · subst hb
        exact .inl ⟨_, hd⟩
      · rw [if_neg hb]
        exact .inr e
    refine ⟨fun b => if b = dx then none else ω b, r1.len, r1.lt, r1.fh, fun b o e => ?_, fun b p e => ?_, fun b o e => ?_, fun b o e => ?_, fun b o u e e' => ⟨u, e'⟩, fun b o e => e, fun i o e => ?_, fun j v o e => by simp at e, hio⟩
    · show (if b = dx then none else ω b) = none
      split
      · rfl
      · exact r1.fo b o e
    · have e : (if b = dx then none else ω b) = some p := e
      split at e
      · cases e
      · exact r1.oh b p e
    · have e : upd B.G dx (.xd x) b = some o := e
      by_cases hb : b = dx
      · subst hb
        rw [upd_same] at e
        cases e
        exact hd
      · rw [upd_ne hb] at e
        exact r1.gh b o e
    · have e : upd B.G dx (.xd x) b = some o := e
      show (if b = dx then none else ω b) = none
      by_cases hb : b = dx
      · rw [if_pos hb]
      · rw [if_neg hb]
        rw [upd_ne hb] at e
        exact r1.go b o e
    · obtain ⟨v, h1, h2⟩ := r1.slot i o e
      exact ⟨v, h1, Ow.un un o i [] v h2⟩
/-- out of an except suite -/
theorem Rel.ofSu {τ0 : Env} {tm0 : List (V × O)} {σ0 : St} {H0 F0 : Hp} {ω0 : Lab} {si : Option Nat} {a : Addr} {g : List (Addr × HO)} (r0 : Rel Γ B τ0 tm0 σ0 H0 F0 ω0) (hg : g = [] ∨ ∃ dx x, g = [(dx, .xd x)] ∧ H0 dx = some (.xd x)) (hi : ∀ i, si = some i → i ∉ B.io)
    (r : Rel Γ (B.su F0 si a g) τ tm σ H F ω) : Rel Γ B τ tm σ H F ω := by
  have hG : ∀ b o, B.G b = some o → (B.su F0 si a g).G b = some o := fun b o e => by
    rcases hg with rfl | ⟨dx, x, rfl, hd⟩
    · exact e
    · show upd B.G dx (.xd x) b = some o
      by_cases hb : b = dx
      · subst hb
        rw [upd_same]
        have := r0.gh _ _ e
        rw [hd] at this
        exact this
      · rw [upd_ne hb]
        exact e
  refine r.base hG (fun b o e => r.f0 b o (r0.f0 b o e)) (fun b o u e e' => ?_) (fun i h => ?_)
  · obtain ⟨u', hu⟩ := r.gf b o u (hG b o e) e'
    exact r0.gf b o u' e hu
  · cases si with
    | none => exact ⟨h, rfl⟩
    | some j =>
      refine ⟨List.mem_cons_of_mem _ h, ?_⟩
      show B.iv i = if i = j then .ref a else B.iv i
      rw [if_neg]
      rintro rfl
      exact hi i rfl h
end
/-! ### try over trees -/
abbrev MHs := List (Option Nat × (Nat → Bool) × (Nat → List T → DS))
def dSu (si : Option Nat) (d : DS) : DS := fun τ => match si with
  | none => match d τ with
    | .ok f τ1 => .ok f τ1
    | _ => .st
  | some i => if i < τ.length then match d (τ.set i none) with
    | .ok f τ1 => .ok f (τ1.set i none)
    | _ => .st else .st
def dHs : MHs → Nat → List T → DS
  | [], n, fs => fun τ => .er n fs τ
  | (si, p, d) :: r, n, fs => fun τ => if p n = true then dSu si (d n fs) τ else dHs r n fs τ
def dTry (b : DS) (hs : MHs) : DS := fun τ => match b τ with
  | .er n fs τ1 => dHs hs n fs τ1
  | .ok f τ1 => .ok f τ1
  | .st => .st
/-- what an exception in the air is: its class, its dict -/
def XC (cl : Nat → Addr) (fl : Nat → List Str) (kn : Nat → Bool) (n : Nat) (fs : List T) (cls : Value) (d : Option Addr) (g : List (Addr × HO)) : Prop :=
  kn n = true ∧ cls = .ref (cl n) ∧ fs.length = (fl n).length ∧ ((fl n = [] ∧ d = none ∧ g = []) ∨ fl n ≠ [] ∧ ∃ dx vs, d = some dx ∧ g = [(dx, .xd ((fl n).zip vs).reverse)] ∧ fs.map immV = vs.map some)
def xrF (cl : Nat → Addr) (fl : Nat → List Str) (kn : Nat → Bool) (n : Nat) (fs : List T) (cls : Value) (d : Option Addr) (H : Hp) : Prop := kn n = true ∧ cls = .ref (cl n) ∧ XD (fl n) fs d H
def suΨ (Ψ : Sx) (si : Option Nat) (a : Addr) (g : List (Addr × HO)) : Sx :=
  ⟨Ψ.Γ, fun _ _ _ _ => False, match si with | none => Ψ.io | some i => i :: Ψ.io, match si with | none => [] | some i => [(i, .ref a)], g⟩
section
variable (cl : Nat → Addr) (fl : Nat → List Str) (kn : Nat → Bool)
def tsu (Ψ : Sx) (si : Option Nat) (p : Nat → Bool) (ds : Nat → List T → DS) (a : Addr) (cls : Value) (d : Option Addr) : TS := fun D σ H => ∃ n fs g, XC cl fl kn n fs cls d g ∧ p n = true ∧ tS (suΨ Ψ si a g) (ds n fs) D σ H
inductive HdT (X : Cx) (Ψ : Sx) : List ExceptHandler → MHs → HdL → Prop
  | nil : HdT X Ψ [] [] []
  | cons {x : Str} {c : Value} {p : Nat → Bool} {ds : Nat → List T → DS} {b₀ : Stmt} {suite : List Stmt} {np pos' : Pos} {hds : List ExceptHandler} {hs : MHs} {l : HdL} (hc : Names X x c) (hex : ∀ n, kn n = true → PySem.W.exmOne X.K (.ref (cl n)) c = some (p n))
      (hsu : ∀ (n : Nat) (fs : List T) (a : Addr) (oe : Obj) (cls : Value) (d : Option Addr) (g : List (Addr × HO)) (pn : List (Addr × Obj)), XC cl fl kn n fs cls d g → p n = true → Zc cls d oe → (∃ vs, oe.data = .fields vs) → PSs (X.suite a ((a, oe) :: pn)) (b₀ :: suite) (tS (suΨ Ψ none a g) (ds n fs)))
      (r : HdT X Ψ hds hs l) : HdT X Ψ (.ExceptHandler (some (.Name x np)) none (b₀ :: suite) pos' :: hds) ((none, p, ds) :: hs) ((c, none, tsu cl fl kn Ψ none p ds) :: l)
  | consA {x n : Str} {i : Nat} {c : Value} {p : Nat → Bool} {ds : Nat → List T → DS} {b₀ : Stmt} {suite : List Stmt} {np pos' : Pos} {hds : List ExceptHandler} {hs : MHs} {l : HdL} (hi : X.N[i]? = some n) (hln : X.env.kindOf n = some .local) (hio : i ∉ Ψ.io) (hc : Names X x c)
      (hex : ∀ n, kn n = true → PySem.W.exmOne X.K (.ref (cl n)) c = some (p n))
      (hsu : ∀ (n : Nat) (fs : List T) (a : Addr) (oe : Obj) (cls : Value) (d : Option Addr) (g : List (Addr × HO)) (pn : List (Addr × Obj)), XC cl fl kn n fs cls d g → p n = true → Zc cls d oe → (∃ vs, oe.data = .fields vs) → PSs (X.suite a ((a, oe) :: pn)) (b₀ :: suite) (tS (suΨ Ψ (some i) a g) (ds n fs)))
      (r : HdT X Ψ hds hs l) : HdT X Ψ (.ExceptHandler (some (.Name x np)) (some n) (b₀ :: suite) pos' :: hds) ((some i, p, ds) :: hs) ((c, some i, tsu cl fl kn Ψ (some i) p ds) :: l)
end
theorem PSs.ex {α : Type} {X : Cx} {l : List Stmt} {t : α → TS} (h : ∀ x, PSs X l (t x)) : PSs X l (fun D σ H => ∃ x, t x D σ H) := ⟨fun pins s σ H D I ⟨x, q⟩ => (h x).run pins s σ H D I q⟩
theorem PSs.exP {p : Prop} {X : Cx} {l : List Stmt} {t : TS} (h : p → PSs X l t) : PSs X l (fun D σ H => p ∧ t D σ H) := ⟨fun pins s σ H D I ⟨x, q⟩ => (h x).run pins s σ H D I q⟩
section
variable {cl : Nat → Addr} {fl : Nat → List Str} {kn : Nat → Bool} {X : Cx} {Ψ : Sx}
theorem HdT.ok {hds : List ExceptHandler} {hs : MHs} {l : HdL} (h : HdT cl fl kn X Ψ hds hs l) : HsOk X hds l := by
  induction h with
  | nil => exact .nil
  | cons hc hex hsu r ih => exact .cons hc (fun a oe cls d pn h1 h2 => PSs.ex fun n => PSs.ex fun fs => PSs.ex fun g => PSs.exP fun h3 => PSs.exP fun h4 => hsu n fs a oe cls d g pn h3 h4 h1 h2) ih
  | consA hi hln hio hc hex hsu r ih => exact .consA hi hln hc (fun a oe cls d pn h1 h2 => PSs.ex fun n => PSs.ex fun fs => PSs.ex fun g => PSs.exP fun h3 => PSs.exP fun h4 => hsu n fs a oe cls d g pn h3 h4 h1 h2) ih
/-- one suite, entered -/
theorem su_road {si : Option Nat} {p : Nat → Bool} {ds : Nat → List T → DS} {B : Bs} {τ : Env} {tm : List (V × O)} {σ : St} {H F : Hp} {ω : Lab} {n : Nat} {fs : List T} {d : Option Addr} {D : Ends} {a : Addr} (hsi : ∀ i, si = some i → i ∉ Ψ.io) (hok : Ψ.okB B)
    (r : Rel Ψ.Γ B τ tm σ H F ω) (hx : xrF cl fl kn n fs (.ref (cl n)) d H) (hp : p n = true) (q : (dSu si (ds n fs) τ).sat (flP Ψ B [] D) (exS Ψ B)) : cSt si (tsu cl fl kn Ψ si p ds a (.ref (cl n)) d) a D σ H := by
  obtain ⟨hk, _, hfl, hd⟩ := hx
  obtain ⟨g, hg, hgH⟩ : ∃ g, XC cl fl kn n fs (.ref (cl n)) d g ∧ (g = [] ∨ ∃ dx x, g = [(dx, .xd x)] ∧ H dx = some (.xd x)) := by
    rcases hd with ⟨h1, h2⟩ | ⟨h0, dx, vs, h1, h2, h3⟩
    · exact ⟨[], ⟨hk, rfl, hfl, .inl ⟨h1, h2, rfl⟩⟩, .inl rfl⟩
    · exact ⟨_, ⟨hk, rfl, hfl, .inr ⟨h0, dx, vs, h1, rfl, h3⟩⟩, .inr ⟨dx, _, rfl, h2⟩⟩
  have hi : ∀ i, si = some i → i ∉ B.io ∧ i < σ.length := fun i e => by
    refine ⟨by rw [hok.1]; exact hsi i e, ?_⟩
    subst e
    unfold dSu at q
    dsimp only at q
    split at q
    · rename_i h
      rw [r.len]
      exact h
    · exact q.elim
  obtain ⟨ω', r'⟩ := Rel.toSu (a := a) r hgH hi
  have okS : (suΨ Ψ si a g).okS (B.su F si a g) [] := by
    refine ⟨⟨?_, fun p hp => ?_, fun p hp => ?_⟩, rfl⟩
    · cases si with
      | none => exact hok.1
      | some i =>
        show i :: B.io = i :: Ψ.io
        rw [hok.1]
    · cases si with
      | none => exact absurd (show p ∈ ([] : List (Nat × V)) from hp) (by simp)
      | some i =>
        have : p = (i, .ref a) := by simpa using (show p ∈ [(i, V.ref a)] from hp)
        subst this
        show (if i = i then V.ref a else B.iv i) = .ref a
        rw [if_pos rfl]
    · rcases hgH with rfl | ⟨dx, x, rfl, _⟩
      · exact absurd (show p ∈ ([] : List (Addr × HO)) from hp) (by simp)
      · have : p = (dx, .xd x) := by simpa using (show p ∈ [(dx, HO.xd x)] from hp)
        subst this
        exact upd_same
  have out : ∀ {τ' : Env} {tm' : List (V × O)} {σ' : St} {H' F' : Hp} {ω' : Lab}, Rel Ψ.Γ (B.su F si a g) τ' tm' σ' H' F' ω' → Rel Ψ.Γ B τ' tm' σ' H' F' ω' := fun {τ' tm' σ' H' F' ω'} r2 => Rel.ofSu r hgH (fun i e => (hi i e).1) r2
  cases si with
  | none =>
    show tsu cl fl kn Ψ none p ds a (.ref (cl n)) d D σ H
    refine ⟨n, fs, g, hg, hp, _, τ, [], F, ω', r', okS, ?_⟩
    unfold dSu at q
    dsimp only at q
    cases z : ds n fs τ with
    | ok f τ1 =>
      rw [z] at q
      cases f with
      | nx => exact fun σ' H' F' ω' r2 => q σ' H' F' ω' (out r2)
      | rt o => exact fun v σ' H' F' ω' r2 => q v σ' H' F' ω' (out r2)
      | bk => exact fun σ' H' F' ω' r2 => q σ' H' F' ω' (out r2)
      | ct => exact fun σ' H' F' ω' r2 => q σ' H' F' ω' (out r2)
    | er e fs' τ1 => rw [z] at q; exact q.elim
    | st => rw [z] at q; exact q.elim
  | some i =>
    show tsu cl fl kn Ψ (some i) p ds a (.ref (cl n)) d (endsGone i D) (σ.set i (some (.ref a))) H
    refine ⟨n, fs, g, hg, hp, _, τ.set i none, [], F, ω', r', okS, ?_⟩
    unfold dSu at q
    dsimp only at q
    rw [if_pos (by rw [← r.len]; exact (hi i rfl).2)] at q
    cases z : ds n fs (τ.set i none) with
    | ok f τ1 =>
      rw [z] at q
      cases f with
      | nx => exact fun σ' H' F' ω' r2 => q _ H' F' ω' ((out r2).setN (hi i rfl).1)
      | rt o => exact fun v σ' H' F' ω' r2 => q v σ' H' F' ω' (out r2).forget
      | bk => exact fun σ' H' F' ω' r2 => q _ H' F' ω' ((out r2).setN (hi i rfl).1)
      | ct => exact fun σ' H' F' ω' r2 => q _ H' F' ω' ((out r2).setN (hi i rfl).1)
    | er e fs' τ1 => rw [z] at q; exact q.elim
    | st => rw [z] at q; exact q.elim
theorem hs_road (hxr : ∀ n fs cls d H, Ψ.Γ.xr n fs cls d H → xrF cl fl kn n fs cls d H) {hds : List ExceptHandler} {hs : MHs} {l : HdL} (h : HdT cl fl kn X Ψ hds hs l) {B : Bs} (hok : Ψ.okB B) {τ : Env} {n : Nat} {fs : List T} {D : Ends}
    (q : (dHs hs n fs τ).sat (flP Ψ B [] D) (exS Ψ B)) : exS { Ψ with W := wHs X.K Ψ.W D l } B n fs τ := by
  induction h with
  | nil => exact q
  | @cons x c p ds b₀ suite np pos' hds hs l hc hex hsu r ih =>
    intro cls d σ H F ω tm rl hx
    have hx' := hxr _ _ _ _ _ hx
    obtain ⟨hk, rfl, _⟩ := id hx'
    refine ⟨p n, hex n hk, fun hp a na => ?_, fun hp => ?_⟩
    · unfold dHs at q
      rw [if_pos hp] at q
      exact su_road (fun i e => nomatch e) hok rl hx' hp q
    · unfold dHs at q
      rw [if_neg (by rw [hp]; decide)] at q
      exact ih q _ _ _ _ _ _ _ rl hx
  | @consA x n0 i c p ds b₀ suite np pos' hds hs l hi hln hio hc hex hsu r ih =>
    intro cls d σ H F ω tm rl hx
    have hx' := hxr _ _ _ _ _ hx
    obtain ⟨hk, rfl, _⟩ := id hx'
    refine ⟨p n, hex n hk, fun hp a na => ?_, fun hp => ?_⟩
    · unfold dHs at q
      rw [if_pos hp] at q
      exact su_road (fun j e => by cases e; exact hio) hok rl hx' hp q
    · unfold dHs at q
      rw [if_neg (by rw [hp]; decide)] at q
      exact ih q _ _ _ _ _ _ _ rl hx
end
end TL
set_option Elab.async false
set_option linter.all false
set_option maxRecDepth 100000
set_option maxHeartbeats 0
/-! TL32: the try statement; what a suite asks of the caught error; facts for the head. -/
namespace TL
open PySem PySem.Spec PySem.Calls PyProof.Rows L2

section
variable {cl : Nat → Addr} {fl : Nat → List Str} {kn : Nat → Bool} {X : Cx} {Ψ : Sx} {body : List Stmt} {h₀ : ExceptHandler} {hds : List ExceptHandler} {l : HdL} {ms : MHs} {pos : Pos} {db : DS}
theorem ds_try (hs : X.stack = X.env :: X.outer) (hf : X.env.frame = some X.env.locals) (hN : X.N.Nodup) (tk : Takes X Ψ.W) (hxr : ∀ n fs cls d H, Ψ.Γ.xr n fs cls d H → xrF cl fl kn n fs cls d H)
    (hb : ∀ (W : WX) (pn : List (Addr × Obj)) (xe : Value → Shared → Prop), Takes (X.tr pn xe) W → PassesOwn (model X.prog X.w) X.A X.env xe → PSs (X.tr pn xe) body (tS { Ψ with W := W } db))
    (hh : HdT cl fl kn X Ψ (h₀ :: hds) ms l) : PS X (.Try body (h₀ :: hds) [] [] pos) (tS Ψ (dTry db ms)) := by
  refine PS.imp (ps_try_hs hs hf hN tk (tb := fun W => tS { Ψ with W := W } db) hb hh.ok) fun D σ H ⟨B, τ, tm, F, ω, r, hio, q⟩ => ?_
  obtain ⟨hio, rfl⟩ := hio
  refine ⟨B, τ, [], F, ω, r, ⟨hio, rfl⟩, ?_⟩
  unfold dTry at q
  cases z : db τ with
  | ok f τ1 => rw [z] at q; exact q
  | er n fs τ1 => rw [z] at q; exact hs_road hxr hh hio q
  | st => rw [z] at q; exact q.elim
end
/-! ### in a suite -/
section
variable {cl : Nat → Addr} {fl : Nat → List Str} {kn : Nat → Bool} {X : Cx} {Ψ : Sx} {a C : Addr} {oe : Obj} {cls : Value} {d : Option Addr} {g : List (Addr × HO)} {pn : List (Addr × Obj)} {n i j : Nat} {fs : List T} {e : Expr} {x f c y : Str} {p p' pos : Pos} {v : Value} {b : Bool}
/-- the caught error, by its name -/
theorem suVar {B : Bs} {τ : Env} {tm : List (V × O)} {σ : St} {H F : Hp} {ω : Lab} (r : Rel Ψ.Γ B τ tm σ H F ω) (h : (suΨ Ψ (some i) a g).okB B) : σ[i]? = some (some (.ref a)) := by
  have h1 := r.io i (by rw [h.1]; exact List.mem_cons_self)
  rw [h1, h.2.1 (i, .ref a) List.mem_cons_self]
theorem de_isE (T : ExcC X.K (cl n)) (hx : XC cl fl kn n fs cls d g) (hfl : fl n = []) (hz : Zc cls d oe) (hf : ∃ vs, oe.data = .fields vs) (hN : X.N[i]? = some x) (hv : Vis X.env.scope x) (hg : Gl X "isinstance") (hm : X.mg "isinstance" = none) (hgc : Gl X c) (hmc : X.mg c = some (.ref C))
    (hk : PySem.W.kitOne X.K (.ref (cl n)) (.ref C) = some b) (hd : (x == ("__debug__" : Str)) = false := by decide) (hcd : (x == ("__classdict__" : Str)) = false := by decide) (hdc : (c == ("__debug__" : Str)) = false := by decide) {p1 p2 p3 : Pos} :
    PE (X.suite a ((a, oe) :: pn)) (.Call (.Name "isinstance" p1) [.Name x p2, .Name c p3] [] pos) (tE (suΨ Ψ (some i) a g) (dC (.bl b))) := by
  obtain ⟨hkn, rfl, hlen, hdd⟩ := hx
  have hdn : d = none := by
    rcases hdd with ⟨_, h, _⟩ | ⟨h, _⟩
    · exact h
    · exact absurd hfl h
  subst hdn
  refine PE.imp (pe_callB (call_isE T hz hf) hg hm bt_isinstance (pa_cons (pe_var hN hv hd hcd) (pa_cons (pe_glob (v := .ref C) hgc hmc rfl hdc) pa_nil))) fun σ H Q ⟨B, τ, tm, F, ω, r, hio, q⟩ => ?_
  exact ⟨_, suVar (Ψ := Ψ) r hio, .ref C, .ref C, b, rfl, fun u ru => ru, hk, q _ H F ω r (fun _ _ e => e) rp_bl⟩
def dFx (fs : List T) (j : Nat) : DE := fun τ => match fs[j]? with
  | some t => .ok t τ
  | none => .st
theorem lookup_zipV : ∀ {ps : List Str} {us : List V} {i : Nat} {x : Str} {v : V}, ps.Nodup → ps[i]? = some x → us[i]? = some v → (ps.zip us).reverse.lookup x = some v
  | [], _, _, _, _, _, h, _ => by simp at h
  | _ :: _, [], _, _, _, _, _, h => by simp at h
  | p :: ps, u :: us, 0, x, v, nd, h1, h2 => by
    simp at h1 h2
    subst h1; subst h2
    have z : (ps.zip us).reverse.lookup p = none := by
      rw [List.lookup_eq_none_iff]
      intro q hq
      refine bne_iff_ne.mpr fun e => (List.nodup_cons.mp nd).1 ?_
      rw [e]
      exact (List.of_mem_zip (List.mem_reverse.mp hq)).1
    rw [List.zip_cons_cons, List.reverse_cons, List.lookup_append, z]
    simp
  | p :: ps, u :: us, i + 1, x, v, nd, h1, h2 => by
    simp at h1 h2
    rw [List.zip_cons_cons, List.reverse_cons, List.lookup_append, lookup_zipV (List.nodup_cons.mp nd).2 h1 h2]
    rfl
theorem imm_of {Γ : Gam} {F : Hp} {v : V} {t : T} (h : immV t = some v) : Rp Γ F v t := by
  cases t <;> simp only [immV, Option.some.injEq] at h <;> first | (subst h; simp only [Rp]; done) | (cases h)
theorem de_xf (T : XfC X.K (cl n)) (hno : PySem.W.findIn X.K (.ref (cl n)) f = some none) (hx : XC cl fl kn n fs cls d g) (hnd : (fl n).Nodup) (hj : (fl n)[j]? = some f) (hz : Zc cls d oe) (hf : ∃ vs, oe.data = .fields vs) (hN : X.N[i]? = some x) (hv : Vis X.env.scope x)
    (hd : (x == ("__debug__" : Str)) = false := by decide) (hcd : (x == ("__classdict__" : Str)) = false := by decide) {p1 : Pos} (hb : attributeBase (.Name x p1) f X.env (eval (.Name x p1) X.env) = eval (.Name x p1) X.env := by rfl) :
    PE (X.suite a ((a, oe) :: pn)) (.Attribute (.Name x p1) f pos) (tE (suΨ Ψ (some i) a g) (dFx fs j)) := by
  obtain ⟨hkn, hc, hlen, hdd⟩ := hx
  refine PE.imp (pe_xf T hno hz hf (pe_var (X := X.suite a ((a, oe) :: pn)) hN hv hd hcd) hb) fun σ H Q ⟨B, τ, tm, F, ω, r, hio, q⟩ => ?_
  unfold dFx at q
  rcases hdd with ⟨h, _, _⟩ | ⟨hne, dx, vs, h1, h2, h3⟩
  · rw [h] at hj
    simp at hj
  · subst h2
    have hG := r.gh _ _ (hio.2.2 (dx, _) List.mem_cons_self)
    cases z : fs[j]? with
    | none => rw [z] at q; exact q.elim
    | some t =>
      rw [z] at q
      have h4 : (fs.map immV)[j]? = some (immV t) := by rw [List.getElem?_map, z]; rfl
      rw [h3, List.getElem?_map] at h4
      cases zv : vs[j]? with
      | none => rw [zv] at h4; cases h4
      | some w =>
        rw [zv] at h4
        have h5 : immV t = some w := (Option.some.inj h4).symm
        exact ⟨_, suVar (Ψ := Ψ) r hio, rfl, hc, dx, _, w, h1, hG, lookup_zipV hnd hj zv, q w H F ω r (fun _ _ e => e) (imm_of h5)⟩
end
end TL
set_option Elab.async false
set_option linter.all false
set_option maxRecDepth 100000
set_option maxHeartbeats 0
/-! TL33: own exception classes in the head. -/
namespace TL
open PySem PySem.Spec PySem.Calls PyProof.Rows L2

def oexB (K : PySem.W.Frag) (C : Addr) : Bool := match K.lookup C with
  | some ⟨.type "type", _, .cls cd, sl⟩ => (match cd.mro, sl.toList with
    | .ref C' :: bm, [_, _, _, _, some (.builtin n), _] => C' == C && (n == "ValueError.__new__" && (!cd.hasDel && (cd.hasDict && PySem.HandSPX.refsVE bm)))
    | _, _ => false)
  | _ => false
theorem oexB_ok {K : PySem.W.Frag} {C : Addr} (q : oexB K C = true) : ∃ nm q N bs bm sn sub ab col dd k0 k1 k2 k3 k5, K.lookup C = some (excClassObj nm q C N bs bm true sn sub ab col dd k0 k1 k2 k3 k5 "ValueError.__new__") ∧ PySem.HandSPX.refsVE bm = true := by
  unfold oexB at q
  split at q
  · rename_i dd cd sl ho
    split at q
    · rename_i C' bm k0 k1 k2 k3 n k5 hm hs
      simp only [Bool.and_eq_true, beq_iff_eq, Bool.not_eq_true'] at q
      obtain ⟨rfl, rfl, hdel, hdict, hve⟩ := q
      obtain ⟨nm, bs, mro, ns, qn, hd, sn, sub, ab, col, del⟩ := cd
      dsimp only at hm hdel hdict
      subst hm hdel hdict
      have hsl : sl = #[k0, k1, k2, k3, some (.builtin "ValueError.__new__"), k5] := by
        obtain ⟨l⟩ := sl
        simp only at hs
        rw [hs]
      subst hsl
      exact ⟨nm, qn, ns, bs, bm, sn, sub, ab, col, dd, k0, k1, k2, k3, k5, ho, hve⟩
    · cases q
  · cases q
def cellB (K : PySem.W.Frag) (C f : Addr) (file : Str) : Bool := match K.lookup f with
  | some ⟨_, _, .func fd, _⟩ => (match fd.closure with
      | [(_, cc)] => (match K.lookup cc with
        | some ⟨_, _, .cell (some (.ref D)), _⟩ => D == C
        | _ => false)
      | _ => false) && (match fd.code with
      | .ref cda => (match K.lookup cda with
        | some ⟨_, _, .fields vs, _⟩ => (match (vs : Array Value)[2]? with
          | some (Value.str z _) => z == file
          | _ => false)
        | _ => false)
      | _ => false)
  | _ => false
/-- what of the class x is asked; fs its fields -/
def exnB (x : Str) (fs : List Str) (file : Str) (K : PySem.W.Frag) : Bool :=
  oexB K (He.ga K x) && (decide (PySem.W.findIn K (.ref (He.ga K x)) "__setattr__" = some (some (.builtin "object.__setattr__"))) && (decide (PySem.W.subIn K (.ref (He.ga K x)) (.type "BaseException") = some true) && (decide (PySem.W.typeIn K (.ref (He.ga K x)) = some (.type "type")) &&
  (PySem.W.keepIn K (.ref (He.ga K x)) && (decide (PySem.W.mroIn K (He.ga K x) (.ref (He.ga K x)) = some true) && (decide (PySem.W.ks_superIn K (He.ga K x) (He.ga K x) "__init__" = some (some (.builtin "ValueError.__init__"))) && (decide (PySem.W.subIn K (.ref (He.ga K x)) (.type "ValueError") = some true) &&
  (decide (PySem.W.nsIn K cStatics "thirdparty.any" = some none) && (decide (PySem.W.findIn K (.ref (He.ga K x)) "__init__" = some (some (.ref (He.ma K (He.ga K x) "__init__")))) && (decide (PySem.W.typeIn K (.ref (He.ma K (He.ga K x) "__init__")) = some (.type "function")) &&
  (fs.all (fun f => decide (PySem.W.findIn K (.ref (He.ga K x)) f = some none)) && cellB K (He.ga K x) (He.ma K (He.ga K x) "__init__") file)))))))))))
structure ExnF (K : PySem.W.Frag) (C f : Addr) (fs : List Str) (file : Str) : Prop where
  su : SuC K C
  ini : PySem.W.findIn K (.ref C) "__init__" = some (some (.ref f))
  typ : PySem.W.typeIn K (.ref f) = some (.type "function")
  no : ∀ g ∈ fs, PySem.W.findIn K (.ref C) g = some none
  cell : cellB K C f file = true
theorem exnB_ok {x : Str} {fs : List Str} {file : Str} {K : PySem.W.Frag} (h : exnB x fs file K = true) : ExnF K (He.ga K x) (He.ma K (He.ga K x) "__init__") fs file := by
  obtain ⟨h1, h⟩ := He.ba h
  obtain ⟨h2, h⟩ := He.ba h
  obtain ⟨h3, h⟩ := He.ba h
  obtain ⟨h4, h⟩ := He.ba h
  obtain ⟨h5, h⟩ := He.ba h
  obtain ⟨h6, h⟩ := He.ba h
  obtain ⟨h7, h⟩ := He.ba h
  obtain ⟨h8, h⟩ := He.ba h
  obtain ⟨h9, h⟩ := He.ba h
  obtain ⟨h10, h⟩ := He.ba h
  obtain ⟨h11, h⟩ := He.ba h
  obtain ⟨h12, h13⟩ := He.ba h
  exact ⟨⟨⟨oexB_ok h1, of_decide_eq_true h2, of_decide_eq_true h3, of_decide_eq_true h4, h5⟩, of_decide_eq_true h6, of_decide_eq_true h7, of_decide_eq_true h8, of_decide_eq_true h9⟩, of_decide_eq_true h10, of_decide_eq_true h11, fun g hg => of_decide_eq_true (List.all_eq_true.mp h12 g hg), h13⟩
/-- the __init__'s def, as it lies there -/
theorem SaysP.su {ex : List (PySem.W.Frag → Bool)} {fn : List FD} {K : PySem.W.Frag} (c : SaysP ex fn K) (i : Nat) {d : FD} (h : fn[i]? = some d) (hcl : d.cl = [("__class__" : Str)]) {C : Addr} {file : Str} (hc : cellB K C (d.ad K) file = true) :
    ∃ oc od kV doc pm an cda ct cc osl, K.lookup (d.ad K) = some ⟨oc, od, .func (PySem.W.fnX d.name d.qual (defArgs d.st) (defBody d.st) (defScope d.st) [("__class__", cc)] .none kV doc pm an (.ref cda) ct), osl⟩ ∧ PySem.W.codeIn K (.ref cda) d.qual = true ∧
      (∃ oc od sl, K.lookup cc = some ⟨oc, od, .cell (some (.ref C)), sl⟩) ∧ ∃ oc od vs sl tf, K.lookup cda = some ⟨oc, od, .fields vs, sl⟩ ∧ vs[2]? = some (.str file tf) := by
  have c2 := (He.ba (show (allB ex K && fn.all fun d => d.ok K) = true from congrArg (fun z : He.AlD => z.1) c)).2
  have e2 : (fn.map fun d => fnA K (d.ad K))[i]? = (fn.map FD.val)[i]? := congrArg (fun z : He.AlD => z.2[i]?) c
  rw [List.getElem?_map, List.getElem?_map, h] at e2
  have e : fnA K (d.ad K) = d.val := Option.some.inj e2
  have c3 := List.all_eq_true.mp c2 d (List.mem_of_getElem? h)
  obtain ⟨kp, c4⟩ := He.ba c3
  unfold fnA at e
  unfold cellB at hc
  cases q : K.lookup (d.ad K) with
  | none => rw [q] at c4; cases c4
  | some o =>
    obtain ⟨oc, od, dt, osl⟩ := o
    rw [q] at c4 e hc
    cases dt with
    | func fd =>
      obtain ⟨m1, m2, m3, m4, m5, m6, m7, m8, m9, m10, m11, m12, m13, m14, m15⟩ := fd
      have e2 : (some (m1, m2, m3, m4, m5, m6, m7.map (fun p => (p.1, 0)), m15) : He.FnW) = some (d.name, d.qual, defArgs d.st, .stmts (defBody d.st), defScope d.st, mainGlobals, d.cl.map (fun n => (n, 0)), builtinsNs) := e
      simp only [Option.some.injEq, Prod.mk.injEq] at e2
      obtain ⟨h1, h2, h3, h4, h5, h6, h7, h8⟩ := e2
      rw [hcl] at h7
      obtain ⟨cc, rfl⟩ : ∃ cc, m7 = [(("__class__" : Str), cc)] := by
        match m7, h7 with
        | [(a, b)], h7 =>
          have h7' : ([(a, 0)] : List (Str × Addr)) = [(("__class__" : Str), 0)] := h7
          simp only [List.cons.injEq, Prod.mk.injEq, and_true] at h7'
          exact ⟨b, by rw [h7']⟩
      subst h1 h2 h3 h4 h5 h6 h8
      have c5 : (PySem.W.codeIn K m13 d.qual && (He.dflB K m8 [] && He.kwdB K m9 [])) = true := c4
      obtain ⟨k1, k2⟩ := He.ba c5
      obtain ⟨k3, k4⟩ := He.ba k2
      obtain ⟨hc1, hc2⟩ := He.ba hc
      dsimp only at hc1 hc2
      have hdv : m8 = .none := by
        rcases He.dflB_ok k3 with ⟨_, z⟩ | ⟨z, _⟩
        · exact z
        · exact absurd rfl z
      subst hdv
      split at hc2
      · rename_i cda
        split at hc2
        · rename_i oc2 od2 vs sl2 hl2
          split at hc2
          · rename_i z tf hvs
            have := beq_iff_eq.mp hc2
            subst this
            split at hc1
            · rename_i oc3 od3 D sl3 hl3
              have := beq_iff_eq.mp hc1
              subst this
              exact ⟨oc, od, m9, m10, m11, m12, cda, m14, cc, osl, rfl, k1, ⟨_, _, _, hl3⟩, _, _, _, _, _, hl2, hvs⟩
            · cases hc1
          · cases hc2
        · cases hc2
      · cases hc2
    | _ => cases c4
def excB (x : Str) (K : PySem.W.Frag) : Bool := decide (PySem.W.findIn K (.ref (He.ga K x)) "__getattribute__" = some (some (.builtin "BaseException.__getattribute__"))) && (decide (PySem.W.findIn K (.ref (He.ga K x)) "__getattr__" = some none) && (decide (PySem.W.subIn K (.ref (He.ga K x)) (.type "BaseException") = some true) &&
  (PySem.W.hasDictIn K (He.ga K x) && (decide (PySem.W.findIn K (.ref (He.ga K x)) "__class__" = some (some (.builtin "object.__class__"))) && (decide (PySem.W.specialIn K (.builtin "object.__class__") "__get__" = some (some (.builtin "getset_descriptor.__get__"))) && (decide (PySem.W.takesIn K (.builtin "object.__class__") = some true) &&
  decide (PySem.W.mroIn K (He.ga K x) (.type "object") = some true)))))))
theorem excB_ok {x : Str} {K : PySem.W.Frag} (h : excB x K = true) : ExcC K (He.ga K x) ∧ XfC K (He.ga K x) := by
  obtain ⟨h1, h⟩ := He.ba h
  obtain ⟨h2, h⟩ := He.ba h
  obtain ⟨h3, h⟩ := He.ba h
  obtain ⟨h4, h⟩ := He.ba h
  obtain ⟨h5, h⟩ := He.ba h
  obtain ⟨h6, h⟩ := He.ba h
  obtain ⟨h7, h8⟩ := He.ba h
  exact ⟨⟨of_decide_eq_true h1, of_decide_eq_true h2, of_decide_eq_true h3, h4, of_decide_eq_true h5, of_decide_eq_true h6, of_decide_eq_true h7, of_decide_eq_true h8⟩, ⟨of_decide_eq_true h1, of_decide_eq_true h2, of_decide_eq_true h3, h4⟩⟩
/-- a class among the caught: which errors it takes -/
def exmB (x y : Str) (b : Bool) (K : PySem.W.Frag) : Bool := decide (PySem.W.exmOne K (.ref (He.ga K x)) (.ref (He.ga K y)) = some b)
def kitB (x y : Str) (b : Bool) (K : PySem.W.Frag) : Bool := decide (PySem.W.kitOne K (.ref (He.ga K x)) (.ref (He.ga K y)) = some b)
def noxB (x f : Str) (K : PySem.W.Frag) : Bool := decide (PySem.W.findIn K (.ref (He.ga K x)) f = some none)
end TL
set_option Elab.async false
set_option linter.all false
set_option maxRecDepth 100000
set_option maxHeartbeats 0
/-! TL34: isinstance(x, C) that says no; o == x, x a tuple. -/
namespace TL
open PySem PySem.Spec L2

section
variable {X : Cx} {Ψ : Sx} {e a b o : Expr} {es : List Expr} {pos p apos : Pos} {da db : DE} {x f : Str} {t : T} {k k' n : Nat} {C : Addr} {cs : Nat → Bool} {m : Env → R O}
def tyAll : List String := ["NoneType", "bool", "int", "str", "list", "tuple", "dict"]
def isiO2 (cs : Nat → Bool) (id : Nat) : List T → Option T
  | [.obj c _, .kl k] => if cs c && k == id then some (.bl true) else none
  | [t, .kl k] => if k == id then (tyN t).map fun _ => .bl false else none
  | _ => none
def insNoB (x : Str) (K : PySem.W.Frag) : Bool := tyAll.all fun a => decide (PySem.W.kitOne K (.type a) (.ref (He.ga K x)) = some false)
theorem insNoB_ok {x : Str} {K : PySem.W.Frag} (h : insNoB x K = true) : ∀ a ∈ tyAll, PySem.W.kitOne K (.type a) (.ref (He.ga K x)) = some false := fun a ha => of_decide_eq_true (List.all_eq_true.mp h a ha)
theorem callT_isiO2 {Γ : Gam} {id : Nat} (h : InsOk X.K C) (hno : ∀ a ∈ tyAll, PySem.W.kitOne X.K (.type a) (.ref C) = some false) (hcs : ∀ c, cs c = true → Γ.cls c = C) (hid : Γ.cls id = C) : CallT Γ X (.builtin "isinstance") (isiO2 cs id) := by
  refine ⟨_, call_isi, fun ts u H F xs Q hg sub r n => ?_⟩
  unfold isiO2 at hg
  split at hg
  · rename_i c vs k0
    split at hg
    case isFalse => cases hg
    rename_i hc
    rw [Bool.and_eq_true] at hc
    cases hg
    obtain ⟨x, y, rfl, rx, ry⟩ := rp2 r
    simp only [Rp] at rx ry
    obtain ⟨a, dx, xs, rfl, ha, hl, ra⟩ := rx
    have e1 : Γ.cls k0 = C := by rw [beq_iff_eq.mp hc.2]; exact hid
    rw [e1] at ry
    subst ry
    refine ⟨.ref a, .ref C, .ref C, .ref C, true, rfl, .own C, ?_, ?_, n.same sub rp_bl⟩
    · have ha' := sub _ _ ha
      rw [hcs c hc.1] at ha'
      exact .base (.ins ha' h.cls h.ha h.hn h.htk h.hm)
    · unfold PySem.W.kitOne
      rw [if_pos (by simp)]
  · rename_i t k0 _
    split at hg
    case isFalse => cases hg
    rename_i hc
    cases hty : tyN t with
    | none => rw [hty] at hg; cases hg
    | some a0 =>
      rw [hty] at hg
      cases hg
      obtain ⟨x, y, rfl, rx, ry⟩ := rp2 r
      simp only [Rp] at ry
      have e1 : Γ.cls k0 = C := by rw [beq_iff_eq.mp hc]; exact hid
      rw [e1] at ry
      subst ry
      have ha : a0 ∈ tyAll := by
        unfold tyN at hty
        split at hty <;> cases hty <;> decide
      exact ⟨x, .ref C, .type a0, .ref C, false, rfl, .own C, tyX_of hty sub rx, hno a0 ha, n.same sub rp_bl⟩
  · cases hg
/-! ### o == t, t a tuple -/
def dEqOT (cs : Nat → Bool) (m : Env → R O) (da db : DE) : DE := fun τ => (da τ).bind fun s τ1 => (db τ1).bind fun t τ2 => match s, t with
  | .obj c _, .tup _ => if cs c then match m [some (.fz s), some (.fz t)] with
    | .ok (.fz (.bl r)) _ => .ok (.bl r) τ2
    | _ => .st else .st
  | _, _ => .st
theorem op_eqOT {E : XK} {sp : Sp} {fa : Addr} {fd : FuncData} {ps : List Str} (F : FnOk X.prog X.w X.K X.mg X.base (L2.CX X.prog X.w) k fa fd ps sp) (hs : PySem.W.findIn X.K (.ref C) "__eq__" = some (some (.ref fa))) (hf : PySem.W.isFn X.K (.ref fa) = true) (hb : Binds X.K fd ps []) (hr : Room k X.A) (hx : Passes (L2.CX X.prog X.w) X E) :
    OpR X (compareOp .Eq) (fun x y H Q => ∃ a dx fs tb, x = .ref a ∧ H a = some (.ins C dx fs) ∧ TyX X.K H y tb ∧ PySem.W.notFirst X.K C tb = true ∧ sp [.ref a, y] H (fun v H' => ∃ r, v = .bl r ∧ Q v H') E) := by
  intro pins s σ H x y v u Q I rx ry hq
  obtain ⟨a, dx, fs, tb, rfl, ha, hty, hnf, hsp⟩ := hq
  cases rx
  obtain ⟨mA, J, _⟩ := ins_get I.hok ha
  obtain ⟨od, J, _⟩ := J.look
  obtain ⟨m0, hF⟩ := I.fr
  obtain ⟨Pk, Z, pz, _⟩ := kit_of I ry hty
  show wpAny (model X.prog X.w) X.A (richCompare .Eq (.ref a) u) (EP X pins σ Q) X.xe s
  refine PySem.W.cmp_K (op := .Eq) (tb := tb) hr.units0 hF I.ok.mod.kin J (Z.ty _ _ I.kIn pz) hnf hs hf ?_
  have hl := F.len _ _ _ _ hsp
  have r2 : Vals [V.ref a, y] [Value.ref a, u] := .cons rfl (.cons ry .nil)
  refine wpAny_call (codeAny_mono (F.run X.A X.stack s H ⟨[.ref a, u], []⟩ [.ref a, u] [.ref a, y] _ E hr I.env0 (by
    have := hb s [.ref a, u] I.kIn (by simpa using hl)
    simpa using this) r2 hsp) fun r s' hq => ?_)
  cases r with
  | error e => exact hx pins σ H s e s' I hq
  | ok fl =>
    cases fl with
    | ret w =>
      obtain ⟨z, H', I', rz, r, ez, q⟩ := I.after hq
      subst ez
      cases rz
      exact ⟨.bl r, H', I', rfl, q⟩
    | next => exact False.elim hq
    | brk => exact False.elim hq
    | cont => exact False.elim hq
theorem eqOT_road {E : XK} {σ : St} {H : Hp} {Q : VK} (hE : ∀ cls d H', Ψ.W cls d σ H' → E cls d H') (hcs : ∀ c, cs c = true → Ψ.Γ.cls c = C) (hnf : PySem.W.notFirst X.K C (.type "tuple") = true) (w : tE Ψ (dEqOT cs m da db) σ H Q) :
    tOp (fun x y H Q => ∃ a dx fs tb, x = .ref a ∧ H a = some (.ins C dx fs) ∧ TyX X.K H y tb ∧ PySem.W.notFirst X.K C tb = true ∧ spM Ψ.Γ 2 [] m [.ref a, y] H (fun v H' => ∃ r, v = .bl r ∧ Q v H') E) (tE Ψ da) (tE Ψ db) σ H Q := by
  obtain ⟨B, τ, tm, F, ω, rl, hio, w⟩ := w
  unfold dEqOT at w
  rw [R.sat_bind] at w
  refine ⟨B, τ, tm, F, ω, rl, hio, R.sat_mono w (fun s τ1 q1 v1 H1 F1 ω1 r1 s1 p1 => ?_) (fun _ _ _ x => x)⟩
  rw [R.sat_bind] at q1
  refine ⟨B, τ1, tm, F1, ω1, r1, hio, R.sat_mono q1 (fun t τ2 q2 v2 H2 F2 ω2 r2 s2 p2 => ?_) (fun _ _ _ x => x)⟩
  split at q2
  case h_2 => exact q2.elim
  rename_i c vs l
  split at q2
  case isFalse => exact q2.elim
  rename_i hc
  have p1' := Rp.mono s2 _ _ p1
  have p1'' := p1'
  have p2'' := p2
  simp only [Rp] at p1' p2
  obtain ⟨a0, dx, xs, rfl, ha0, hl, ra⟩ := p1'
  obtain ⟨b0, ys, rfl, hb0, rb⟩ := p2
  refine ⟨a0, dx, _, _, rfl, by rw [← hcs c hc]; exact r2.fh _ _ ha0, .base (.tup (r2.fh _ _ hb0)), hnf, ?_⟩
  refine pure_call (ts := [.obj c vs, .tup l]) r2 (RpL.cons p1'' (RpL.one p2'')) rfl ?_
  show (m [some (.fz (.obj c vs)), some (.fz (.tup l))]).sat _ _
  cases z : m [some (.fz (.obj c vs)), some (.fz (.tup l))] with
  | ok u τ' =>
    rw [z] at q2
    split at q2
    case h_2 => exact q2.elim
    rename_i r0 τ'' he
    cases he
    intro v H' F' ω' r' s'
    have := r'.lastT
    simp only [Ow, Rp] at this
    subst this
    exact ⟨_, rfl, q2 _ H' F' ω' r'.dropT (s1.trans (s2.trans s')) rp_bl⟩
  | er e fs τ' => rw [z] at q2; exact q2.elim
  | st => rw [z] at q2; exact q2.elim
theorem notF {K : PySem.W.Frag} {C : Addr} : PySem.W.notFirst K C (.type "tuple") = true := by
  unfold PySem.W.notFirst
  rw [show PySem.W.subIn K (.type "tuple") (.ref C) = some false from rfl]
  simp
theorem de_eqMT (tk : Takes X Ψ.W) (hW : FreeW Ψ.W) (c : Mt X.prog X.w X.K X.mg X.base Ψ.Γ k C "__eq__" 2 [] m) (hcs : ∀ c, cs c = true → Ψ.Γ.cls c = C) (hr : Room k' X.A) (hk : k ≤ k') (ha : PE X a (tE Ψ da)) (hb : PE X b (tE Ψ db)) (hm : behindInMarks .Eq b = false) :
    PE X (.Compare a [.Eq] [b] pos) (tE Ψ (dEqOT cs m da db)) := by
  obtain ⟨f, fd, ps, F, M, hbd⟩ := c.ex
  exact PE.imp (pe_cmpR (op_eqOT F M.at_ M.fn hbd (hr.mono hk) (passes_free tk hW)) ha hb hm) fun σ H Q w => eqOT_road (fun cls d H' w => hW cls d σ [] H' w) hcs notF w
theorem dt_eqMT (tk : Takes X Ψ.W) (hW : FreeW Ψ.W) (c : Mt X.prog X.w X.K X.mg X.base Ψ.Γ k C "__eq__" 2 [] m) (hcs : ∀ c, cs c = true → Ψ.Γ.cls c = C) (hr : Room k' X.A) (hk : k ≤ k') (ha : PE X a (tE Ψ da)) (hb : PE X b (tE Ψ db)) (hm : behindInMarks .Eq b = false) :
    PT X (.Compare a [.Eq] [b] pos) (tT Ψ (dBl (dEqOT cs m da db))) := by
  obtain ⟨f, fd, ps, F, M, hbd⟩ := c.ex
  exact PT.imp (pt_cmpR (op_eqOT F M.at_ M.fn hbd (hr.mono hk) (passes_free tk hW)) ha hb hm) fun σ H Q w => eqOT_road (fun cls d H' w => hW cls d σ [] H' w) hcs notF (bl_of w)
end
end TL
set_option Elab.async false
set_option linter.all false
set_option maxRecDepth 100000
set_option maxHeartbeats 0
/-! TL35: len(o), o of an own class with __len__. -/
namespace TL
open PySem PySem.Spec L2

section
variable {X : Cx} {Ψ : Sx} {e : Expr} {pos p : Pos} {da : DE} {x : Str} {k k' : Nat} {C fa : Addr} {fd : FuncData} {ps : List Str} {sp : Sp} {E : XK} {cs : Nat → Bool} {m : Env → R O}
theorem call_lenO (F : FnOk X.prog X.w X.K X.mg X.base (L2.CX X.prog X.w) k fa fd ps sp) (hs : PySem.W.findIn X.K (.ref C) "__len__" = some (some (.ref fa))) (hf : PySem.W.isFn X.K (.ref fa) = true) (hb : Binds X.K fd ps []) (hr : Room k X.A.in1) (hx : Passes (L2.CX X.prog X.w) X E) :
    CallR X (.builtin "len") (fun xs H Q => ∃ a dx fs, xs = [.ref a] ∧ H a = some (.ins C dx fs) ∧ sp [.ref a] H (fun v H' => ∃ n : Int, v = .int n ∧ 0 ≤ n ∧ n < 2 ^ 63 ∧ Q (.int n) H') E) := by
  intro pins s σ H xs us Q I r h
  obtain ⟨a, dx, fs, rfl, ha, hsp⟩ := h
  obtain ⟨u, eu, rx⟩ := vals1 r
  subst eu
  cases rx
  obtain ⟨mA, J, _⟩ := ins_get I.hok ha
  obtain ⟨od, J, _⟩ := J.look
  obtain ⟨m0, hF⟩ := I.fr
  refine PySem.W.len_K hF I.ok.mod.kin J hs hf ?_
  have hl := F.len _ _ _ _ hsp
  have r2 : Vals [V.ref a] [Value.ref a] := .cons rfl .nil
  refine wpAny_call (codeAny_mono (F.run X.A.in1 X.stack s H ⟨[.ref a], []⟩ [.ref a] [.ref a] _ E hr I.env0.in1 (by
    have := hb s [.ref a] I.kIn (by simpa using hl)
    simpa using this) r2 hsp) fun r s' hq => ?_)
  cases r with
  | error e => exact hx pins σ H s e s' I hq
  | ok fl =>
    cases fl with
    | ret w =>
      obtain ⟨z, H', I', rz, n, ez, h0, h1, q⟩ := I.after hq
      subst ez
      obtain ⟨t, rfl⟩ := rz
      exact ⟨⟨h0, h1⟩, .int n, H', I'.tok _, ⟨_, rfl⟩, q⟩
    | next => exact False.elim hq
    | brk => exact False.elim hq
    | cont => exact False.elim hq
def dLenO (cs : Nat → Bool) (m : Env → R O) (da : DE) : DE := fun τ => (da τ).bind fun s τ1 => match s with
  | .obj c _ => if cs c then match m [some (.fz s)] with
    | .ok (.fz (.int r)) _ => if 0 ≤ r ∧ r < 2 ^ 63 then .ok (.int r) τ1 else .st
    | _ => .st else .st
  | _ => .st
theorem de_lenM (tk : Takes X Ψ.W) (hW : FreeW Ψ.W) (c : Mt X.prog X.w X.K X.mg X.base Ψ.Γ k C "__len__" 1 [] m) (hcs : ∀ c, cs c = true → Ψ.Γ.cls c = C) (hr : Room k' X.A) (hk : k + 1 ≤ k') (hg : Gl X "len") (hm : X.mg "len" = none) (ha : PE X e (tE Ψ da))
    (he : starEach [e] X.env = (false, eval e X.env) :: starEach [] X.env := by rfl) :
    PE X (.Call (.Name "len" p) [e] [] pos) (tE Ψ (dLenO cs m da)) := by
  obtain ⟨f, fd, ps, F, M, hbd⟩ := c.ex
  refine PE.imp (pe_callB (call_lenO F M.at_ M.fn hbd ((hr.mono hk).in1) (passes_free tk hW)) hg hm bt_len (pa_cons ha pa_nil he) (he := he)) fun σ H Q w => ?_
  obtain ⟨B, τ, tm, F, ω, rl, hio, w⟩ := w
  unfold dLenO at w
  rw [R.sat_bind] at w
  refine ⟨B, τ, tm, F, ω, rl, hio, R.sat_mono w (fun s τ1 q1 v1 H1 F1 ω1 r1 s1 p1 => ?_) (fun _ _ _ x => x)⟩
  show ∃ a dx fs, _
  cases s <;> first | exact q1.elim | skip
  rename_i c vs
  dsimp only at q1
  split at q1
  case isFalse => exact q1.elim
  rename_i hc
  have p1' := p1
  simp only [Rp] at p1
  obtain ⟨a0, dx, xs, rfl, ha0, hl, ra⟩ := p1
  refine ⟨a0, dx, _, rfl, by rw [← hcs c hc]; exact r1.fh _ _ ha0, ?_⟩
  refine pure_call (ts := [.obj c vs]) r1 (RpL.one p1') rfl ?_
  show (m [some (.fz (.obj c vs))]).sat _ _
  cases z : m [some (.fz (.obj c vs))] with
  | ok u τ' =>
    rw [z] at q1
    split at q1
    case h_2 => exact q1.elim
    rename_i r0 τ'' he'
    cases he'
    split at q1
    case isFalse => exact q1.elim
    rename_i hn
    intro v H' F' ω' r' s'
    have := r'.lastT
    simp only [Ow, Rp] at this
    subst this
    exact ⟨_, rfl, hn.1, hn.2, q1 _ H' F' ω' r'.dropT (s1.trans s') rp_int⟩
  | er e fs τ' => rw [z] at q1; exact q1.elim
  | st => rw [z] at q1; exact q1.elim
end
end TL
set_option Elab.async false
set_option linter.all false
set_option maxRecDepth 100000
set_option maxHeartbeats 0
/-! TL36: x in a list of data of any depth. -/
namespace TL
open PySem PySem.Spec L2

section
variable {Γ : Gam} {X : Cx}
def inD (s t : T) : Option T := match t with
  | .lst l => if okD s && okD (.lst l) then some (.bl ((pds l).any fun z => PyData.eqv z s.pd)) else none
  | _ => none
def notInD (s t : T) : Option T := match t with
  | .lst l => if okD s && okD (.lst l) then some (.bl (!(pds l).any fun z => PyData.eqv z s.pd)) else none
  | _ => none
theorem opT_inD (hK : X.K = Γ.K) (hu : X.A.units + 65 < cLine) : OpT Γ X (compareOp .In) inD := by
  refine opT_of (op_inD hu) fun s t u H F x y Q h sub rx ry n => ?_
  unfold inD at h
  split at h
  case h_2 => cases h
  rename_i l
  split at h
  case isFalse => cases h
  rename_i hc
  cases h
  rw [Bool.and_eq_true] at hc
  obtain ⟨c1, c2⟩ := hc
  unfold okD at c1 c2
  rw [Bool.and_eq_true] at c1 c2
  exact ⟨_, pds l, by rw [hK]; exact pd_at sub _ x c1.1 rx, by rw [hK]; exact pd_at sub _ y c2.1 ry, c1.2, c2.2, n.same sub rp_bl⟩
theorem opT_notInD (hK : X.K = Γ.K) (hu : X.A.units + 65 < cLine) : OpT Γ X (compareOp .NotIn) notInD := by
  refine opT_of (op_notInD hu) fun s t u H F x y Q h sub rx ry n => ?_
  unfold notInD at h
  split at h
  case h_2 => cases h
  rename_i l
  split at h
  case isFalse => cases h
  rename_i hc
  cases h
  rw [Bool.and_eq_true] at hc
  obtain ⟨c1, c2⟩ := hc
  unfold okD at c1 c2
  rw [Bool.and_eq_true] at c1 c2
  exact ⟨_, pds l, by rw [hK]; exact pd_at sub _ x c1.1 rx, by rw [hK]; exact pd_at sub _ y c2.1 ry, c1.2, c2.2, n.same sub rp_bl⟩
end
theorem room65 {k : Nat} {A : Around} (r : Room k A) : A.units + 65 < cLine := by have := r.un; omega
end TL
set_option Elab.async false
set_option linter.all false
set_option maxRecDepth 100000
set_option maxHeartbeats 0
/-! TL37: tuple * int, of an empty tuple too. -/
namespace TL
open PySem PySem.Spec PyProof.Rows L2

theorem tuple_mul0 (l : Addr) (n : Nat) (dd : Option Addr) (sl : Array (Option Value)) (x : Int) (u : Tok) (c0 : (decide (x < -(2 ^ 63)) || decide (x ≥ 2 ^ 63)) = false) :
    Meets (Builtin.«tuple.__mul__» ⟨[.ref l, .int x u], []⟩) (fun _ R s => s.heap.get? l = some { cls := .type "tuple", dict := dd, data := .seq #[] n, slots := sl } ∧
      R (.ok (.ret (Value.ref l))) s) :=
  .of_wp fun prog w A R s h => by
    obtain ⟨hp, g, d, tk, os⟩ := s
    obtain ⟨hl, h⟩ := h
    have f1 := AutoSeq1.idx_int
    have c1 : ((#[] : Array Value).isEmpty || x == 1) = true := rfl
    wp_walk using wpAny_loadPart' hl
    repeat (first
      | (refine wpAny_ite_false (decide_eq_false (by rw [c0]; exact Bool.false_ne_true)) ?_; wp_walk using wpAny_loadPart' hl)
      | (refine wpAny_ite_true (decide_eq_true c1) ?_; wp_walk using wpAny_loadPart' hl))
    exact ⟨_, rfl, h⟩
section
variable {Γ : Gam} {X : Cx}
def rRepT0 (K : PySem.W.Frag) : R2 := fun x y H Q => ∃ l k, x = .ref l ∧ y = .int k ∧ SqT K H l [] ∧ 2 ≤ k ∧ k ≤ 1000 ∧ Q (.ref l) H
theorem op_repT0 : OpR X (binaryOp .Mult) (rRepT0 X.K) := by
  intro pins s σ H x y v u Q I rx ry h
  obtain ⟨l, k, rfl, rfl, hT, h1, h2, q⟩ := h
  cases rx
  obtain ⟨t, rfl⟩ := ry
  obtain ⟨its, r, ⟨⟨cls, dd, data, sl⟩, ho, hc, n, hd⟩, hs⟩ := I.tuple hT
  simp only at hc hd
  subst hc hd
  cases r
  have c0 : (decide (k < -(2 ^ 63)) || decide (k ≥ 2 ^ 63)) = false := by
    rw [decide_eq_false (by omega), decide_eq_false (by omega)] <;> rfl
  refine wpAny_binaryOp_repeat_ref (T := "tuple") (U := "int") (by decide) ⟨_, ho, rfl⟩ (fun s' => typeIs_int s' k t) noFill_tuple_mul F.fills_int_mul F.slot_int_rmul repeat_tuple F.slot_int_index.lookup
    (call_meets F.slot_int_rmul (typeIs_int s k t) F.entry_int_rmul (F.args_int_rmul_2 _ _) (int_rmul_tuple k t l _ n dd sl)
      ⟨ho, rfl, ⟨_, ho, rfl⟩, call_meets F.slot_tuple_mul ⟨_, ho, rfl⟩ F.entry_tuple_mul (F.args_tuple_mul_2 _ _) (tuple_mul0 l n dd sl k t c0) ⟨ho, ?_⟩⟩)
  exact ⟨.ref l, H, I, rfl, q⟩
/-- a tuple, so many times over -/
def mulTT : T → T → Option T
  | .tup l, .int k => if 2 ≤ k ∧ k ≤ 1000 ∧ l.length ≤ 1000 then some (.tup (reps k.toNat l)) else none
  | _, _ => none
theorem reps_nil {α : Type} : ∀ n : Nat, reps n ([] : List α) = []
  | 0 => rfl
  | n + 1 => by
    show (List.replicate (n + 1) ([] : List α)).flatten = []
    rw [List.replicate_succ, List.flatten_cons]
    exact reps_nil n
theorem opT_mulT (hK : X.K = Γ.K) : OpT Γ X (binaryOp .Mult) mulTT := by
  refine opT_of (op_repT.or op_repT0) fun s t u H F x y Q h sub rx ry n => ?_
  unfold mulTT at h
  split at h
  case h_2 => cases h
  rename_i l k
  split at h
  case isFalse => cases h
  rename_i hc
  cases h
  obtain ⟨h1, h2, h3⟩ := hc
  simp only [Rp] at rx ry
  obtain ⟨a, xs, rfl, ha, ra⟩ := rx
  subst ry
  have hl := RpL.length _ _ ra
  have hT : SqT X.K H a xs := .inl (.inl (sub _ _ ha))
  by_cases e : xs = []
  · subst e
    have e2 : l = [] := List.eq_nil_of_length_eq_zero (by simpa using hl.symm)
    subst e2
    rw [reps_nil] at n
    refine .inr ⟨a, k, rfl, rfl, hT, h1, h2, ?_⟩
    exact n.same sub (by simp only [Rp]; exact ⟨a, [], rfl, ha, ra⟩)
  · refine .inl ⟨a, k, xs, rfl, rfl, hT, e, h1, h2, by omega, fun p hp => ?_⟩
    exact n.new sub hp (by simp only [Rp]; exact ⟨p, _, rfl, upd_same, RpL.mono (fun b o q => by rw [upd_ne (ne_of_none (sub _ _ q) hp)]; exact q) _ _ (RpL.reps ra _)⟩)
end
end TL
set_option Elab.async false
set_option linter.all false
set_option maxRecDepth 100000
set_option maxHeartbeats 0
/-! TL38: isinstance of a caught error with fields. -/
namespace TL
open PySem PySem.Spec PySem.Calls PyProof.Rows L2
def rIsF (K : PySem.W.Frag) (D a : Addr) (dx : Addr) : List V → Hp → VK → Prop := fun xs H Q => ∃ (c : V) (cv : Value) (b : Bool) (fs : List (Str × V)), xs = [.ref a, c] ∧ (∀ u, RelV c u → u = cv) ∧ PySem.W.kitOne K (.ref D) cv = some b ∧ H dx = some (.xd fs) ∧ Q (.bl b) H
theorem call_isF {X : Cx} {a D dx : Addr} {oe : Obj} {pn : List (Addr × Obj)} (C : ExcC X.K D) (hz : Zc (.ref D) (some dx) oe) (hf : ∃ vs, oe.data = .fields vs) : CallR (X.suite a ((a, oe) :: pn)) (.builtin "isinstance") (rIsF X.K D a dx) := by
  intro pins s σ H xs us Q I r h
  obtain ⟨c, cv, b, fs, rfl, hcv, e, hdx, q⟩ := h
  cases r with
  | cons rx rr =>
    cases rr with
    | cons rt rr =>
      cases rr
      cases rx
      have ec := hcv _ rt
      subst ec
      obtain ⟨hget, _⟩ := I.pin (a, oe) (List.mem_append.mpr (.inl List.mem_cons_self))
      obtain ⟨vs, hv⟩ := hf
      have hx : ObjOk X.prog X.w H s.heap dx (.xd fs) := I.hok dx _ hdx
      obtain ⟨mA, hns, hr⟩ := hx
      obtain ⟨od, ho, hl⟩ := lookIn_ns hns
      have J : PySem.W.InstAt s.heap a oe D (some od) := ⟨hget, hz.1, by unfold PySem.W.notCls; rw [hv] <;> rfl, by rw [hz.2]; exact ho⟩
      exact PySem.W.kia_one (PySem.W.kitx_exc (by obtain ⟨cd, hc, _⟩ := PySem.W.any_some C.hd; rw [hc]; rfl) C.hg C.hk C.hs C.ha C.hn C.ht C.hm) I.kIn J e (fun z => nomatch z) fun tk => ⟨.bl b, H, I.kept (t' := tk) fun _ _ z => z, rfl, q⟩
section
variable {cl : Nat → Addr} {fl : Nat → List Str} {kn : Nat → Bool} {X : Cx} {Ψ : Sx} {a C : Addr} {oe : Obj} {cls : Value} {d : Option Addr} {g : List (Addr × HO)} {pn : List (Addr × Obj)} {n i j : Nat} {fs : List T} {e : Expr} {x f c y : Str} {p p' pos : Pos} {v : Value} {b : Bool}
theorem de_isF (T : ExcC X.K (cl n)) (hx : XC cl fl kn n fs cls d g) (hfl : fl n ≠ []) (hz : Zc cls d oe) (hf : ∃ vs, oe.data = .fields vs) (hN : X.N[i]? = some x) (hv : Vis X.env.scope x) (hg : Gl X "isinstance") (hm : X.mg "isinstance" = none) (hgc : Gl X c) (hmc : X.mg c = some (.ref C))
    (hk : PySem.W.kitOne X.K (.ref (cl n)) (.ref C) = some b) (hd : (x == ("__debug__" : Str)) = false := by decide) (hcd : (x == ("__classdict__" : Str)) = false := by decide) (hdc : (c == ("__debug__" : Str)) = false := by decide) {p1 p2 p3 : Pos} :
    PE (X.suite a ((a, oe) :: pn)) (.Call (.Name "isinstance" p1) [.Name x p2, .Name c p3] [] pos) (tE (suΨ Ψ (some i) a g) (dC (.bl b))) := by
  obtain ⟨hkn, rfl, hlen, hdd⟩ := hx
  rcases hdd with ⟨h, _, _⟩ | ⟨hne, dx, vs, h1, h2, h3⟩
  · exact absurd h hfl
  subst h1
  subst h2
  refine PE.imp (pe_callB (call_isF T hz hf) hg hm bt_isinstance (pa_cons (pe_var hN hv hd hcd) (pa_cons (pe_glob (v := .ref C) hgc hmc rfl hdc) pa_nil))) fun σ H Q ⟨B, τ, tm, F, ω, r, hio, q⟩ => ?_
  have hG := r.gh _ _ (hio.2.2 (dx, _) List.mem_cons_self)
  exact ⟨_, suVar (Ψ := Ψ) r hio, .ref C, .ref C, b, _, rfl, fun u ru => ru, hk, hG, q _ H F ω r (fun _ _ e => e) rp_bl⟩
end
/-! ### l[::-1] -/
def revG : T → Option T
  | .lst l => some (.lst l.reverse)
  | _ => none
theorem RpL.rev {Γ : Gam} {F : Hp} : ∀ {l : List T} {xs : List V}, RpL Γ F xs l → RpL Γ F xs.reverse l.reverse
  | [], [], _ => by simp only [List.reverse_nil]; simp only [RpL]
  | [], _ :: _, r => by simp only [RpL] at r; cases r
  | t :: l, xs, r => by
    simp only [RpL] at r
    obtain ⟨x, ys, rfl, h1, h2⟩ := r
    rw [List.reverse_cons, List.reverse_cons]
    exact RpL.append (RpL.rev h2) (by simp only [RpL]; exact ⟨x, [], rfl, h1, rfl⟩)
theorem de_revL {X : Cx} {Ψ : Sx} {a : Expr} {da : DE} {k : Nat} {p1 p2 p3 pos : Pos} (ha : PE X a (tE Ψ da)) : PE X (.Subscript a (.Slice none none (some (.UnaryOp .USub (.Constant (.int 1) k p1) p2)) p3) pos) (tE Ψ (dUn revG da)) := by
  refine PE.imp (pe_revL ha) fun σ H Q ⟨B, τ, tm, F, ω, rl, hio, q⟩ => ?_
  unfold dUn at q
  rw [R.sat_bind] at q
  refine ⟨B, τ, tm, F, ω, rl, hio, R.sat_mono q (fun s τ1 q1 v1 H1 F1 ω1 r1 s1 p1 => ?_) (fun _ _ _ x => x)⟩
  cases s with
  | lst l =>
    simp only [Rp] at p1
    obtain ⟨a, xs, rfl, hx, rx⟩ := p1
    refine ⟨a, xs, rfl, .of (r1.fh _ _ hx), fun p hp => ?_⟩
    exact q1 _ _ _ ω1 (r1.newF hp) (s1.trans (Grow.new r1.fh hp).ff) (newList_rp (RpL.rev rx) r1.fh hp)
  | _ => exact q1.elim
end TL
set_option maxHeartbeats 0
namespace TL
open PySem PySem.Spec L2
def top (i : Nat) : Stmt := PySem.Challenge.pw_beadrules_k18_texts_refused.main.body.getD i (.Pass ⟨0, 0, 0, 0⟩)
/-! the ground, the mirrors -/
def flds : Nat → List Str
  | 1 => ["many", "form", "rows"]
  | 2 => ["words_in", "at_line", "spot"]
  | _ => []
def xfl : Nat → List Str
  | 104 => ["line", "word"]
  | _ => []
def xkn (n : Nat) : Bool := ([104] : List Nat).contains n
abbrev gam (K : PySem.W.Frag) (cl : Nat → Addr) : Gam := gamF K cl flds (xrF cl xfl xkn)
def isBook (c : Nat) : Bool := c == 13
theorem b_Book {K : PySem.W.Frag} {cl : Nat → Addr} : ∀ c, isBook c = true → (gam K cl).cls c = cl 1 := fun c h => by
  have e : c = 13 := beq_iff_eq.mp h
  subst e
  rfl
abbrev ix_many : Nat → Option Nat := ixF 1 0
abbrev nx_many : Nat → Option Nat := nxF 1 0
abbrev ix_form : Nat → Option Nat := ixF 1 1
abbrev nx_form : Nat → Option Nat := nxF 1 1
abbrev ix_rows : Nat → Option Nat := ixF 1 2
abbrev nx_rows : Nat → Option Nat := nxF 1 2
theorem a_Book___init__ {K : PySem.W.Frag} {cl : Nat → Addr} : ∀ c, isBook c = true → (gam K cl).cls c = cl 1 ∧ ((gam K cl).fld c).findIdx? (fun g => ("__init__" : Str) == g) = none := fun c h => by
  have e : c = 13 := beq_iff_eq.mp h
  subst e
  exact ⟨rfl, by show ((flds 1).take 3).findIdx? _ = none; decide +kernel⟩
theorem a_Book_kinds {K : PySem.W.Frag} {cl : Nat → Addr} : ∀ c, isBook c = true → (gam K cl).cls c = cl 1 ∧ ((gam K cl).fld c).findIdx? (fun g => ("kinds" : Str) == g) = none := fun c h => by
  have e : c = 13 := beq_iff_eq.mp h
  subst e
  exact ⟨rfl, by show ((flds 1).take 3).findIdx? _ = none; decide +kernel⟩
theorem a_Book_shape {K : PySem.W.Frag} {cl : Nat → Addr} : ∀ c, isBook c = true → (gam K cl).cls c = cl 1 ∧ ((gam K cl).fld c).findIdx? (fun g => ("shape" : Str) == g) = none := fun c h => by
  have e : c = 13 := beq_iff_eq.mp h
  subst e
  exact ⟨rfl, by show ((flds 1).take 3).findIdx? _ = none; decide +kernel⟩
theorem a_Book_rules {K : PySem.W.Frag} {cl : Nat → Addr} : ∀ c, isBook c = true → (gam K cl).cls c = cl 1 ∧ ((gam K cl).fld c).findIdx? (fun g => ("rules" : Str) == g) = none := fun c h => by
  have e : c = 13 := beq_iff_eq.mp h
  subst e
  exact ⟨rfl, by show ((flds 1).take 3).findIdx? _ = none; decide +kernel⟩
theorem a_Book___len__ {K : PySem.W.Frag} {cl : Nat → Addr} : ∀ c, isBook c = true → (gam K cl).cls c = cl 1 ∧ ((gam K cl).fld c).findIdx? (fun g => ("__len__" : Str) == g) = none := fun c h => by
  have e : c = 13 := beq_iff_eq.mp h
  subst e
  exact ⟨rfl, by show ((flds 1).take 3).findIdx? _ = none; decide +kernel⟩
theorem a_Book___eq__ {K : PySem.W.Frag} {cl : Nat → Addr} : ∀ c, isBook c = true → (gam K cl).cls c = cl 1 ∧ ((gam K cl).fld c).findIdx? (fun g => ("__eq__" : Str) == g) = none := fun c h => by
  have e : c = 13 := beq_iff_eq.mp h
  subst e
  exact ⟨rfl, by show ((flds 1).take 3).findIdx? _ = none; decide +kernel⟩
def isLine (c : Nat) : Bool := c == 23
theorem b_Line {K : PySem.W.Frag} {cl : Nat → Addr} : ∀ c, isLine c = true → (gam K cl).cls c = cl 2 := fun c h => by
  have e : c = 23 := beq_iff_eq.mp h
  subst e
  rfl
abbrev ix_words_in : Nat → Option Nat := ixF 2 0
abbrev nx_words_in : Nat → Option Nat := nxF 2 0
abbrev ix_at_line : Nat → Option Nat := ixF 2 1
abbrev nx_at_line : Nat → Option Nat := nxF 2 1
abbrev ix_spot : Nat → Option Nat := ixF 2 2
abbrev nx_spot : Nat → Option Nat := nxF 2 2
theorem a_Line___init__ {K : PySem.W.Frag} {cl : Nat → Addr} : ∀ c, isLine c = true → (gam K cl).cls c = cl 2 ∧ ((gam K cl).fld c).findIdx? (fun g => ("__init__" : Str) == g) = none := fun c h => by
  have e : c = 23 := beq_iff_eq.mp h
  subst e
  exact ⟨rfl, by show ((flds 2).take 3).findIdx? _ = none; decide +kernel⟩
theorem a_Line_fail {K : PySem.W.Frag} {cl : Nat → Addr} : ∀ c, isLine c = true → (gam K cl).cls c = cl 2 ∧ ((gam K cl).fld c).findIdx? (fun g => ("fail" : Str) == g) = none := fun c h => by
  have e : c = 23 := beq_iff_eq.mp h
  subst e
  exact ⟨rfl, by show ((flds 2).take 3).findIdx? _ = none; decide +kernel⟩
theorem a_Line_take {K : PySem.W.Frag} {cl : Nat → Addr} : ∀ c, isLine c = true → (gam K cl).cls c = cl 2 ∧ ((gam K cl).fld c).findIdx? (fun g => ("take" : Str) == g) = none := fun c h => by
  have e : c = 23 := beq_iff_eq.mp h
  subst e
  exact ⟨rfl, by show ((flds 2).take 3).findIdx? _ = none; decide +kernel⟩
theorem a_Line_number {K : PySem.W.Frag} {cl : Nat → Addr} : ∀ c, isLine c = true → (gam K cl).cls c = cl 2 ∧ ((gam K cl).fld c).findIdx? (fun g => ("number" : Str) == g) = none := fun c h => by
  have e : c = 23 := beq_iff_eq.mp h
  subst e
  exact ⟨rfl, by show ((flds 2).take 3).findIdx? _ = none; decide +kernel⟩
theorem a_Line_finish {K : PySem.W.Frag} {cl : Nat → Addr} : ∀ c, isLine c = true → (gam K cl).cls c = cl 2 ∧ ((gam K cl).fld c).findIdx? (fun g => ("finish" : Str) == g) = none := fun c h => by
  have e : c = 23 := beq_iff_eq.mp h
  subst e
  exact ⟨rfl, by show ((flds 2).take 3).findIdx? _ = none; decide +kernel⟩
def c_LETTERS : T := .str [97, 98, 99]
def c_MOST_RULES : T := .int (4)
def c_MOST_WIDE : T := .int (4)
def c_SHAPES : T := .ktp [.str [99, 111, 114, 100], .str [114, 105, 110, 103]]
def N__law_alike : List Str := ["_law_found", "_law_due_here", "_law_k"]
def D__law_alike (rec : Env → R O) : DS := dSeq (dIfS (dTru (dCall isiTT (dCons (dV 1) (dCons (dC (.ty "dict")) (dNil))))) (dRet (dOf (dAndV (dCall isiTT (dCons (dV 0) (dCons (dC (.ty "dict")) (dNil)))) (dAndV (dFz (dCallF 2 [] rec (dCons (dFz (dCallN listN2 (dCons (dV 0) (dNil)))) (dCons (dFz (dCallN listN2 (dCons (dV 1) (dNil)))) (dNil))))) (dOp eqT (dV 0) (dV 1)))))) (dNx)) (dSeq (dIfS (dTru (dCall isiTT (dCons (dV 1) (dCons (dTup (dCons (dC (.ty "tuple")) (dCons (dC (.ty "list")) (dNil)))) (dNil))))) (dSeq (dIfS (dOr (dNot (dTru (dCall isiTT (dCons (dV 0) (dCons (dTup (dCons (dC (.ty "tuple")) (dCons (dC (.ty "list")) (dNil)))) (dNil)))))) (dBl (dOp neT (dCall isiTT (dCons (dV 0) (dCons (dC (.ty "list")) (dNil)))) (dCall isiTT (dCons (dV 1) (dCons (dC (.ty "list")) (dNil))))))) (dRet (dOf (dC (.bl false)))) (dNx)) (dSeq (dIfS (dBl (dOp neT (dCall lenT (dCons (dV 0) (dNil))) (dCall lenT (dCons (dV 1) (dNil))))) (dRet (dOf (dC (.bl false)))) (dNx)) (dRet (dOf (dOp eqT (dFz (dLc (dRng1 (dCons (dCall lenT (dCons (dV 1) (dNil))) (dNil))) (gN 2) (dNot (dTru (dFz (dCallF 2 [] rec (dCons (dOp ixG (dV 0) (dV 2)) (dCons (dOp ixG (dV 1) (dV 2)) (dNil))))))) (dV 2) [2])) (dFz (dLst (dNil)))))))) (dNx)) (dSeq (dIfS (dOr (dBl (dOp isNT (dV 1) (dC .non))) (dTru (dCall isiTT (dCons (dV 1) (dCons (dC (.ty "str")) (dNil)))))) (dRet (dOf (dAndV (dOp eqT (dV 0) (dV 1)) (dOp eqT (dCall isiTT (dCons (dV 0) (dCons (dC (.ty "str")) (dNil)))) (dCall isiTT (dCons (dV 1) (dCons (dC (.ty "str")) (dNil)))))))) (dNx)) (dRet (dOf (dAndV (dCall isiTT (dCons (dV 0) (dCons (dC (.ty "int")) (dNil)))) (dAndV (dOp eqT (dCall isiTT (dCons (dV 0) (dCons (dC (.ty "bool")) (dNil)))) (dCall isiTT (dCons (dV 1) (dCons (dC (.ty "bool")) (dNil))))) (dOp eqT (dV 0) (dV 1))))))))
def m__law_alike : Nat → Env → R O
  | 0 => dFn 3 dStuck
  | n + 1 => dFn 3 (D__law_alike (m__law_alike n))
def N_Line_fail : List Str := ["self"]
def D_Line_fail : DS := dRaise 104 2 (dCons (dFldS 0 ix_at_line) (dCons (dOp addT (dFldS 0 ix_spot) (dC (.int 1))) (dNil)))
def m_Line_fail : Env → R O := dFn 1 D_Line_fail
def N_Line_finish : List Str := ["self"]
def D_Line_finish : DS := dIfS (dBl (dOp ltT (dFldS 0 ix_spot) (dCall lenT (dCons (dFldS 0 ix_words_in) (dNil))))) (dDrop (dFz (dMethO 1 0 isLine m_Line_fail dNil))) (dNx)
def m_Line_finish : Env → R O := dFn 1 D_Line_finish
def N_Line_take : List Str := ["self", "some"]
def D_Line_take : DS := dSeq (dIfS (dOr (dBl (dOp eqT (dFldS 0 ix_spot) (dCall lenT (dCons (dFldS 0 ix_words_in) (dNil))))) (dBl (dOp notInV (dOp ixG (dFldS 0 ix_words_in) (dFldS 0 ix_spot)) (dV 1)))) (dDrop (dFz (dMethO 1 0 isLine m_Line_fail dNil))) (dNx)) (dSeq (dIncF 0 ix_spot (dC (.int 1))) (dRet (dOf (dOp ixG (dFldS 0 ix_words_in) (dOp subT (dFldS 0 ix_spot) (dC (.int 1)))))))
def m_Line_take : Env → R O := dFn 2 D_Line_take
def N_Line_number : List Str := ["self", "low", "high", "number"]
def D_Line_number : DS := dRet (dOf (dCall intTS (dCons (dFz (dMethO 2 0 isLine m_Line_take (dCons (dFz (dLc (dRng2 (dCons (dV 1) (dCons (dOp addT (dV 2) (dC (.int 1))) (dNil)))) (gN 3) (dYes) (dCall strT (dCons (dV 3) (dNil))) [3])) (dNil)))) (dNil))))
def m_Line_number : Env → R O := dFn 4 D_Line_number
def N_rule_in : List Str := ["line", "kinds", "letters", "word", "one", "k", "found"]
def D_rule_in : DS := dSeq (dSet 2 (dFz (dCallN listN2 (dCons (dSl (dC c_LETTERS) (dNoP) (dPart (dV 1))) (dNil))))) (dSeq (dPar [3, 4] (dConsO (dOf (dFz (dMethO 2 0 isLine m_Line_take (dCons (dTup (dCons (dC (.str [98, 101, 115, 105, 100, 101])) (dCons (dC (.str [115, 101, 99, 111, 110, 100])) (dCons (dC (.str [109, 111, 115, 116])) (dNil))))) (dNil))))) (dConsO (dOf (dFz (dMethO 2 0 isLine m_Line_take (dCons (dV 2) (dNil))))) (dNilO)))) (dSeq (dIfS (dBl (dOp eqT (dV 3) (dC (.str [109, 111, 115, 116])))) (dSeq (dSet 5 (dFz (dMethO 3 0 isLine m_Line_number (dCons (dC (.int 0)) (dCons (dOp subT (dC c_MOST_WIDE) (dC (.int 1))) (dNil)))))) (dSet 6 (dTup (dCons (dV 3) (dCons (dV 4) (dCons (dV 5) (dCons (dFz (dMethO 3 0 isLine m_Line_number (dCons (dCall maxT (dCons (dC (.int 2)) (dCons (dOp addT (dV 5) (dC (.int 1))) (dNil)))) (dCons (dC c_MOST_WIDE) (dNil))))) (dNil)))))))) (dSet 6 (dTup (dCons (dV 3) (dCons (dV 4) (dCons (dFz (dMethO 2 0 isLine m_Line_take (dCons (dV 2) (dNil)))) (dNil))))))) (dSeq (dDrop (dFz (dMethO 1 0 isLine m_Line_finish dNil))) (dRet (dOf (dV 6))))))
def m_rule_in : Env → R O := dFn 7 D_rule_in
def N_is_integer : List Str := ["thing", "low", "high"]
def D_is_integer : DS := dRet (dOf (dAndV (dCall isiTT (dCons (dV 0) (dCons (dC (.ty "int")) (dNil)))) (dAndV (dUn notT (dCall isiTT (dCons (dV 0) (dCons (dC (.ty "bool")) (dNil))))) (dChain leT leT (dV 1) (dV 0) (dV 2)))))
def m_is_integer : Env → R O := dFn 3 D_is_integer
def N_is_kind : List Str := ["kinds", "thing"]
def D_is_kind : DS := dRet (dOf (dAndV (dCall isiTT (dCons (dV 1) (dCons (dC (.ty "str")) (dNil)))) (dAndV (dOp eqT (dCall lenT (dCons (dV 1) (dNil))) (dC (.int 1))) (dOp inV' (dV 1) (dSl (dC c_LETTERS) (dNoP) (dPart (dV 0)))))))
def m_is_kind : Env → R O := dFn 2 D_is_kind
def N_is_rule : List Str := ["kinds", "thing"]
def D_is_rule : DS := dSeq (dIfS (dOr (dNot (dTru (dCall isiTT (dCons (dV 1) (dCons (dC (.ty "tuple")) (dNil)))))) (dOr (dBl (dOp ltT (dCall lenT (dCons (dV 1) (dNil))) (dC (.int 3)))) (dOr (dNot (dTru (dCall isiTT (dCons (dOp ixG (dV 1) (dC (.int 0))) (dCons (dC (.ty "str")) (dNil)))))) (dNot (dTru (dFz (dCallF 2 [] m_is_kind (dCons (dV 0) (dCons (dOp ixG (dV 1) (dC (.int 1))) (dNil)))))))))) (dRet (dOf (dC (.bl false)))) (dNx)) (dSeq (dIfS (dBl (dOp inV' (dOp ixG (dV 1) (dC (.int 0))) (dTup (dCons (dC (.str [98, 101, 115, 105, 100, 101])) (dCons (dC (.str [115, 101, 99, 111, 110, 100])) (dNil)))))) (dRet (dOf (dAndV (dOp eqT (dCall lenT (dCons (dV 1) (dNil))) (dC (.int 3))) (dFz (dCallF 2 [] m_is_kind (dCons (dV 0) (dCons (dOp ixG (dV 1) (dC (.int 2))) (dNil)))))))) (dNx)) (dSeq (dIfS (dOr (dBl (dOp neT (dOp ixG (dV 1) (dC (.int 0))) (dC (.str [109, 111, 115, 116])))) (dOr (dBl (dOp neT (dCall lenT (dCons (dV 1) (dNil))) (dC (.int 4)))) (dNot (dTru (dFz (dCallF 3 [] m_is_integer (dCons (dOp ixG (dV 1) (dC (.int 3))) (dCons (dC (.int 2)) (dCons (dC c_MOST_WIDE) (dNil)))))))))) (dRet (dOf (dC (.bl false)))) (dNx)) (dRet (dCallF 3 [] m_is_integer (dCons (dOp ixG (dV 1) (dC (.int 2))) (dCons (dC (.int 0)) (dCons (dOp subT (dOp ixG (dV 1) (dC (.int 3))) (dC (.int 1))) (dNil))))))))
def m_is_rule : Env → R O := dFn 2 D_is_rule
def N_Book___init__ : List Str := ["self", "kinds", "shape", "rules", "index", "rule"]
def D_Book___init__ : DS := dSeq (dIfS (dNot (dTru (dFz (dCallF 3 [] m_is_integer (dCons (dV 1) (dCons (dC (.int 2)) (dCons (dCall lenT (dCons (dC c_LETTERS) (dNil))) (dNil)))))))) (dStuck) (dNx)) (dSeq (dIfS (dOr (dNot (dTru (dCall isiTT (dCons (dV 2) (dCons (dC (.ty "str")) (dNil)))))) (dBl (dOp notInV (dV 2) (dC c_SHAPES)))) (dStuck) (dNx)) (dSeq (dIfS (dOr (dNot (dTru (dCall isiTT (dCons (dV 3) (dCons (dC (.ty "tuple")) (dNil)))))) (dBl (dOp gtT (dCall lenT (dCons (dV 3) (dNil))) (dC c_MOST_RULES)))) (dStuck) (dNx)) (dSeq (dFor (dEn (dCons (dV 3) (dNil))) (gT 2 (gsCons (gN 4) (gsCons (gN 5) (gsNil)))) (dIfS (dNot (dTru (dFz (dCallF 2 [] m_is_rule (dCons (dV 1) (dCons (dV 5) (dNil))))))) (dStuck) (dNx))) (dSeq (dSetF 0 ix_many nx_many (dOf (dV 1))) (dSeq (dSetF 0 ix_form nx_form (dOf (dV 2))) (dSetF 0 ix_rows nx_rows (dOf (dV 3))))))))
def m_Book___init__ : Env → R O := dFn 6 D_Book___init__
def N_Line___init__ : List Str := ["self", "text", "at_line", "word"]
def D_Line___init__ : DS := dSeq (dSetF 0 ix_words_in nx_words_in (dOf (dFz (dLc (dItems (dFz (dMethN isStr splitG (dV 1) (dCons (dC (.str [32])) (dNil))))) (gN 3) (dBl (dOp neT (dV 3) (dC (.str [])))) (dV 3) [3])))) (dSeq (dSetF 0 ix_at_line nx_at_line (dOf (dV 2))) (dSetF 0 ix_spot nx_spot (dOf (dC (.int 0)))))
def m_Line___init__ : Env → R O := dFn 4 D_Line___init__
def N_read : List Str := ["text", "lines", "rules", "head", "shape", "kinds", "at", "words", "line"]
def D_read : DS := dSeq (dPar [1, 2] (dConsO (dOf (dFz (dMethN isStr splitG (dV 0) (dCons (dC (.str [10])) (dNil))))) (dConsO (dLst (dNil)) (dNilO)))) (dSeq (dSetO 3 (dMake 20 3 m_Line___init__ (dCons (dOp ixG (dV 1) (dC (.int 0))) (dCons (dC (.int 1)) (dNil))))) (dSeq (dPar [4, 5] (dConsO (dOf (dFz (dMethO 2 3 isLine m_Line_take (dCons (dC c_SHAPES) (dNil))))) (dConsO (dOf (dFz (dMethO 3 3 isLine m_Line_number (dCons (dC (.int 2)) (dCons (dCall lenT (dCons (dC c_LETTERS) (dNil))) (dNil)))))) (dNilO)))) (dSeq (dDrop (dFz (dMethO 1 3 isLine m_Line_finish dNil))) (dSeq (dFor (dEn (dCons (dSl (dV 1) (dPart (dC (.int 1))) (dNoP)) (dNil))) (gT 2 (gsCons (gN 6) (gsCons (gN 7) (gsNil)))) (dSeq (dSetO 8 (dMake 20 3 m_Line___init__ (dCons (dV 7) (dCons (dOp addT (dV 6) (dC (.int 2))) (dNil))))) (dSeq (dIfS (dRoB (dBl (dOp eqT (dCall lenT (dCons (dV 2) (dNil))) (dC c_MOST_RULES)))) (dDrop (dFz (dMethO 1 8 isLine m_Line_fail dNil))) (dNx)) (dDrop (dMtd 2 appG (dCons (dFz (dCallF 2 [8] m_rule_in (dCons (dV 5) (dNil)))) (dNil))))))) (dRet (dMake 10 4 m_Book___init__ (dCons (dV 5) (dCons (dV 4) (dCons (dCall tupT (dCons (dV 2) (dNil))) (dNil))))))))))
def m_read : Env → R O := dFn 9 D_read
def N__law_answer : List Str := ["_law_text", "_law_found", "error"]
def D__law_answer : DS := dSeq (dSet 1 (dC .non)) (dSeq (dTry (dDrop (dFz (dCallF 1 [] m_read (dCons (dV 0) (dNil))))) [(some 2, (fun n => n == 104), fun n fs => dSet 1 (dIf (dTru (dC (.bl true))) (dTup (dCons (dFx fs 0) (dCons (dFx fs 1) (dNil)))) (dTup (dNil))))]) (dRet (dOf (dV 1))))
def m__law_answer : Env → R O := dFn 3 D__law_answer
def N__law_rows : List Str := ["_law_words", "_law_kinds", "_law_letters", "_law_rows_here", "_law_k", "_law_last", "_law_wide"]
def D__law_rows : DS := dSeq (dPar [2, 3] (dConsO (dOf (dFz (dCallN listN2 (dCons (dSl (dC (.str [97, 98, 99])) (dNoP) (dPart (dV 1))) (dNil))))) (dConsO (dOf (dFz (dLst (dCons (dFz (dLst (dCons (dC (.str [98, 101, 115, 105, 100, 101])) (dCons (dC (.str [115, 101, 99, 111, 110, 100])) (dCons (dC (.str [109, 111, 115, 116])) (dNil)))))) (dNil))))) (dNilO)))) (dSeq (dIfS (dBl (dOp eqT (dSl (dV 0) (dNoP) (dPart (dC (.int 1)))) (dFz (dLst (dCons (dC (.str [109, 111, 115, 116])) (dNil)))))) (dSeq (dSet 4 (dIf (dBl (dOp inD (dSl (dV 0) (dPart (dC (.int 2))) (dPart (dC (.int 3)))) (dFz (dLst (dCons (dFz (dLst (dCons (dC (.str [49])) (dNil)))) (dCons (dFz (dLst (dCons (dC (.str [50])) (dNil)))) (dCons (dFz (dLst (dCons (dC (.str [51])) (dNil)))) (dNil)))))))) (dSl (dV 0) (dPart (dC (.int 2))) (dPart (dC (.int 3)))) (dFz (dLst (dCons (dC (.str [48])) (dNil)))))) (dSeq (dSetO 5 (dLc (dItems (dFz (dLst (dCons (dC (.int 2)) (dCons (dC (.int 3)) (dCons (dC (.int 4)) (dNil))))))) (gN 6) (dBl (dOp gtT (dV 6) (dCall intTS (dCons (dOp ixG (dV 4) (dC (.int 0))) (dNil))))) (dCall strT (dCons (dV 6) (dNil))) [6])) (dRet (dOf (dOp addT (dV 3) (dFz (dLst (dCons (dV 2) (dCons (dFz (dLst (dCons (dC (.str [48])) (dCons (dC (.str [49])) (dCons (dC (.str [50])) (dCons (dC (.str [51])) (dNil))))))) (dCons (dV 5) (dNil))))))))))) (dNx)) (dRet (dOf (dOp addT (dV 3) (dFz (dLst (dCons (dV 2) (dCons (dV 2) (dNil)))))))))
def m__law_rows : Env → R O := dFn 7 D__law_rows
def N__law_word : List Str := ["_law_words", "_law_rows_here", "_law_k"]
def D__law_word : DS := dSeq (dFor (dRng1 (dCons (dCall lenT (dCons (dV 1) (dNil))) (dNil))) (gN 2) (dIfS (dOr (dBl (dOp geT (dV 2) (dCall lenT (dCons (dV 0) (dNil))))) (dBl (dOp notInV (dOp ixG (dV 0) (dV 2)) (dOp ixG (dV 1) (dV 2))))) (dRet (dOf (dOp addT (dV 2) (dC (.int 1))))) (dNx))) (dRet (dIfO (dBl (dOp gtT (dCall lenT (dCons (dV 0) (dNil))) (dCall lenT (dCons (dV 1) (dNil))))) (dOf (dOp addT (dCall lenT (dCons (dV 1) (dNil))) (dC (.int 1)))) (dOf (dC .non))))
def m__law_word : Env → R O := dFn 3 D__law_word
def N__law_due : List Str := ["_law_lines_here", "_law_kinds", "_law_k", "_law_words", "_law_word_here", "_law_wrong"]
def D__law_due : DS := dSeq (dSet 1 (dC (.int 2))) (dSeq (dFor (dRng1 (dCons (dCall lenT (dCons (dV 0) (dNil))) (dNil))) (gN 2) (dSeq (dSetO 3 (dLc (dItems (dFz (dMethN isStr splitG (dOp ixG (dV 0) (dV 2)) (dCons (dC (.str [32])) (dNil))))) (gN 4) (dBl (dOp neT (dV 4) (dC (.str [])))) (dV 4) [4])) (dSeq (dIfS (dBl (dOp eqT (dV 2) (dC (.int 0)))) (dSeq (dSet 5 (dFz (dCallF 2 [] m__law_word (dCons (dV 3) (dCons (dFz (dLst (dCons (dFz (dLst (dCons (dC (.str [99, 111, 114, 100])) (dCons (dC (.str [114, 105, 110, 103])) (dNil))))) (dCons (dFz (dLst (dCons (dC (.str [50])) (dCons (dC (.str [51])) (dNil))))) (dNil))))) (dNil)))))) (dSet 1 (dIf (dBl (dOp eqT (dSl (dV 3) (dPart (dC (.int 1))) (dPart (dC (.int 2)))) (dFz (dLst (dCons (dC (.str [51])) (dNil)))))) (dC (.int 3)) (dC (.int 2))))) (dSet 5 (dIf (dBl (dOp gtT (dV 2) (dC (.int 4)))) (dC (.int 1)) (dFz (dCallF 2 [] m__law_word (dCons (dV 3) (dCons (dFz (dCallF 2 [] m__law_rows (dCons (dV 3) (dCons (dV 1) (dNil))))) (dNil)))))))) (dIfS (dBl (dOp notNT (dV 5) (dC .non))) (dRet (dOf (dTup (dCons (dOp addT (dV 2) (dC (.int 1))) (dCons (dV 5) (dNil)))))) (dNx))))) (dRet (dOf (dC .non))))
def m__law_due : Env → R O := dFn 6 D__law_due
def N__law_lines : List Str := ["_law_kinds", "_law_shape_here", "_law_rules_here", "_law_rows_here", "_law_item", "_law_row"]
def D__law_lines : DS := dSeq (dSet 3 (dOp addT (dFz (dLst (dCons (dTup (dCons (dV 1) (dCons (dV 0) (dNil)))) (dNil)))) (dFz (dCallN listN2 (dCons (dV 2) (dNil)))))) (dRet (dLc (dItems (dV 3)) (gN 5) (dYes) (dMeth isStr joinG (dC (.str [32])) (dCons (dFz (dLc (dItems (dV 5)) (gN 4) (dYes) (dCall strT (dCons (dV 4) (dNil))) [4])) (dNil))) [5]))
def m__law_lines : Env → R O := dFn 6 D__law_lines
def N__law_mix : List Str := ["_law_script", "_law_seed", "_law_state", "_law_cell"]
def D__law_mix : DS := dSeq (dSet 2 (dV 1)) (dSeq (dFor (dItems (dV 0)) (gN 3) (dSet 2 (dOp modT (dCall intTS (dCons (dOp addT (dOp addT (dOp mulT (dV 2) (dC (.int 48271))) (dOp modT (dCall intTS (dCons (dV 3) (dNil))) (dC (.int 2147483629)))) (dC (.int 1))) (dNil))) (dC (.int 2147483647))))) (dRet (dLstO (dConsO (dOf (dV 2)) (dConsO (dCallN listN2 (dCons (dV 0) (dNil))) (dConsO (dOf (dC (.int 0))) (dNilO)))))))
def m__law_mix : Env → R O := dFn 4 D__law_mix
def N__law_next : List Str := ["_law_h", "_law_cap", "_law_cell"]
def D__law_next : DS := dSeq (dSet 2 (dRo (dOp ixG (dOp addT (dOp ixG (dV 0) (dC (.int 1))) (dFz (dLst (dCons (dC (.int 0)) (dNil))))) (dOp modT (dCall intTS (dCons (dOp ixG (dV 0) (dC (.int 2))) (dNil))) (dCall maxT (dCons (dC (.int 1)) (dCons (dCall lenT (dCons (dOp ixG (dV 0) (dC (.int 1))) (dNil))) (dNil)))))))) (dSeq (dIfS (dBl (dOp geT (dV 2) (dOp powT (dC (.int 10)) (dC (.int 18))))) (dSeq (dSetLL 0 1 (dOp modT (dCall intTS (dCons (dOp ixG (dV 0) (dC (.int 2))) (dNil))) (dCall lenT (dCons (dOp ixG (dV 0) (dC (.int 1))) (dNil)))) (dOf (dOp fdivT (dV 2) (dV 1)))) (dRet (dOf (dOp modT (dCall intTS (dCons (dV 2) (dNil))) (dV 1))))) (dNx)) (dSeq (dSetIx putLO 0 (dC (.int 0)) (dOf (dOp modT (dRo (dCall intTS (dCons (dOp addT (dOp addT (dOp mulT (dOp ixG (dV 0) (dC (.int 0))) (dC (.int 48271))) (dOp mulT (dV 2) (dC (.int 69621)))) (dC (.int 11))) (dNil)))) (dC (.int 2147483647))))) (dSeq (dSetIx putLO 0 (dC (.int 2)) (dOf (dOp addT (dRo (dOp ixG (dV 0) (dC (.int 2)))) (dC (.int 1))))) (dRet (dOf (dOp modT (dRo (dCall intTS (dCons (dOp fdivT (dOp ixG (dV 0) (dC (.int 0))) (dC (.int 7))) (dNil)))) (dV 1)))))))
def m__law_next : Env → R O := dFn 3 D__law_next
def N__law_pick : List Str := ["_law_h", "_law_things"]
def D__law_pick : DS := dRet (dOf (dOp ixG (dV 1) (dFz (dCallF 2 [0] m__law_next (dCons (dCall lenT (dCons (dV 1) (dNil))) (dNil))))))
def m__law_pick : Env → R O := dFn 2 D__law_pick
def N__law_rule : List Str := ["_law_h", "_law_kinds", "_law_word_here", "_law_one", "_law_two", "_law_wide"]
def D__law_rule : DS := dSeq (dPar [2, 3, 4] (dConsO (dOf (dFz (dCallF 2 [0] m__law_pick (dCons (dFz (dLst (dCons (dC (.str [98, 101, 115, 105, 100, 101])) (dCons (dC (.str [98, 101, 115, 105, 100, 101])) (dCons (dC (.str [115, 101, 99, 111, 110, 100])) (dCons (dC (.str [109, 111, 115, 116])) (dNil))))))) (dNil))))) (dConsO (dOf (dFz (dCallF 2 [0] m__law_next (dCons (dV 1) (dNil))))) (dConsO (dOf (dFz (dCallF 2 [0] m__law_next (dCons (dV 1) (dNil))))) (dNilO))))) (dSeq (dIfS (dBl (dOp eqT (dV 2) (dC (.str [109, 111, 115, 116])))) (dSeq (dSet 5 (dOp addT (dC (.int 2)) (dFz (dCallF 2 [0] m__law_next (dCons (dC (.int 3)) (dNil)))))) (dRet (dOf (dTup (dCons (dV 2) (dCons (dOp ixG (dC (.str [97, 98, 99])) (dV 3)) (dCons (dFz (dCallF 2 [0] m__law_next (dCons (dV 5) (dNil)))) (dCons (dV 5) (dNil))))))))) (dNx)) (dRet (dOf (dTup (dCons (dV 2) (dCons (dOp ixG (dC (.str [97, 98, 99])) (dV 3)) (dCons (dOp ixG (dC (.str [97, 98, 99])) (dV 4)) (dNil))))))))
def m__law_rule : Env → R O := dFn 6 D__law_rule
def N__law_rules : List Str := ["_law_h", "_law_kinds", "_law_k"]
def D__law_rules : DS := dRet (dOf (dCall tupT (dCons (dFz (dLc (dRng1 (dCons (dFz (dCallF 2 [0] m__law_pick (dCons (dFz (dLst (dCons (dC (.int 0)) (dCons (dC (.int 1)) (dCons (dC (.int 1)) (dCons (dC (.int 2)) (dCons (dC (.int 2)) (dCons (dC (.int 3)) (dNil))))))))) (dNil)))) (dNil))) (gN 2) (dYes) (dFz (dCallF 2 [0] m__law_rule (dCons (dV 1) (dNil)))) [2])) (dNil))))
def m__law_rules : Env → R O := dFn 3 D__law_rules
def N__law_shape : List Str := ["_law_h"]
def D__law_shape : DS := dRet (dCallF 2 [0] m__law_pick (dCons (dFz (dLst (dCons (dC (.str [99, 111, 114, 100])) (dCons (dC (.str [114, 105, 110, 103])) (dNil))))) (dNil)))
def m__law_shape : Env → R O := dFn 1 D__law_shape
def N_law : List Str := ["_law_script", "_law_h", "_law_odd", "_law_turn", "_law_kinds", "_law_lines_here", "_law_change", "_law_spot", "_law_kind", "_law_words", "_law_k", "_law_word_here", "_law_tail", "_law_line", "_law_more", "_law_some", "_law_text"]
def D_law : DS := dSeq (dSetO 1 (dCallF 2 [] m__law_mix (dCons (dV 0) (dCons (dC (.int 18)) (dNil))))) (dSeq (dSet 2 (dFz (dLst (dCons (dC (.str [])) (dCons (dC (.str [48])) (dCons (dC (.str [49])) (dCons (dC (.str [50])) (dCons (dC (.str [51])) (dCons (dC (.str [52])) (dCons (dC (.str [48, 50])) (dCons (dC (.str [97])) (dCons (dC (.str [98])) (dCons (dC (.str [99])) (dCons (dC (.str [100])) (dCons (dC (.str [99, 111, 114, 100])) (dCons (dC (.str [114, 105, 110, 103])) (dNil))))))))))))))))) (dSeq (dSet 2 (dOp addT (dV 2) (dFz (dLst (dCons (dC (.str [109, 111, 115, 116])) (dCons (dC (.str [98, 101, 115, 105, 100, 101])) (dCons (dC (.str [97, 98])) (dNil)))))))) (dSeq (dFor (dRng1 (dCons (dC (.int 6)) (dNil))) (gN 3) (dSeq (dSet 4 (dOp addT (dC (.int 2)) (dFz (dCallF 2 [1] m__law_next (dCons (dC (.int 2)) (dNil)))))) (dSeq (dSet 5 (dFz (dCallF 3 [] m__law_lines (dCons (dV 4) (dCons (dFz (dCallF 1 [1] m__law_shape (dNil))) (dCons (dFz (dCallF 2 [1] m__law_rules (dCons (dV 4) (dNil)))) (dNil))))))) (dSeq (dFor (dRng1 (dCons (dOp addT (dC (.int 1)) (dFz (dCallF 2 [1] m__law_next (dCons (dC (.int 2)) (dNil))))) (dNil))) (gN 6) (dSeq (dPar [7, 8] (dConsO (dOf (dFz (dCallF 2 [1] m__law_next (dCons (dCall lenT (dCons (dV 5) (dNil))) (dNil))))) (dConsO (dOf (dFz (dCallF 2 [1] m__law_next (dCons (dC (.int 5)) (dNil))))) (dNilO)))) (dSeq (dSet 9 (dFz (dMethN isStr splitG (dOp ixG (dV 5) (dV 7)) (dCons (dC (.str [32])) (dNil))))) (dSeq (dSet 10 (dFz (dCallF 2 [1] m__law_next (dCons (dOp addT (dCall lenT (dCons (dV 9) (dNil))) (dC (.int 1))) (dNil))))) (dIfS (dBl (dOp ltT (dV 8) (dC (.int 2)))) (dSeq (dPar [11, 12] (dConsO (dOf (dFz (dCallF 2 [1] m__law_pick (dCons (dV 2) (dNil))))) (dConsO (dOf (dSl (dV 9) (dPart (dOp addT (dV 10) (dV 8))) (dNoP))) (dNilO)))) (dSeq (dSet 13 (dMeth isStr joinG (dC (.str [32])) (dCons (dOp addT (dOp addT (dSl (dV 9) (dNoP) (dPart (dV 10))) (dFz (dLst (dCons (dV 11) (dNil))))) (dV 12)) (dNil)))) (dSet 5 (dOp addT (dOp addT (dSl (dV 5) (dNoP) (dPart (dV 7))) (dFz (dLst (dCons (dV 13) (dNil))))) (dSl (dV 5) (dPart (dOp addT (dV 7) (dC (.int 1)))) (dNoP)))))) (dIfS (dBl (dOp eqT (dV 8) (dC (.int 2)))) (dSeq (dSet 13 (dMeth isStr joinG (dC (.str [32])) (dCons (dSl (dV 9) (dNoP) (dPart (dV 10))) (dNil)))) (dSet 5 (dOp addT (dOp addT (dSl (dV 5) (dNoP) (dPart (dV 7))) (dFz (dLst (dCons (dV 13) (dNil))))) (dSl (dV 5) (dPart (dOp addT (dV 7) (dC (.int 1)))) (dNoP))))) (dIfS (dBl (dOp eqT (dV 8) (dC (.int 3)))) (dSeq (dSet 14 (dFz (dCallF 2 [1] m__law_pick (dCons (dFz (dLst (dCons (dC (.str [])) (dCons (dC (.str [98, 101, 115, 105, 100, 101, 32, 97, 32, 97])) (dCons (dC (.str [109, 111, 115, 116, 32, 98, 32, 49, 32, 52])) (dCons (dC (.str [114, 105, 110, 103, 32, 50])) (dNil))))))) (dNil))))) (dSeq (dSet 15 (dOp mulT (dFz (dLst (dCons (dV 14) (dNil)))) (dOp addT (dC (.int 1)) (dFz (dCallF 2 [1] m__law_next (dCons (dC (.int 3)) (dNil))))))) (dSet 5 (dOp addT (dOp addT (dSl (dV 5) (dNoP) (dPart (dOp addT (dV 7) (dC (.int 1))))) (dV 15)) (dSl (dV 5) (dPart (dOp addT (dV 7) (dC (.int 1)))) (dNoP)))))) (dSet 5 (dUn revG (dV 5)))))))))) (dIfS (dNot (dTru (dFz (dCallF 2 [] (m__law_alike 20) (dCons (dFz (dCallF 1 [] m__law_answer (dCons (dMeth isStr joinG (dC (.str [10])) (dCons (dV 5) (dNil))) (dNil)))) (dCons (dFz (dCallF 1 [] m__law_due (dCons (dV 5) (dNil)))) (dNil))))))) (dRet (dOf (dC (.bl false)))) (dNx)))))) (dRet (dOf (dOp eqT (dFz (dLc (dItems (dFz (dLst (dCons (dC (.str [])) (dCons (dC (.str [114, 105, 110, 103, 32, 50, 10])) (dCons (dC (.str [114, 105, 110, 103, 32, 50, 32, 50])) (dNil))))))) (gN 16) (dYes) (dFz (dCallF 1 [] m__law_answer (dCons (dV 16) (dNil)))) [16])) (dFz (dLst (dCons (dTup (dCons (dC (.int 1)) (dCons (dC (.int 1)) (dNil)))) (dCons (dTup (dCons (dC (.int 2)) (dCons (dC (.int 1)) (dNil)))) (dCons (dTup (dCons (dC (.int 1)) (dCons (dC (.int 3)) (dNil)))) (dNil))))))))))))
def m_law : Env → R O := dFn 17 D_law
/-! walks -/
structure Ax (K : PySem.W.Frag) (cl : Nat → Addr) (mg : Str → Option Value) : Prop where
  n_bool : mg "bool" = none
  n_dict : mg "dict" = none
  n_enumerate : mg "enumerate" = none
  n_int : mg "int" = none
  n_isinstance : mg "isinstance" = none
  n_len : mg "len" = none
  n_list : mg "list" = none
  n_max : mg "max" = none
  n_range : mg "range" = none
  n_str : mg "str" = none
  n_tuple : mg "tuple" = none
  m_LETTERS : GlT (gam K cl) mg "LETTERS" c_LETTERS
  m_MOST_RULES : GlT (gam K cl) mg "MOST_RULES" c_MOST_RULES
  m_MOST_WIDE : GlT (gam K cl) mg "MOST_WIDE" c_MOST_WIDE
  m_SHAPES : GlT (gam K cl) mg "SHAPES" c_SHAPES
  c_Book : Cls K (cl 1)
  i_Book : InsOk K (cl 1)
  j_Book : ∀ a ∈ tyAll, PySem.W.kitOne K (.type a) (.ref (cl 1)) = some false
  q_many : NoAttr K (cl 1) "many"
  q_form : NoAttr K (cl 1) "form"
  q_rows : NoAttr K (cl 1) "rows"
  c_Line : Cls K (cl 2)
  i_Line : InsOk K (cl 2)
  j_Line : ∀ a ∈ tyAll, PySem.W.kitOne K (.type a) (.ref (cl 2)) = some false
  q_words_in : NoAttr K (cl 2) "words_in"
  q_at_line : NoAttr K (cl 2) "at_line"
  q_spot : NoAttr K (cl 2) "spot"
  x_InvalidText : ∀ n, xkn n = true → PySem.W.exmOne K (.ref (cl n)) (.ref (cl 104)) = some (n == 104)
  t_InvalidText : ExcC K (cl 104) ∧ XfC K (cl 104)
  e_BeadError : mg "BeadError" = some (.ref (cl 100))
  e_InvalidText : mg "InvalidText" = some (.ref (cl 104))
  k_InvalidText_BeadError : PySem.W.kitOne K (.ref (cl 104)) (.ref (cl 100)) = some true
  nx_InvalidText_line : PySem.W.findIn K (.ref (cl 104)) "line" = some none
  nx_InvalidText_word : PySem.W.findIn K (.ref (cl 104)) "word" = some none
theorem Ax.f_many {K : PySem.W.Frag} {cl : Nat → Addr} {mg : Str → Option Value} (G : Ax K cl mg) : FldOk (gam K cl) K "many" ix_many := fldOk G.c_Book G.q_many (by decide +kernel)
theorem Ax.n_many_ {K : PySem.W.Frag} {cl : Nat → Addr} {mg : Str → Option Value} (G : Ax K cl mg) : NxtOk (gam K cl) K "many" nx_many := nxtOk G.c_Book G.q_many (by decide +kernel) (by decide)
theorem Ax.f_form {K : PySem.W.Frag} {cl : Nat → Addr} {mg : Str → Option Value} (G : Ax K cl mg) : FldOk (gam K cl) K "form" ix_form := fldOk G.c_Book G.q_form (by decide +kernel)
theorem Ax.n_form_ {K : PySem.W.Frag} {cl : Nat → Addr} {mg : Str → Option Value} (G : Ax K cl mg) : NxtOk (gam K cl) K "form" nx_form := nxtOk G.c_Book G.q_form (by decide +kernel) (by decide)
theorem Ax.f_rows {K : PySem.W.Frag} {cl : Nat → Addr} {mg : Str → Option Value} (G : Ax K cl mg) : FldOk (gam K cl) K "rows" ix_rows := fldOk G.c_Book G.q_rows (by decide +kernel)
theorem Ax.n_rows_ {K : PySem.W.Frag} {cl : Nat → Addr} {mg : Str → Option Value} (G : Ax K cl mg) : NxtOk (gam K cl) K "rows" nx_rows := nxtOk G.c_Book G.q_rows (by decide +kernel) (by decide)
theorem Ax.f_words_in {K : PySem.W.Frag} {cl : Nat → Addr} {mg : Str → Option Value} (G : Ax K cl mg) : FldOk (gam K cl) K "words_in" ix_words_in := fldOk G.c_Line G.q_words_in (by decide +kernel)
theorem Ax.n_words_in_ {K : PySem.W.Frag} {cl : Nat → Addr} {mg : Str → Option Value} (G : Ax K cl mg) : NxtOk (gam K cl) K "words_in" nx_words_in := nxtOk G.c_Line G.q_words_in (by decide +kernel) (by decide)
theorem Ax.f_at_line {K : PySem.W.Frag} {cl : Nat → Addr} {mg : Str → Option Value} (G : Ax K cl mg) : FldOk (gam K cl) K "at_line" ix_at_line := fldOk G.c_Line G.q_at_line (by decide +kernel)
theorem Ax.n_at_line_ {K : PySem.W.Frag} {cl : Nat → Addr} {mg : Str → Option Value} (G : Ax K cl mg) : NxtOk (gam K cl) K "at_line" nx_at_line := nxtOk G.c_Line G.q_at_line (by decide +kernel) (by decide)
theorem Ax.f_spot {K : PySem.W.Frag} {cl : Nat → Addr} {mg : Str → Option Value} (G : Ax K cl mg) : FldOk (gam K cl) K "spot" ix_spot := fldOk G.c_Line G.q_spot (by decide +kernel)
theorem Ax.n_spot_ {K : PySem.W.Frag} {cl : Nat → Addr} {mg : Str → Option Value} (G : Ax K cl mg) : NxtOk (gam K cl) K "spot" nx_spot := nxtOk G.c_Line G.q_spot (by decide +kernel) (by decide)
section
variable {P : Program} {w : World} {K : PySem.W.Frag} {mg : Str → Option Value} {base : Heap} {cl : Nat → Addr} {f : Addr} {fd : FuncData}
abbrev S__law_alike : Stmt := top 22
theorem sc__law_alike : FnScope N__law_alike ["_law_found", "_law_due_here"] (defScope S__law_alike) := ⟨rfl, rfl, rfl, by decide +kernel, rfl, by decide +kernel, by decide +kernel⟩
theorem ok__law_alike (G : Ax K cl mg) (F : FnP K "_law_alike" S__law_alike f fd) (g : mg "_law_alike" = some (.ref f))  : ∀ n : Nat, Fn P w K mg base (gam K cl) (n + 1) "_law_alike" 2 [] (m__law_alike n)
  | 0 => (mkFn (N := N__law_alike) (ps := ["_law_found", "_law_due_here"]) F g sc__law_alike (by decide) (by decide) (F.bindsN fun _ _ _ _ _ _ us hl => match us, hl with | [_, _], _ => rfl) fun cdv A outer s H E hr => pss_stuck)
  | n + 1 => by
    have C__law_alike := ok__law_alike G F g  n
    exact mkFn (N := N__law_alike) (ps := ["_law_found", "_law_due_here"]) F g sc__law_alike (by decide) (by decide) (F.bindsN fun _ _ _ _ _ _ us hl => match us, hl with | [_, _], _ => rfl) fun cdv A outer s H E hr => by
      have hu1 := hr.units1
      have S := sc__law_alike
      exact (dss_cons (ds_if (dt_truth rfl (de_callB (callT_isiT) rfl G.n_isinstance bt_isinstance (da_cons (de_var (pe_var (i := 1) rfl vC)) (da_cons (de_const (pe_bltn (v := .ty "dict") rfl G.n_dict bt_dict rfl) fun _ => rp_ty) da_nil)))) (dss_one (ds_ret (do_of (de_and (de_callB (callT_isiT) rfl G.n_isinstance bt_isinstance (da_cons (de_var (pe_var (i := 0) rfl vC)) (da_cons (de_const (pe_bltn (v := .ty "dict") rfl G.n_dict bt_dict rfl) fun _ => rp_ty) da_nil))) (de_and (de_fz (do_fn0 takes_cx C__law_alike hr (by omega) rfl (da_cons (de_fz (do_callTy (callN_list2 rfl rfl) rfl G.n_list bt_list (da_cons (de_var (pe_var (i := 0) rfl vC)) da_nil))) (da_cons (de_fz (do_callTy (callN_list2 rfl rfl) rfl G.n_list bt_list (da_cons (de_var (pe_var (i := 1) rfl vC)) da_nil))) da_nil)))) (de_one (de_cmp (opT_eq rfl hr.units) (de_var (pe_var (i := 0) rfl vC)) (de_var (pe_var (i := 1) rfl vC)) (nomark _)))))))) dss_nil) (dss_cons (ds_if (dt_truth rfl (de_callB (callT_isiT) rfl G.n_isinstance bt_isinstance (da_cons (de_var (pe_var (i := 1) rfl vC)) (da_cons (de_tup (da_cons (de_const (pe_bltn (v := .ty "tuple") rfl G.n_tuple bt_tuple rfl) fun _ => rp_ty) (da_cons (de_const (pe_bltn (v := .ty "list") rfl G.n_list bt_list rfl) fun _ => rp_ty) da_nil))) da_nil)))) (dss_cons (ds_if (dt_w (dw_or (dt_not (dt_truth rfl (de_callB (callT_isiT) rfl G.n_isinstance bt_isinstance (da_cons (de_var (pe_var (i := 0) rfl vC)) (da_cons (de_tup (da_cons (de_const (pe_bltn (v := .ty "tuple") rfl G.n_tuple bt_tuple rfl) fun _ => rp_ty) (da_cons (de_const (pe_bltn (v := .ty "list") rfl G.n_list bt_list rfl) fun _ => rp_ty) da_nil))) da_nil))))) (dw_or1 (dt_cmp (opT_ne rfl hr.units) (de_callB (callT_isiT) rfl G.n_isinstance bt_isinstance (da_cons (de_var (pe_var (i := 0) rfl vC)) (da_cons (de_const (pe_bltn (v := .ty "list") rfl G.n_list bt_list rfl) fun _ => rp_ty) da_nil))) (de_callB (callT_isiT) rfl G.n_isinstance bt_isinstance (da_cons (de_var (pe_var (i := 1) rfl vC)) (da_cons (de_const (pe_bltn (v := .ty "list") rfl G.n_list bt_list rfl) fun _ => rp_ty) da_nil))) (nomark _))))) (dss_one (ds_ret (do_of de_bl))) dss_nil) (dss_cons (ds_if (dt_cmp (opT_ne rfl hr.units) (de_callB (callT_len rfl) rfl G.n_len bt_len (da_cons (de_var (pe_var (i := 0) rfl vC)) da_nil)) (de_callB (callT_len rfl) rfl G.n_len bt_len (da_cons (de_var (pe_var (i := 1) rfl vC)) da_nil)) (nomark _)) (dss_one (ds_ret (do_of de_bl))) dss_nil) (dss_one (ds_ret (do_of (de_cmp (opT_eq rfl hr.units) (de_fz (do_lc (own := [("_law_k", 2)]) rfl S.nd (di_rng1 rfl G.n_range (da_cons (de_callB (callT_len rfl) rfl G.n_len bt_len (da_cons (de_var (pe_var (i := 1) rfl vC)) da_nil)) da_nil)) (blk_of (N := N__law_alike) (sc := defScope S__law_alike) rfl (by decide +kernel) (by decide +kernel) (by decide +kernel) (by decide +kernel)) nios (fun s H C cl fp => dg_mono (dg_name S.nd rfl lL nio) nins) (fun s H C cl fp => (dts_one (dt_not (dt_truth rfl (de_fz (do_fn0 takes_nox C__law_alike hr (by omega) rfl (da_cons (de_ix rfl hu1 (de_var (pe_var (i := 0) rfl vC)) (de_var (pe_var (i := 2) rfl vL))) (da_cons (de_ix rfl hu1 (de_var (pe_var (i := 1) rfl vC)) (de_var (pe_var (i := 2) rfl vL))) da_nil)))))))) (fun s H C cl fp => (de_var (pe_var (i := 2) rfl vL))))) (de_fz (do_lst da_nil)) (nomark _))))))) dss_nil) (dss_cons (ds_if (dt_w (dw_or (dt_cmp (opT_isN) (de_var (pe_var (i := 1) rfl vC)) de_non (nomark _)) (dw_or1 (dt_truth rfl (de_callB (callT_isiT) rfl G.n_isinstance bt_isinstance (da_cons (de_var (pe_var (i := 1) rfl vC)) (da_cons (de_const (pe_bltn (v := .ty "str") rfl G.n_str bt_str rfl) fun _ => rp_ty) da_nil))))))) (dss_one (ds_ret (do_of (de_and (de_cmp (opT_eq rfl hr.units) (de_var (pe_var (i := 0) rfl vC)) (de_var (pe_var (i := 1) rfl vC)) (nomark _)) (de_one (de_cmp (opT_eq rfl hr.units) (de_callB (callT_isiT) rfl G.n_isinstance bt_isinstance (da_cons (de_var (pe_var (i := 0) rfl vC)) (da_cons (de_const (pe_bltn (v := .ty "str") rfl G.n_str bt_str rfl) fun _ => rp_ty) da_nil))) (de_callB (callT_isiT) rfl G.n_isinstance bt_isinstance (da_cons (de_var (pe_var (i := 1) rfl vC)) (da_cons (de_const (pe_bltn (v := .ty "str") rfl G.n_str bt_str rfl) fun _ => rp_ty) da_nil))) (nomark _))))))) dss_nil) (dss_one (ds_ret (do_of (de_and (de_callB (callT_isiT) rfl G.n_isinstance bt_isinstance (da_cons (de_var (pe_var (i := 0) rfl vC)) (da_cons (de_const (pe_bltn (v := .ty "int") rfl G.n_int bt_int rfl) fun _ => rp_ty) da_nil))) (de_and (de_cmp (opT_eq rfl hr.units) (de_callB (callT_isiT) rfl G.n_isinstance bt_isinstance (da_cons (de_var (pe_var (i := 0) rfl vC)) (da_cons (de_const (pe_bltn (v := .ty "bool") rfl G.n_bool bt_bool rfl) fun _ => rp_ty) da_nil))) (de_callB (callT_isiT) rfl G.n_isinstance bt_isinstance (da_cons (de_var (pe_var (i := 1) rfl vC)) (da_cons (de_const (pe_bltn (v := .ty "bool") rfl G.n_bool bt_bool rfl) fun _ => rp_ty) da_nil))) (nomark _)) (de_one (de_cmp (opT_eq rfl hr.units) (de_var (pe_var (i := 0) rfl vC)) (de_var (pe_var (i := 1) rfl vC)) (nomark _)))))))))))
abbrev S_Line_fail : Stmt := inClass (top 16) 1
theorem sc_Line_fail : FnScope N_Line_fail ["self"] (defScope S_Line_fail) := ⟨rfl, rfl, rfl, by decide +kernel, rfl, by decide +kernel, by decide +kernel⟩
theorem ok_Line_fail (G : Ax K cl mg) (F : FnM K "fail" "Line.fail" S_Line_fail f fd) (g : Meth K (cl 2) "fail" f) (C_InvalidText : Exn P w K mg base (gam K cl) 1 (cl 104) 104 "InvalidText" ["line", "word"]) : Mt P w K mg base (gam K cl) 3 (cl 2) "fail" 1 [0] m_Line_fail :=
  mkMt (N := N_Line_fail) (ps := ["self"]) F g sc_Line_fail (by decide) (by decide) (F.bindsN fun _ _ _ _ _ _ us hl => match us, hl with | [_], _ => rfl) fun cdv A outer s H E hr => by
    have hu1 := hr.units1
    have S := sc_Line_fail
    exact (dss_one (ds_raise rfl takes_cx C_InvalidText hr (by decide) rfl (da_cons (de_fldS G.f_at_line (pe_var (i := 0) rfl vL)) (da_cons (de_op (opT_add rfl) (de_fldS G.f_spot (pe_var (i := 0) rfl vL)) de_int) da_nil))))
abbrev S_Line_finish : Stmt := inClass (top 16) 4
theorem sc_Line_finish : FnScope N_Line_finish ["self"] (defScope S_Line_finish) := ⟨rfl, rfl, rfl, by decide +kernel, rfl, by decide +kernel, by decide +kernel⟩
theorem ok_Line_finish (G : Ax K cl mg) (F : FnM K "finish" "Line.finish" S_Line_finish f fd) (g : Meth K (cl 2) "finish" f) (C_Line_fail : Mt P w K mg base (gam K cl) 3 (cl 2) "fail" 1 [0] m_Line_fail) : Mt P w K mg base (gam K cl) 4 (cl 2) "finish" 1 [0] m_Line_finish :=
  mkMt (N := N_Line_finish) (ps := ["self"]) F g sc_Line_finish (by decide) (by decide) (F.bindsN fun _ _ _ _ _ _ us hl => match us, hl with | [_], _ => rfl) fun cdv A outer s H E hr => by
    have hu1 := hr.units1
    have S := sc_Line_finish
    exact (dss_one (ds_if (dt_cmp (opT_lt) (de_fldS G.f_spot (pe_var (i := 0) rfl vL)) (de_callB (callT_len rfl) rfl G.n_len bt_len (da_cons (de_fldS G.f_words_in (pe_var (i := 0) rfl vL)) da_nil)) (nomark _)) (dss_one (ds_expr (de_fz (do_mt0 (pl := _) takes_cx freeW_e C_Line_fail G.c_Line a_Line_fail (pe_var (i := 0) rfl vL) (by decide) (by decide) hr (by decide))))) dss_nil))
abbrev S_Line_take : Stmt := inClass (top 16) 2
theorem sc_Line_take : FnScope N_Line_take ["self", "some"] (defScope S_Line_take) := ⟨rfl, rfl, rfl, by decide +kernel, rfl, by decide +kernel, by decide +kernel⟩
theorem ok_Line_take (G : Ax K cl mg) (F : FnM K "take" "Line.take" S_Line_take f fd) (g : Meth K (cl 2) "take" f) (C_Line_fail : Mt P w K mg base (gam K cl) 3 (cl 2) "fail" 1 [0] m_Line_fail) : Mt P w K mg base (gam K cl) 4 (cl 2) "take" 2 [0] m_Line_take :=
  mkMt (N := N_Line_take) (ps := ["self", "some"]) F g sc_Line_take (by decide) (by decide) (F.bindsN fun _ _ _ _ _ _ us hl => match us, hl with | [_, _], _ => rfl) fun cdv A outer s H E hr => by
    have hu1 := hr.units1
    have S := sc_Line_take
    exact (dss_cons (ds_if (dt_w (dw_or (dt_cmp (opT_eq rfl hr.units) (de_fldS G.f_spot (pe_var (i := 0) rfl vL)) (de_callB (callT_len rfl) rfl G.n_len bt_len (da_cons (de_fldS G.f_words_in (pe_var (i := 0) rfl vL)) da_nil)) (nomark _)) (dw_or1 (dt_cmp (opT_notIn rfl hu1) (de_ix rfl hu1 (de_fldS G.f_words_in (pe_var (i := 0) rfl vL)) (de_fldS G.f_spot (pe_var (i := 0) rfl vL))) (de_var (pe_var (i := 1) rfl vL)) rfl)))) (dss_one (ds_expr (de_fz (do_mt0 (pl := _) takes_cx freeW_e C_Line_fail G.c_Line a_Line_fail (pe_var (i := 0) rfl vL) (by decide) (by decide) hr (by decide))))) dss_nil) (dss_cons (ds_incF G.f_spot (fun _ => fldN_len) (pe_var (i := 0) rfl vL) de_int) (dss_one (ds_ret (do_of (de_ix rfl hu1 (de_fldS G.f_words_in (pe_var (i := 0) rfl vL)) (de_op (opT_sub) (de_fldS G.f_spot (pe_var (i := 0) rfl vL)) de_int)))))))
abbrev S_Line_number : Stmt := inClass (top 16) 3
theorem sc_Line_number : FnScope N_Line_number ["self", "low", "high"] (defScope S_Line_number) := ⟨rfl, rfl, rfl, by decide +kernel, rfl, by decide +kernel, by decide +kernel⟩
theorem ok_Line_number (G : Ax K cl mg) (F : FnM K "number" "Line.number" S_Line_number f fd) (g : Meth K (cl 2) "number" f) (C_Line_take : Mt P w K mg base (gam K cl) 4 (cl 2) "take" 2 [0] m_Line_take) : Mt P w K mg base (gam K cl) 5 (cl 2) "number" 3 [0] m_Line_number :=
  mkMt (N := N_Line_number) (ps := ["self", "low", "high"]) F g sc_Line_number (by decide) (by decide) (F.bindsN fun _ _ _ _ _ _ us hl => match us, hl with | [_, _, _], _ => rfl) fun cdv A outer s H E hr => by
    have hu1 := hr.units1
    have S := sc_Line_number
    exact (dss_one (ds_ret (do_of (de_callTy (callT_intS) rfl G.n_int bt_int (da_cons (de_fz (do_mt (pl := _) takes_cx freeW_e C_Line_take G.c_Line a_Line_take (pe_var (i := 0) rfl vL) (by decide) (by decide) hr (by decide) (da_cons (de_fz (do_lc (own := [("number", 3)]) rfl S.nd (di_rng2 rfl G.n_range (da_cons (de_var (pe_var (i := 1) rfl vL)) (da_cons (de_op (opT_add rfl) (de_var (pe_var (i := 2) rfl vL)) de_int) da_nil))) (blk_of (N := N_Line_number) (sc := defScope S_Line_number) rfl (by decide +kernel) (by decide +kernel) (by decide +kernel) (by decide +kernel)) nios (fun s H C cl fp => dg_mono (dg_name S.nd rfl lL nio) nins) (fun s H C cl fp => dts_nil) (fun s H C cl fp => (de_callTy (callT_str) rfl G.n_str bt_str (da_cons (de_var (pe_var (i := 3) rfl vL)) da_nil))))) da_nil))) da_nil)))))
abbrev S_rule_in : Stmt := top 17
theorem sc_rule_in : FnScope N_rule_in ["line", "kinds"] (defScope S_rule_in) := ⟨rfl, rfl, rfl, by decide +kernel, rfl, by decide +kernel, by decide +kernel⟩
theorem ok_rule_in (G : Ax K cl mg) (F : FnP K "rule_in" S_rule_in f fd) (g : mg "rule_in" = some (.ref f)) (C_Line_finish : Mt P w K mg base (gam K cl) 4 (cl 2) "finish" 1 [0] m_Line_finish) (C_Line_number : Mt P w K mg base (gam K cl) 5 (cl 2) "number" 3 [0] m_Line_number) (C_Line_take : Mt P w K mg base (gam K cl) 4 (cl 2) "take" 2 [0] m_Line_take) : Fn P w K mg base (gam K cl) 6 "rule_in" 2 [0] m_rule_in :=
  mkFn (N := N_rule_in) (ps := ["line", "kinds"]) F g sc_rule_in (by decide) (by decide) (F.bindsN fun _ _ _ _ _ _ us hl => match us, hl with | [_, _], _ => rfl) fun cdv A outer s H E hr => by
    have hu1 := hr.units1
    have S := sc_rule_in
    exact (dss_cons (ds_set S.nd rfl lL nio (de_fz (do_callTy (callN_list2 rfl rfl) rfl G.n_list bt_list (da_cons (de_slice rfl (de_globX rfl G.m_LETTERS) dp_none (dp_some (de_var (pe_var (i := 1) rfl vL)))) da_nil)))) (dss_cons (ds_par (i := 3) (j := 4) rfl S.nd rfl rfl (by decide) nio nio rfl rfl (dao_cons (do_of (de_fz (do_mt (pl := _) takes_cx freeW_e C_Line_take G.c_Line a_Line_take (pe_var (i := 0) rfl vL) (by decide) (by decide) hr (by decide) (da_cons (de_tup (da_cons (de_str rfl) (da_cons (de_str rfl) (da_cons (de_str rfl) da_nil)))) da_nil)))) (dao_cons (do_of (de_fz (do_mt (pl := _) takes_cx freeW_e C_Line_take G.c_Line a_Line_take (pe_var (i := 0) rfl vL) (by decide) (by decide) hr (by decide) (da_cons (de_var (pe_var (i := 2) rfl vL)) da_nil)))) dao_nil)) rfl fun ha => ps_par rfl S.nd rfl rfl (by decide) rfl rfl ha rfl) (dss_cons (ds_if (dt_cmp (opT_eq rfl hr.units) (de_var (pe_var (i := 3) rfl vL)) (de_str rfl) (nomark _)) (dss_cons (ds_set S.nd rfl lL nio (de_fz (do_mt (pl := _) takes_cx freeW_e C_Line_number G.c_Line a_Line_number (pe_var (i := 0) rfl vL) (by decide) (by decide) hr (by decide) (da_cons de_int (da_cons (de_op (opT_sub) (de_globX rfl G.m_MOST_WIDE) de_int) da_nil))))) (dss_one (ds_set S.nd rfl lL nio (de_tup (da_cons (de_var (pe_var (i := 3) rfl vL)) (da_cons (de_var (pe_var (i := 4) rfl vL)) (da_cons (de_var (pe_var (i := 5) rfl vL)) (da_cons (de_fz (do_mt (pl := _) takes_cx freeW_e C_Line_number G.c_Line a_Line_number (pe_var (i := 0) rfl vL) (by decide) (by decide) hr (by decide) (da_cons (de_callB (callT_max rfl) rfl G.n_max bt_max (da_cons de_int (da_cons (de_op (opT_add rfl) (de_var (pe_var (i := 5) rfl vL)) de_int) da_nil))) (da_cons (de_globX rfl G.m_MOST_WIDE) da_nil)))) da_nil)))))))) (dss_one (ds_set S.nd rfl lL nio (de_tup (da_cons (de_var (pe_var (i := 3) rfl vL)) (da_cons (de_var (pe_var (i := 4) rfl vL)) (da_cons (de_fz (do_mt (pl := _) takes_cx freeW_e C_Line_take G.c_Line a_Line_take (pe_var (i := 0) rfl vL) (by decide) (by decide) hr (by decide) (da_cons (de_var (pe_var (i := 2) rfl vL)) da_nil))) da_nil))))))) (dss_cons (ds_expr (de_fz (do_mt0 (pl := _) takes_cx freeW_e C_Line_finish G.c_Line a_Line_finish (pe_var (i := 0) rfl vL) (by decide) (by decide) hr (by decide)))) (dss_one (ds_ret (do_of (de_var (pe_var (i := 6) rfl vL)))))))))
abbrev S_is_integer : Stmt := top 11
theorem sc_is_integer : FnScope N_is_integer ["thing", "low", "high"] (defScope S_is_integer) := ⟨rfl, rfl, rfl, by decide +kernel, rfl, by decide +kernel, by decide +kernel⟩
theorem ok_is_integer (G : Ax K cl mg) (F : FnP K "is_integer" S_is_integer f fd) (g : mg "is_integer" = some (.ref f))  : Fn P w K mg base (gam K cl) 1 "is_integer" 3 [] m_is_integer :=
  mkFn (N := N_is_integer) (ps := ["thing", "low", "high"]) F g sc_is_integer (by decide) (by decide) (F.bindsN fun _ _ _ _ _ _ us hl => match us, hl with | [_, _, _], _ => rfl) fun cdv A outer s H E hr => by
    have hu1 := hr.units1
    have S := sc_is_integer
    exact (dss_one (ds_ret (do_of (de_and (de_callB (callT_isiT) rfl G.n_isinstance bt_isinstance (da_cons (de_var (pe_var (i := 0) rfl vL)) (da_cons (de_const (pe_bltn (v := .ty "int") rfl G.n_int bt_int rfl) fun _ => rp_ty) da_nil))) (de_and (de_not (de_callB (callT_isiT) rfl G.n_isinstance bt_isinstance (da_cons (de_var (pe_var (i := 0) rfl vL)) (da_cons (de_const (pe_bltn (v := .ty "bool") rfl G.n_bool bt_bool rfl) fun _ => rp_ty) da_nil)))) (de_one (de_chain (opT_le) (opT_le) (de_var (pe_var (i := 1) rfl vL)) (de_var (pe_var (i := 0) rfl vL)) (de_var (pe_var (i := 2) rfl vL)) fun h1 h2 h3 h4 h5 => pe_chain h1 h2 h3 h4 h5)))))))
abbrev S_is_kind : Stmt := top 12
theorem sc_is_kind : FnScope N_is_kind ["kinds", "thing"] (defScope S_is_kind) := ⟨rfl, rfl, rfl, by decide +kernel, rfl, by decide +kernel, by decide +kernel⟩
theorem ok_is_kind (G : Ax K cl mg) (F : FnP K "is_kind" S_is_kind f fd) (g : mg "is_kind" = some (.ref f))  : Fn P w K mg base (gam K cl) 1 "is_kind" 2 [] m_is_kind :=
  mkFn (N := N_is_kind) (ps := ["kinds", "thing"]) F g sc_is_kind (by decide) (by decide) (F.bindsN fun _ _ _ _ _ _ us hl => match us, hl with | [_, _], _ => rfl) fun cdv A outer s H E hr => by
    have hu1 := hr.units1
    have S := sc_is_kind
    exact (dss_one (ds_ret (do_of (de_and (de_callB (callT_isiT) rfl G.n_isinstance bt_isinstance (da_cons (de_var (pe_var (i := 1) rfl vL)) (da_cons (de_const (pe_bltn (v := .ty "str") rfl G.n_str bt_str rfl) fun _ => rp_ty) da_nil))) (de_and (de_cmp (opT_eq rfl hr.units) (de_callB (callT_len rfl) rfl G.n_len bt_len (da_cons (de_var (pe_var (i := 1) rfl vL)) da_nil)) de_int (nomark _)) (de_one (de_cmp (opT_in rfl hu1) (de_var (pe_var (i := 1) rfl vL)) (de_slice rfl (de_globX rfl G.m_LETTERS) dp_none (dp_some (de_var (pe_var (i := 0) rfl vL)))) rfl)))))))
abbrev S_is_rule : Stmt := top 13
theorem sc_is_rule : FnScope N_is_rule ["kinds", "thing"] (defScope S_is_rule) := ⟨rfl, rfl, rfl, by decide +kernel, rfl, by decide +kernel, by decide +kernel⟩
theorem ok_is_rule (G : Ax K cl mg) (F : FnP K "is_rule" S_is_rule f fd) (g : mg "is_rule" = some (.ref f)) (C_is_integer : Fn P w K mg base (gam K cl) 1 "is_integer" 3 [] m_is_integer) (C_is_kind : Fn P w K mg base (gam K cl) 1 "is_kind" 2 [] m_is_kind) : Fn P w K mg base (gam K cl) 2 "is_rule" 2 [] m_is_rule :=
  mkFn (N := N_is_rule) (ps := ["kinds", "thing"]) F g sc_is_rule (by decide) (by decide) (F.bindsN fun _ _ _ _ _ _ us hl => match us, hl with | [_, _], _ => rfl) fun cdv A outer s H E hr => by
    have hu1 := hr.units1
    have S := sc_is_rule
    exact (dss_cons (ds_if (dt_w (dw_or (dt_not (dt_truth rfl (de_callB (callT_isiT) rfl G.n_isinstance bt_isinstance (da_cons (de_var (pe_var (i := 1) rfl vL)) (da_cons (de_const (pe_bltn (v := .ty "tuple") rfl G.n_tuple bt_tuple rfl) fun _ => rp_ty) da_nil))))) (dw_or (dt_cmp (opT_lt) (de_callB (callT_len rfl) rfl G.n_len bt_len (da_cons (de_var (pe_var (i := 1) rfl vL)) da_nil)) de_int (nomark _)) (dw_or (dt_not (dt_truth rfl (de_callB (callT_isiT) rfl G.n_isinstance bt_isinstance (da_cons (de_ix rfl hu1 (de_var (pe_var (i := 1) rfl vL)) de_int) (da_cons (de_const (pe_bltn (v := .ty "str") rfl G.n_str bt_str rfl) fun _ => rp_ty) da_nil))))) (dw_or1 (dt_not (dt_truth rfl (de_fz (do_fn0 takes_cx C_is_kind hr (by decide) rfl (da_cons (de_var (pe_var (i := 0) rfl vL)) (da_cons (de_ix rfl hu1 (de_var (pe_var (i := 1) rfl vL)) de_int) da_nil))))))))))) (dss_one (ds_ret (do_of de_bl))) dss_nil) (dss_cons (ds_if (dt_cmp (opT_in rfl hu1) (de_ix rfl hu1 (de_var (pe_var (i := 1) rfl vL)) de_int) (de_tup (da_cons (de_str rfl) (da_cons (de_str rfl) da_nil))) rfl) (dss_one (ds_ret (do_of (de_and (de_cmp (opT_eq rfl hr.units) (de_callB (callT_len rfl) rfl G.n_len bt_len (da_cons (de_var (pe_var (i := 1) rfl vL)) da_nil)) de_int (nomark _)) (de_one (de_fz (do_fn0 takes_cx C_is_kind hr (by decide) rfl (da_cons (de_var (pe_var (i := 0) rfl vL)) (da_cons (de_ix rfl hu1 (de_var (pe_var (i := 1) rfl vL)) de_int) da_nil))))))))) dss_nil) (dss_cons (ds_if (dt_w (dw_or (dt_cmp (opT_ne rfl hr.units) (de_ix rfl hu1 (de_var (pe_var (i := 1) rfl vL)) de_int) (de_str rfl) (nomark _)) (dw_or (dt_cmp (opT_ne rfl hr.units) (de_callB (callT_len rfl) rfl G.n_len bt_len (da_cons (de_var (pe_var (i := 1) rfl vL)) da_nil)) de_int (nomark _)) (dw_or1 (dt_not (dt_truth rfl (de_fz (do_fn0 takes_cx C_is_integer hr (by decide) rfl (da_cons (de_ix rfl hu1 (de_var (pe_var (i := 1) rfl vL)) de_int) (da_cons de_int (da_cons (de_globX rfl G.m_MOST_WIDE) da_nil))))))))))) (dss_one (ds_ret (do_of de_bl))) dss_nil) (dss_one (ds_ret (do_fn0 takes_cx C_is_integer hr (by decide) rfl (da_cons (de_ix rfl hu1 (de_var (pe_var (i := 1) rfl vL)) de_int) (da_cons de_int (da_cons (de_op (opT_sub) (de_ix rfl hu1 (de_var (pe_var (i := 1) rfl vL)) de_int) de_int) da_nil)))))))))
abbrev S_Book___init__ : Stmt := inClass (top 14) 0
theorem sc_Book___init__ : FnScope N_Book___init__ ["self", "kinds", "shape", "rules"] (defScope S_Book___init__) := ⟨rfl, rfl, rfl, by decide +kernel, rfl, by decide +kernel, by decide +kernel⟩
theorem ok_Book___init__ (G : Ax K cl mg) (F : FnM K "__init__" "Book.__init__" S_Book___init__ f fd) (g : Mk K (cl 1) f) (hm : mg "Book" = some (.ref (cl 1))) (C_is_integer : Fn P w K mg base (gam K cl) 1 "is_integer" 3 [] m_is_integer) (C_is_rule : Fn P w K mg base (gam K cl) 2 "is_rule" 2 [] m_is_rule) : Nw' P w K mg base (gam K cl) 3 (cl 1) "Book" 4 m_Book___init__ :=
  mkNw (N := N_Book___init__) (ps := ["self", "kinds", "shape", "rules"]) F g hm sc_Book___init__ (by decide) (by decide) (F.bindsN fun _ _ _ _ _ _ us hl => match us, hl with | [_, _, _, _], _ => rfl) fun cdv A outer s H E hr => by
    have hu1 := hr.units1
    have S := sc_Book___init__
    exact (dss_cons (ds_if (dt_not (dt_truth rfl (de_fz (do_fn0 takes_cx C_is_integer hr (by decide) rfl (da_cons (de_var (pe_var (i := 1) rfl vL)) (da_cons de_int (da_cons (de_callB (callT_len rfl) rfl G.n_len bt_len (da_cons (de_globX rfl G.m_LETTERS) da_nil)) da_nil))))))) (dss_one ds_never) dss_nil) (dss_cons (ds_if (dt_w (dw_or (dt_not (dt_truth rfl (de_callB (callT_isiT) rfl G.n_isinstance bt_isinstance (da_cons (de_var (pe_var (i := 2) rfl vL)) (da_cons (de_const (pe_bltn (v := .ty "str") rfl G.n_str bt_str rfl) fun _ => rp_ty) da_nil))))) (dw_or1 (dt_cmp (opT_notIn rfl hu1) (de_var (pe_var (i := 2) rfl vL)) (de_globX rfl G.m_SHAPES) rfl)))) (dss_one ds_never) dss_nil) (dss_cons (ds_if (dt_w (dw_or (dt_not (dt_truth rfl (de_callB (callT_isiT) rfl G.n_isinstance bt_isinstance (da_cons (de_var (pe_var (i := 3) rfl vL)) (da_cons (de_const (pe_bltn (v := .ty "tuple") rfl G.n_tuple bt_tuple rfl) fun _ => rp_ty) da_nil))))) (dw_or1 (dt_cmp (opT_gt) (de_callB (callT_len rfl) rfl G.n_len bt_len (da_cons (de_var (pe_var (i := 3) rfl vL)) da_nil)) (de_globX rfl G.m_MOST_RULES) (nomark _))))) (dss_one ds_never) dss_nil) (dss_cons (ds_for passes_cx rfl (di_enum rfl rfl G.n_enumerate (da_cons (de_var (pe_var (i := 3) rfl vL)) da_nil)) (dg_tup rfl (dgs_cons (dg_name S.nd rfl lL nio) (dgs_cons (dg_name S.nd rfl lL nio) dgs_nil))) (dss_one (ds_if (dt_not (dt_truth rfl (de_fz (do_fn0 takes_cx C_is_rule hr (by decide) rfl (da_cons (de_var (pe_var (i := 1) rfl vL)) (da_cons (de_var (pe_var (i := 5) rfl vL)) da_nil)))))) (dss_one ds_never) dss_nil))) (dss_cons (ds_setF G.f_many G.n_many_ (fun _ => fldN_len) (pe_var (i := 0) rfl vL) (do_of (de_var (pe_var (i := 1) rfl vL)))) (dss_cons (ds_setF G.f_form G.n_form_ (fun _ => fldN_len) (pe_var (i := 0) rfl vL) (do_of (de_var (pe_var (i := 2) rfl vL)))) (dss_one (ds_setF G.f_rows G.n_rows_ (fun _ => fldN_len) (pe_var (i := 0) rfl vL) (do_of (de_var (pe_var (i := 3) rfl vL)))))))))))
abbrev S_Line___init__ : Stmt := inClass (top 16) 0
theorem sc_Line___init__ : FnScope N_Line___init__ ["self", "text", "at_line"] (defScope S_Line___init__) := ⟨rfl, rfl, rfl, by decide +kernel, rfl, by decide +kernel, by decide +kernel⟩
theorem ok_Line___init__ (G : Ax K cl mg) (F : FnM K "__init__" "Line.__init__" S_Line___init__ f fd) (g : Mk K (cl 2) f) (hm : mg "Line" = some (.ref (cl 2)))  : Nw' P w K mg base (gam K cl) 1 (cl 2) "Line" 3 m_Line___init__ :=
  mkNw (N := N_Line___init__) (ps := ["self", "text", "at_line"]) F g hm sc_Line___init__ (by decide) (by decide) (F.bindsN fun _ _ _ _ _ _ us hl => match us, hl with | [_, _, _], _ => rfl) fun cdv A outer s H E hr => by
    have hu1 := hr.units1
    have S := sc_Line___init__
    exact (dss_cons (ds_setF G.f_words_in G.n_words_in_ (fun _ => fldN_len) (pe_var (i := 0) rfl vL) (do_of (de_fz (do_lc (own := [("word", 3)]) rfl S.nd (di_items rfl (de_fz (do_split (de_var (pe_var (i := 1) rfl vL)) (da_cons (de_str rfl) da_nil) (fun h h2 h3 => pe_bm PySem.F.plainAttrs_str PySem.F.slot_str_split PySem.F.type_str_split h h2 h3)))) (blk_of (N := N_Line___init__) (sc := defScope S_Line___init__) rfl (by decide +kernel) (by decide +kernel) (by decide +kernel) (by decide +kernel)) nios (fun s H C cl fp => dg_mono (dg_name S.nd rfl lL nio) nins) (fun s H C cl fp => (dts_one (dt_cmp (opT_ne rfl hr.units) (de_var (pe_var (i := 3) rfl vL)) (de_str rfl) (nomark _)))) (fun s H C cl fp => (de_var (pe_var (i := 3) rfl vL))))))) (dss_cons (ds_setF G.f_at_line G.n_at_line_ (fun _ => fldN_len) (pe_var (i := 0) rfl vL) (do_of (de_var (pe_var (i := 2) rfl vL)))) (dss_one (ds_setF G.f_spot G.n_spot_ (fun _ => fldN_len) (pe_var (i := 0) rfl vL) (do_of de_int)))))
abbrev S_read : Stmt := top 18
theorem sc_read : FnScope N_read ["text"] (defScope S_read) := ⟨rfl, rfl, rfl, by decide +kernel, rfl, by decide +kernel, by decide +kernel⟩
theorem ok_read (G : Ax K cl mg) (F : FnP K "read" S_read f fd) (g : mg "read" = some (.ref f)) (C_rule_in : Fn P w K mg base (gam K cl) 6 "rule_in" 2 [0] m_rule_in) (C_Line_fail : Mt P w K mg base (gam K cl) 3 (cl 2) "fail" 1 [0] m_Line_fail) (C_Line_finish : Mt P w K mg base (gam K cl) 4 (cl 2) "finish" 1 [0] m_Line_finish) (C_Line_number : Mt P w K mg base (gam K cl) 5 (cl 2) "number" 3 [0] m_Line_number) (C_Line_take : Mt P w K mg base (gam K cl) 4 (cl 2) "take" 2 [0] m_Line_take) (C_Book___init__ : Nw' P w K mg base (gam K cl) 3 (cl 1) "Book" 4 m_Book___init__) (C_Line___init__ : Nw' P w K mg base (gam K cl) 1 (cl 2) "Line" 3 m_Line___init__) : Fn P w K mg base (gam K cl) 7 "read" 1 [] m_read :=
  mkFn (N := N_read) (ps := ["text"]) F g sc_read (by decide) (by decide) (F.bindsN fun _ _ _ _ _ _ us hl => match us, hl with | [_], _ => rfl) fun cdv A outer s H E hr => by
    have hu1 := hr.units1
    have S := sc_read
    exact (dss_cons (ds_par (i := 1) (j := 2) rfl S.nd rfl rfl (by decide) nio nio rfl rfl (dao_cons (do_of (de_fz (do_split (de_var (pe_var (i := 0) rfl vL)) (da_cons (de_str rfl) da_nil) (fun h h2 h3 => pe_bm PySem.F.plainAttrs_str PySem.F.slot_str_split PySem.F.type_str_split h h2 h3)))) (dao_cons (do_lst da_nil) dao_nil)) rfl fun ha => ps_par rfl S.nd rfl rfl (by decide) rfl rfl ha rfl) (dss_cons (ds_setO S.nd rfl lL nio (do_newS takes_cx C_Line___init__ hr (by decide) rfl rfl rfl (da_cons (de_ix rfl hu1 (de_var (pe_var (i := 1) rfl vL)) de_int) (da_cons de_int da_nil)))) (dss_cons (ds_par (i := 4) (j := 5) rfl S.nd rfl rfl (by decide) nio nio rfl rfl (dao_cons (do_of (de_fz (do_mt (pl := _) takes_cx freeW_e C_Line_take G.c_Line a_Line_take (pe_var (i := 3) rfl vL) (by decide) (by decide) hr (by decide) (da_cons (de_globX rfl G.m_SHAPES) da_nil)))) (dao_cons (do_of (de_fz (do_mt (pl := _) takes_cx freeW_e C_Line_number G.c_Line a_Line_number (pe_var (i := 3) rfl vL) (by decide) (by decide) hr (by decide) (da_cons de_int (da_cons (de_callB (callT_len rfl) rfl G.n_len bt_len (da_cons (de_globX rfl G.m_LETTERS) da_nil)) da_nil))))) dao_nil)) rfl fun ha => ps_par rfl S.nd rfl rfl (by decide) rfl rfl ha rfl) (dss_cons (ds_expr (de_fz (do_mt0 (pl := _) takes_cx freeW_e C_Line_finish G.c_Line a_Line_finish (pe_var (i := 3) rfl vL) (by decide) (by decide) hr (by decide)))) (dss_cons (ds_for passes_cx rfl (di_enum rfl rfl G.n_enumerate (da_cons (de_slice rfl (de_var (pe_var (i := 1) rfl vL)) (dp_some de_int) dp_none) da_nil)) (dg_tup rfl (dgs_cons (dg_name S.nd rfl lL nio) (dgs_cons (dg_name S.nd rfl lL nio) dgs_nil))) (dss_cons (ds_setO S.nd rfl lL nio (do_newS takes_cx C_Line___init__ hr (by decide) rfl rfl rfl (da_cons (de_var (pe_var (i := 7) rfl vL)) (da_cons (de_op (opT_add rfl) (de_var (pe_var (i := 6) rfl vL)) de_int) da_nil)))) (dss_cons (ds_if (dt_ro (dt_cmp (opT_eq rfl hr.units) (de_callB (callT_len rfl) rfl G.n_len bt_len (da_cons (de_var (pe_var (i := 2) rfl vL)) da_nil)) (de_globX rfl G.m_MOST_RULES) (nomark _))) (dss_one (ds_expr (de_fz (do_mt0 (pl := _) takes_cx freeW_e C_Line_fail G.c_Line a_Line_fail (pe_var (i := 8) rfl vL) (by decide) (by decide) hr (by decide))))) dss_nil) (dss_one (ds_expr (de_append rfl (pe_var (i := 2) rfl vL) (da_cons (de_fz (do_fn (is := [8]) takes_cx C_rule_in hr (by decide) rfl (by decide) (by decide) (by decide) (by decide) (da_slot (pe_var (i := 8) rfl vL) (da_cons (de_var (pe_var (i := 5) rfl vL)) da_nil)))) da_nil) fun h h2 => pe_bm PySem.F.plainAttrs_list PySem.F.slot_list_append PySem.F.type_list_append h (pe_var (i := 2) rfl vL) h2)))))) (dss_one (ds_ret (do_newS takes_cx C_Book___init__ hr (by decide) rfl rfl rfl (da_cons (de_var (pe_var (i := 5) rfl vL)) (da_cons (de_var (pe_var (i := 4) rfl vL)) (da_cons (de_callTy (callT_tuple) rfl G.n_tuple bt_tuple (da_cons (de_var (pe_var (i := 2) rfl vL)) da_nil)) da_nil)))))))))))
abbrev S__law_answer : Stmt := top 31
theorem sc__law_answer : FnScope N__law_answer ["_law_text"] (defScope S__law_answer) := ⟨rfl, rfl, rfl, by decide +kernel, rfl, by decide +kernel, by decide +kernel⟩
theorem ok__law_answer (G : Ax K cl mg) (F : FnP K "_law_answer" S__law_answer f fd) (g : mg "_law_answer" = some (.ref f)) (C_read : Fn P w K mg base (gam K cl) 7 "read" 1 [] m_read) : Fn P w K mg base (gam K cl) 8 "_law_answer" 1 [] m__law_answer :=
  mkFn (N := N__law_answer) (ps := ["_law_text"]) F g sc__law_answer (by decide) (by decide) (F.bindsN fun _ _ _ _ _ _ us hl => match us, hl with | [_], _ => rfl) fun cdv A outer s H E hr => by
    have hu1 := hr.units1
    have S := sc__law_answer
    exact (dss_cons (ds_set S.nd rfl lL nio de_non) (dss_cons (ds_try rfl rfl S.nd takes_cx (fun _ _ _ _ _ h => h) (fun W pn xe htk hpo => (dss_one (ds_expr (de_fz (do_fn0 htk C_read hr (by decide) rfl (da_cons (de_var (pe_var (i := 0) rfl vL)) da_nil)))))) (.consA (i := 2) rfl rfl nio ⟨rfl, by decide, .inl G.e_InvalidText⟩ G.x_InvalidText (fun n fs a oe cls d g pn hx hp hz hf => by
        obtain rfl : n = 104 := beq_iff_eq.mp hp
        exact (dss_one (ds_set S.nd rfl lL nio (de_ifExp (dt_truth rfl (de_isF (i := 2) G.t_InvalidText.1 hx (by decide) hz hf (by rfl) vL (by rfl) G.n_isinstance (by rfl) G.e_BeadError G.k_InvalidText_BeadError)) (de_tup (da_cons (de_xf (j := 0) (i := 2) G.t_InvalidText.2 G.nx_InvalidText_line hx (by decide) rfl hz hf (by rfl) vL) (da_cons (de_xf (j := 1) (i := 2) G.t_InvalidText.2 G.nx_InvalidText_word hx (by decide) rfl hz hf (by rfl) vL) da_nil))) (de_tup da_nil))))) .nil)) (dss_one (ds_ret (do_of (de_var (pe_var (i := 1) rfl vL)))))))
abbrev S__law_rows : Stmt := top 28
theorem sc__law_rows : FnScope N__law_rows ["_law_words", "_law_kinds"] (defScope S__law_rows) := ⟨rfl, rfl, rfl, by decide +kernel, rfl, by decide +kernel, by decide +kernel⟩
theorem ok__law_rows (G : Ax K cl mg) (F : FnP K "_law_rows" S__law_rows f fd) (g : mg "_law_rows" = some (.ref f))  : Fn P w K mg base (gam K cl) 1 "_law_rows" 2 [] m__law_rows :=
  mkFn (N := N__law_rows) (ps := ["_law_words", "_law_kinds"]) F g sc__law_rows (by decide) (by decide) (F.bindsN fun _ _ _ _ _ _ us hl => match us, hl with | [_, _], _ => rfl) fun cdv A outer s H E hr => by
    have hu1 := hr.units1
    have S := sc__law_rows
    exact (dss_cons (ds_par (i := 2) (j := 3) rfl S.nd rfl rfl (by decide) nio nio rfl rfl (dao_cons (do_of (de_fz (do_callTy (callN_list2 rfl rfl) rfl G.n_list bt_list (da_cons (de_slice rfl (de_str rfl) dp_none (dp_some (de_var (pe_var (i := 1) rfl vL)))) da_nil)))) (dao_cons (do_of (de_fz (do_lst (da_cons (de_fz (do_lst (da_cons (de_str rfl) (da_cons (de_str rfl) (da_cons (de_str rfl) da_nil))))) da_nil)))) dao_nil)) rfl fun ha => ps_par rfl S.nd rfl rfl (by decide) rfl rfl ha rfl) (dss_cons (ds_if (dt_cmp (opT_eq rfl hr.units) (de_slice rfl (de_var (pe_var (i := 0) rfl vL)) dp_none (dp_some de_int)) (de_fz (do_lst (da_cons (de_str rfl) da_nil))) (nomark _)) (dss_cons (ds_set S.nd rfl lC nio (de_ifExp (dt_cmp (opT_inD rfl (room65 hr)) (de_slice rfl (de_var (pe_var (i := 0) rfl vL)) (dp_some de_int) (dp_some de_int)) (de_fz (do_lst (da_cons (de_fz (do_lst (da_cons (de_str rfl) da_nil))) (da_cons (de_fz (do_lst (da_cons (de_str rfl) da_nil))) (da_cons (de_fz (do_lst (da_cons (de_str rfl) da_nil))) da_nil))))) rfl) (de_slice rfl (de_var (pe_var (i := 0) rfl vL)) (dp_some de_int) (dp_some de_int)) (de_fz (do_lst (da_cons (de_str rfl) da_nil))))) (dss_cons (ds_setLc (own := [("_law_wide", 6)]) (i := 5) nio rfl S.nd rfl rfl rfl (di_items rfl (de_fz (do_lst (da_cons de_int (da_cons de_int (da_cons de_int da_nil)))))) (blk_of (N := N__law_rows) (sc := defScope S__law_rows) rfl (by decide +kernel) (by decide +kernel) (by decide +kernel) (by decide +kernel)) nios (fun s H C cl fp => dg_mono (dg_name S.nd rfl lL nio) nins) (fun s H C cl fp => (dts_one (dt_cmp (opT_gt) (de_var (pe_var (i := 6) rfl vL)) (de_callTy (callT_intS) rfl G.n_int bt_int (da_cons (de_ix rfl hu1 (de_var (pe_var (i := 4) rfl vC)) de_int) da_nil)) (nomark _)))) (fun s H C cl fp => (de_callTy (callT_str) rfl G.n_str bt_str (da_cons (de_var (pe_var (i := 6) rfl vL)) da_nil)))) (dss_one (ds_ret (do_of (de_op (opT_add rfl) (de_var (pe_var (i := 3) rfl vL)) (de_fz (do_lst (da_cons (de_var (pe_var (i := 2) rfl vL)) (da_cons (de_fz (do_lst (da_cons (de_str rfl) (da_cons (de_str rfl) (da_cons (de_str rfl) (da_cons (de_str rfl) da_nil)))))) (da_cons (de_var (pe_var (i := 5) rfl vL)) da_nil))))))))))) dss_nil) (dss_one (ds_ret (do_of (de_op (opT_add rfl) (de_var (pe_var (i := 3) rfl vL)) (de_fz (do_lst (da_cons (de_var (pe_var (i := 2) rfl vL)) (da_cons (de_var (pe_var (i := 2) rfl vL)) da_nil))))))))))
abbrev S__law_word : Stmt := top 29
theorem sc__law_word : FnScope N__law_word ["_law_words", "_law_rows_here"] (defScope S__law_word) := ⟨rfl, rfl, rfl, by decide +kernel, rfl, by decide +kernel, by decide +kernel⟩
theorem ok__law_word (G : Ax K cl mg) (F : FnP K "_law_word" S__law_word f fd) (g : mg "_law_word" = some (.ref f))  : Fn P w K mg base (gam K cl) 1 "_law_word" 2 [] m__law_word :=
  mkFn (N := N__law_word) (ps := ["_law_words", "_law_rows_here"]) F g sc__law_word (by decide) (by decide) (F.bindsN fun _ _ _ _ _ _ us hl => match us, hl with | [_, _], _ => rfl) fun cdv A outer s H E hr => by
    have hu1 := hr.units1
    have S := sc__law_word
    exact (dss_cons (ds_for passes_cx rfl (di_rng1 rfl G.n_range (da_cons (de_callB (callT_len rfl) rfl G.n_len bt_len (da_cons (de_var (pe_var (i := 1) rfl vL)) da_nil)) da_nil)) (dg_name S.nd rfl lL nio) (dss_one (ds_if (dt_w (dw_or (dt_cmp (opT_ge) (de_var (pe_var (i := 2) rfl vL)) (de_callB (callT_len rfl) rfl G.n_len bt_len (da_cons (de_var (pe_var (i := 0) rfl vL)) da_nil)) (nomark _)) (dw_or1 (dt_cmp (opT_notIn rfl hu1) (de_ix rfl hu1 (de_var (pe_var (i := 0) rfl vL)) (de_var (pe_var (i := 2) rfl vL))) (de_ix rfl hu1 (de_var (pe_var (i := 1) rfl vL)) (de_var (pe_var (i := 2) rfl vL))) rfl)))) (dss_one (ds_ret (do_of (de_op (opT_add rfl) (de_var (pe_var (i := 2) rfl vL)) de_int)))) dss_nil))) (dss_one (ds_ret (do_ifExp (dt_cmp (opT_gt) (de_callB (callT_len rfl) rfl G.n_len bt_len (da_cons (de_var (pe_var (i := 0) rfl vL)) da_nil)) (de_callB (callT_len rfl) rfl G.n_len bt_len (da_cons (de_var (pe_var (i := 1) rfl vL)) da_nil)) (nomark _)) (do_of (de_op (opT_add rfl) (de_callB (callT_len rfl) rfl G.n_len bt_len (da_cons (de_var (pe_var (i := 1) rfl vL)) da_nil)) de_int)) (do_of de_non)))))
abbrev S__law_due : Stmt := top 30
theorem sc__law_due : FnScope N__law_due ["_law_lines_here"] (defScope S__law_due) := ⟨rfl, rfl, rfl, by decide +kernel, rfl, by decide +kernel, by decide +kernel⟩
theorem ok__law_due (G : Ax K cl mg) (F : FnP K "_law_due" S__law_due f fd) (g : mg "_law_due" = some (.ref f)) (C__law_rows : Fn P w K mg base (gam K cl) 1 "_law_rows" 2 [] m__law_rows) (C__law_word : Fn P w K mg base (gam K cl) 1 "_law_word" 2 [] m__law_word) : Fn P w K mg base (gam K cl) 2 "_law_due" 1 [] m__law_due :=
  mkFn (N := N__law_due) (ps := ["_law_lines_here"]) F g sc__law_due (by decide) (by decide) (F.bindsN fun _ _ _ _ _ _ us hl => match us, hl with | [_], _ => rfl) fun cdv A outer s H E hr => by
    have hu1 := hr.units1
    have S := sc__law_due
    exact (dss_cons (ds_set S.nd rfl lL nio de_int) (dss_cons (ds_for passes_cx rfl (di_rng1 rfl G.n_range (da_cons (de_callB (callT_len rfl) rfl G.n_len bt_len (da_cons (de_var (pe_var (i := 0) rfl vL)) da_nil)) da_nil)) (dg_name S.nd rfl lL nio) (dss_cons (ds_setLc (own := [("_law_word_here", 4)]) (i := 3) nio rfl S.nd rfl rfl rfl (di_items rfl (de_fz (do_split (de_ix rfl hu1 (de_var (pe_var (i := 0) rfl vL)) (de_var (pe_var (i := 2) rfl vL))) (da_cons (de_str rfl) da_nil) (fun h h2 h3 => pe_bm PySem.F.plainAttrs_str PySem.F.slot_str_split PySem.F.type_str_split h h2 h3)))) (blk_of (N := N__law_due) (sc := defScope S__law_due) rfl (by decide +kernel) (by decide +kernel) (by decide +kernel) (by decide +kernel)) nios (fun s H C cl fp => dg_mono (dg_name S.nd rfl lL nio) nins) (fun s H C cl fp => (dts_one (dt_cmp (opT_ne rfl hr.units) (de_var (pe_var (i := 4) rfl vL)) (de_str rfl) (nomark _)))) (fun s H C cl fp => (de_var (pe_var (i := 4) rfl vL)))) (dss_cons (ds_if (dt_cmp (opT_eq rfl hr.units) (de_var (pe_var (i := 2) rfl vL)) de_int (nomark _)) (dss_cons (ds_set S.nd rfl lL nio (de_fz (do_fn0 takes_cx C__law_word hr (by decide) rfl (da_cons (de_var (pe_var (i := 3) rfl vL)) (da_cons (de_fz (do_lst (da_cons (de_fz (do_lst (da_cons (de_str rfl) (da_cons (de_str rfl) da_nil)))) (da_cons (de_fz (do_lst (da_cons (de_str rfl) (da_cons (de_str rfl) da_nil)))) da_nil)))) da_nil))))) (dss_one (ds_set S.nd rfl lL nio (de_ifExp (dt_cmp (opT_eq rfl hr.units) (de_slice rfl (de_var (pe_var (i := 3) rfl vL)) (dp_some de_int) (dp_some de_int)) (de_fz (do_lst (da_cons (de_str rfl) da_nil))) (nomark _)) de_int de_int)))) (dss_one (ds_set S.nd rfl lL nio (de_ifExp (dt_cmp (opT_gt) (de_var (pe_var (i := 2) rfl vL)) de_int (nomark _)) de_int (de_fz (do_fn0 takes_cx C__law_word hr (by decide) rfl (da_cons (de_var (pe_var (i := 3) rfl vL)) (da_cons (de_fz (do_fn0 takes_cx C__law_rows hr (by decide) rfl (da_cons (de_var (pe_var (i := 3) rfl vL)) (da_cons (de_var (pe_var (i := 1) rfl vL)) da_nil)))) da_nil)))))))) (dss_one (ds_if (dt_cmp (opT_notN) (de_var (pe_var (i := 5) rfl vL)) de_non (nomark _)) (dss_one (ds_ret (do_of (de_tup (da_cons (de_op (opT_add rfl) (de_var (pe_var (i := 2) rfl vL)) de_int) (da_cons (de_var (pe_var (i := 5) rfl vL)) da_nil)))))) dss_nil))))) (dss_one (ds_ret (do_of de_non)))))
abbrev S__law_lines : Stmt := top 27
theorem sc__law_lines : FnScope N__law_lines ["_law_kinds", "_law_shape_here", "_law_rules_here"] (defScope S__law_lines) := ⟨rfl, rfl, rfl, by decide +kernel, rfl, by decide +kernel, by decide +kernel⟩
theorem ok__law_lines (G : Ax K cl mg) (F : FnP K "_law_lines" S__law_lines f fd) (g : mg "_law_lines" = some (.ref f))  : Fn P w K mg base (gam K cl) 1 "_law_lines" 3 [] m__law_lines :=
  mkFn (N := N__law_lines) (ps := ["_law_kinds", "_law_shape_here", "_law_rules_here"]) F g sc__law_lines (by decide) (by decide) (F.bindsN fun _ _ _ _ _ _ us hl => match us, hl with | [_, _, _], _ => rfl) fun cdv A outer s H E hr => by
    have hu1 := hr.units1
    have S := sc__law_lines
    exact (dss_cons (ds_set S.nd rfl lL nio (de_op (opT_add rfl) (de_fz (do_lst (da_cons (de_tup (da_cons (de_var (pe_var (i := 1) rfl vL)) (da_cons (de_var (pe_var (i := 0) rfl vL)) da_nil))) da_nil))) (de_fz (do_callTy (callN_list2 rfl rfl) rfl G.n_list bt_list (da_cons (de_var (pe_var (i := 2) rfl vL)) da_nil))))) (dss_one (ds_ret (do_lc (own := [("_law_row", 5)]) rfl S.nd (di_items rfl (de_var (pe_var (i := 3) rfl vL))) (blk_of (N := N__law_lines) (sc := defScope S__law_lines) rfl (by decide +kernel) (by decide +kernel) (by decide +kernel) (by decide +kernel)) nios (fun s H C cl fp => dg_mono (dg_name S.nd rfl lL nio) nins) (fun s H C cl fp => dts_nil) (fun s H C cl fp => (de_join (de_str rfl) (da_cons (de_fz (do_lc (own := [("_law_item", 4)]) rfl S.nd (di_items rfl (de_var (pe_var (i := 5) rfl vL))) (blk_of0 (N := N__law_lines) rfl (by decide +kernel) (by decide +kernel) (by decide +kernel) (by decide +kernel)) nios (fun s H C cl fp => dg_mono (dg_name S.nd rfl lL nio) nins) (fun s H C cl fp => dts_nil) (fun s H C cl fp => (de_callTy (callT_str) rfl G.n_str bt_str (da_cons (de_var (pe_var (i := 4) rfl vL)) da_nil))))) da_nil) (fun h h2 h3 => pe_bm PySem.F.plainAttrs_str PySem.F.slot_str_join PySem.F.type_str_join h h2 h3)))))))
abbrev S__law_mix : Stmt := top 20
theorem sc__law_mix : FnScope N__law_mix ["_law_script", "_law_seed"] (defScope S__law_mix) := ⟨rfl, rfl, rfl, by decide +kernel, rfl, by decide +kernel, by decide +kernel⟩
theorem ok__law_mix (G : Ax K cl mg) (F : FnP K "_law_mix" S__law_mix f fd) (g : mg "_law_mix" = some (.ref f))  : Fn P w K mg base (gam K cl) 1 "_law_mix" 2 [] m__law_mix :=
  mkFn (N := N__law_mix) (ps := ["_law_script", "_law_seed"]) F g sc__law_mix (by decide) (by decide) (F.bindsN fun _ _ _ _ _ _ us hl => match us, hl with | [_, _], _ => rfl) fun cdv A outer s H E hr => by
    have hu1 := hr.units1
    have S := sc__law_mix
    exact (dss_cons (ds_set S.nd rfl lL nio (de_var (pe_var (i := 1) rfl vL))) (dss_cons (ds_for passes_cx rfl (di_items rfl (de_var (pe_var (i := 0) rfl vL))) (dg_name S.nd rfl lL nio) (dss_one (ds_set S.nd rfl lL nio (de_op (opT_mod) (de_callTy (callT_intS) rfl G.n_int bt_int (da_cons (de_op (opT_add rfl) (de_op (opT_add rfl) (de_op (opT_mul) (de_var (pe_var (i := 2) rfl vL)) de_int) (de_op (opT_mod) (de_callTy (callT_intS) rfl G.n_int bt_int (da_cons (de_var (pe_var (i := 3) rfl vL)) da_nil)) de_int)) de_int) da_nil)) de_int)))) (dss_one (ds_ret (do_lstO (dao_cons (do_of (de_var (pe_var (i := 2) rfl vL))) (dao_cons (do_callTy (callN_list2 rfl rfl) rfl G.n_list bt_list (da_cons (de_var (pe_var (i := 0) rfl vL)) da_nil)) (dao_cons (do_of de_int) dao_nil))))))))
abbrev S__law_next : Stmt := top 21
theorem sc__law_next : FnScope N__law_next ["_law_h", "_law_cap"] (defScope S__law_next) := ⟨rfl, rfl, rfl, by decide +kernel, rfl, by decide +kernel, by decide +kernel⟩
theorem ok__law_next (G : Ax K cl mg) (F : FnP K "_law_next" S__law_next f fd) (g : mg "_law_next" = some (.ref f))  : Fn P w K mg base (gam K cl) 1 "_law_next" 2 [0] m__law_next :=
  mkFn (N := N__law_next) (ps := ["_law_h", "_law_cap"]) F g sc__law_next (by decide) (by decide) (F.bindsN fun _ _ _ _ _ _ us hl => match us, hl with | [_, _], _ => rfl) fun cdv A outer s H E hr => by
    have hu1 := hr.units1
    have S := sc__law_next
    exact (dss_cons (ds_set S.nd rfl lL nio (de_ro (de_ix rfl hu1 (de_op (opT_add rfl) (de_ix rfl hu1 (de_var (pe_var (i := 0) rfl vL)) de_int) (de_fz (do_lst (da_cons de_int da_nil)))) (de_op (opT_mod) (de_callTy (callT_intS) rfl G.n_int bt_int (da_cons (de_ix rfl hu1 (de_var (pe_var (i := 0) rfl vL)) de_int) da_nil)) (de_callB (callT_max rfl) rfl G.n_max bt_max (da_cons de_int (da_cons (de_callB (callT_len rfl) rfl G.n_len bt_len (da_cons (de_ix rfl hu1 (de_var (pe_var (i := 0) rfl vL)) de_int) da_nil)) da_nil))))))) (dss_cons (ds_if (dt_cmp (opT_ge) (de_var (pe_var (i := 2) rfl vL)) (de_op (opT_pow) de_int de_int) (nomark _)) (dss_cons (ds_setLL (i := 0) (j := 1) (de_op (opT_mod) (de_callTy (callT_intS) rfl G.n_int bt_int (da_cons (de_ix rfl hu1 (de_var (pe_var (i := 0) rfl vL)) de_int) da_nil)) (de_callB (callT_len rfl) rfl G.n_len bt_len (da_cons (de_ix rfl hu1 (de_var (pe_var (i := 0) rfl vL)) de_int) da_nil))) (do_of (de_op (opT_fdiv) (de_var (pe_var (i := 2) rfl vL)) (de_var (pe_var (i := 1) rfl vL)))) fun he hk => ps_asg he (pg_sub (pe_ixC (pe_var (i := 0) rfl vL)) hk set_list)) (dss_one (ds_ret (do_of (de_op (opT_mod) (de_callTy (callT_intS) rfl G.n_int bt_int (da_cons (de_var (pe_var (i := 2) rfl vL)) da_nil)) (de_var (pe_var (i := 1) rfl vL))))))) dss_nil) (dss_cons (ds_setL (pe_var (i := 0) rfl vL) de_int (do_of (de_op (opT_mod) (de_ro (de_callTy (callT_intS) rfl G.n_int bt_int (da_cons (de_op (opT_add rfl) (de_op (opT_add rfl) (de_op (opT_mul) (de_ix rfl hu1 (de_var (pe_var (i := 0) rfl vL)) de_int) de_int) (de_op (opT_mul) (de_var (pe_var (i := 2) rfl vL)) de_int)) de_int) da_nil))) de_int)) fun he hk => ps_asg he (pg_sub (pe_var (i := 0) rfl vL) hk set_list)) (dss_cons (ds_setL (pe_var (i := 0) rfl vL) de_int (do_of (de_op (opT_add rfl) (de_ro (de_ix rfl hu1 (de_var (pe_var (i := 0) rfl vL)) de_int)) de_int)) fun he hk => ps_asg he (pg_sub (pe_var (i := 0) rfl vL) hk set_list)) (dss_one (ds_ret (do_of (de_op (opT_mod) (de_ro (de_callTy (callT_intS) rfl G.n_int bt_int (da_cons (de_op (opT_fdiv) (de_ix rfl hu1 (de_var (pe_var (i := 0) rfl vL)) de_int) de_int) da_nil))) (de_var (pe_var (i := 1) rfl vL))))))))))
abbrev S__law_pick : Stmt := top 23
theorem sc__law_pick : FnScope N__law_pick ["_law_h", "_law_things"] (defScope S__law_pick) := ⟨rfl, rfl, rfl, by decide +kernel, rfl, by decide +kernel, by decide +kernel⟩
theorem ok__law_pick (G : Ax K cl mg) (F : FnP K "_law_pick" S__law_pick f fd) (g : mg "_law_pick" = some (.ref f)) (C__law_next : Fn P w K mg base (gam K cl) 1 "_law_next" 2 [0] m__law_next) : Fn P w K mg base (gam K cl) 2 "_law_pick" 2 [0] m__law_pick :=
  mkFn (N := N__law_pick) (ps := ["_law_h", "_law_things"]) F g sc__law_pick (by decide) (by decide) (F.bindsN fun _ _ _ _ _ _ us hl => match us, hl with | [_, _], _ => rfl) fun cdv A outer s H E hr => by
    have hu1 := hr.units1
    have S := sc__law_pick
    exact (dss_one (ds_ret (do_of (de_ix rfl hu1 (de_var (pe_var (i := 1) rfl vL)) (de_fz (do_fn (is := [0]) takes_cx C__law_next hr (by decide) rfl (by decide) (by decide) (by decide) (by decide) (da_slot (pe_var (i := 0) rfl vL) (da_cons (de_callB (callT_len rfl) rfl G.n_len bt_len (da_cons (de_var (pe_var (i := 1) rfl vL)) da_nil)) da_nil))))))))
abbrev S__law_rule : Stmt := top 24
theorem sc__law_rule : FnScope N__law_rule ["_law_h", "_law_kinds"] (defScope S__law_rule) := ⟨rfl, rfl, rfl, by decide +kernel, rfl, by decide +kernel, by decide +kernel⟩
theorem ok__law_rule (G : Ax K cl mg) (F : FnP K "_law_rule" S__law_rule f fd) (g : mg "_law_rule" = some (.ref f)) (C__law_next : Fn P w K mg base (gam K cl) 1 "_law_next" 2 [0] m__law_next) (C__law_pick : Fn P w K mg base (gam K cl) 2 "_law_pick" 2 [0] m__law_pick) : Fn P w K mg base (gam K cl) 3 "_law_rule" 2 [0] m__law_rule :=
  mkFn (N := N__law_rule) (ps := ["_law_h", "_law_kinds"]) F g sc__law_rule (by decide) (by decide) (F.bindsN fun _ _ _ _ _ _ us hl => match us, hl with | [_, _], _ => rfl) fun cdv A outer s H E hr => by
    have hu1 := hr.units1
    have S := sc__law_rule
    exact (dss_cons (ds_par3 (i := 2) (j := 3) (l := 4) (by decide) (by decide) (by decide) nio nio nio (dao_cons (do_of (de_fz (do_fn (is := [0]) takes_cx C__law_pick hr (by decide) rfl (by decide) (by decide) (by decide) (by decide) (da_slot (pe_var (i := 0) rfl vL) (da_cons (de_fz (do_lst (da_cons (de_str rfl) (da_cons (de_str rfl) (da_cons (de_str rfl) (da_cons (de_str rfl) da_nil)))))) da_nil))))) (dao_cons (do_of (de_fz (do_fn (is := [0]) takes_cx C__law_next hr (by decide) rfl (by decide) (by decide) (by decide) (by decide) (da_slot (pe_var (i := 0) rfl vL) (da_cons (de_var (pe_var (i := 1) rfl vL)) da_nil))))) (dao_cons (do_of (de_fz (do_fn (is := [0]) takes_cx C__law_next hr (by decide) rfl (by decide) (by decide) (by decide) (by decide) (da_slot (pe_var (i := 0) rfl vL) (da_cons (de_var (pe_var (i := 1) rfl vL)) da_nil))))) dao_nil))) fun ha => ps_par3 rfl S.nd rfl rfl rfl (by decide) (by decide) (by decide) rfl rfl rfl ha rfl) (dss_cons (ds_if (dt_cmp (opT_eq rfl hr.units) (de_var (pe_var (i := 2) rfl vL)) (de_str rfl) (nomark _)) (dss_cons (ds_set S.nd rfl lL nio (de_op (opT_add rfl) de_int (de_fz (do_fn (is := [0]) takes_cx C__law_next hr (by decide) rfl (by decide) (by decide) (by decide) (by decide) (da_slot (pe_var (i := 0) rfl vL) (da_cons de_int da_nil)))))) (dss_one (ds_ret (do_of (de_tup (da_cons (de_var (pe_var (i := 2) rfl vL)) (da_cons (de_ix rfl hu1 (de_str rfl) (de_var (pe_var (i := 3) rfl vL))) (da_cons (de_fz (do_fn (is := [0]) takes_cx C__law_next hr (by decide) rfl (by decide) (by decide) (by decide) (by decide) (da_slot (pe_var (i := 0) rfl vL) (da_cons (de_var (pe_var (i := 5) rfl vL)) da_nil)))) (da_cons (de_var (pe_var (i := 5) rfl vL)) da_nil))))))))) dss_nil) (dss_one (ds_ret (do_of (de_tup (da_cons (de_var (pe_var (i := 2) rfl vL)) (da_cons (de_ix rfl hu1 (de_str rfl) (de_var (pe_var (i := 3) rfl vL))) (da_cons (de_ix rfl hu1 (de_str rfl) (de_var (pe_var (i := 4) rfl vL))) da_nil)))))))))
abbrev S__law_rules : Stmt := top 25
theorem sc__law_rules : FnScope N__law_rules ["_law_h", "_law_kinds"] (defScope S__law_rules) := ⟨rfl, rfl, rfl, by decide +kernel, rfl, by decide +kernel, by decide +kernel⟩
theorem ok__law_rules (G : Ax K cl mg) (F : FnP K "_law_rules" S__law_rules f fd) (g : mg "_law_rules" = some (.ref f)) (C__law_pick : Fn P w K mg base (gam K cl) 2 "_law_pick" 2 [0] m__law_pick) (C__law_rule : Fn P w K mg base (gam K cl) 3 "_law_rule" 2 [0] m__law_rule) : Fn P w K mg base (gam K cl) 4 "_law_rules" 2 [0] m__law_rules :=
  mkFn (N := N__law_rules) (ps := ["_law_h", "_law_kinds"]) F g sc__law_rules (by decide) (by decide) (F.bindsN fun _ _ _ _ _ _ us hl => match us, hl with | [_, _], _ => rfl) fun cdv A outer s H E hr => by
    have hu1 := hr.units1
    have S := sc__law_rules
    exact (dss_one (ds_ret (do_of (de_callTy (callT_tuple) rfl G.n_tuple bt_tuple (da_cons (de_fz (do_lc (own := [("_law_k", 2)]) rfl S.nd (di_rng1 rfl G.n_range (da_cons (de_fz (do_fn (is := [0]) takes_cx C__law_pick hr (by decide) rfl (by decide) (by decide) (by decide) (by decide) (da_slot (pe_var (i := 0) rfl vC) (da_cons (de_fz (do_lst (da_cons de_int (da_cons de_int (da_cons de_int (da_cons de_int (da_cons de_int (da_cons de_int da_nil)))))))) da_nil)))) da_nil)) (blk_of (N := N__law_rules) (sc := defScope S__law_rules) rfl (by decide +kernel) (by decide +kernel) (by decide +kernel) (by decide +kernel)) nios (fun s H C cl fp => dg_mono (dg_name S.nd rfl lL nio) nins) (fun s H C cl fp => dts_nil) (fun s H C cl fp => (de_fz (do_fn (is := [0]) takes_nox C__law_rule hr (by decide) rfl (by decide) (by decide) (by decide) (by decide) (da_slot (pe_var (i := 0) rfl vC) (da_cons (de_var (pe_var (i := 1) rfl vC)) da_nil))))))) da_nil)))))
abbrev S__law_shape : Stmt := top 26
theorem sc__law_shape : FnScope N__law_shape ["_law_h"] (defScope S__law_shape) := ⟨rfl, rfl, rfl, by decide +kernel, rfl, by decide +kernel, by decide +kernel⟩
theorem ok__law_shape (G : Ax K cl mg) (F : FnP K "_law_shape" S__law_shape f fd) (g : mg "_law_shape" = some (.ref f)) (C__law_pick : Fn P w K mg base (gam K cl) 2 "_law_pick" 2 [0] m__law_pick) : Fn P w K mg base (gam K cl) 3 "_law_shape" 1 [0] m__law_shape :=
  mkFn (N := N__law_shape) (ps := ["_law_h"]) F g sc__law_shape (by decide) (by decide) (F.bindsN fun _ _ _ _ _ _ us hl => match us, hl with | [_], _ => rfl) fun cdv A outer s H E hr => by
    have hu1 := hr.units1
    have S := sc__law_shape
    exact (dss_one (ds_ret (do_fn (is := [0]) takes_cx C__law_pick hr (by decide) rfl (by decide) (by decide) (by decide) (by decide) (da_slot (pe_var (i := 0) rfl vL) (da_cons (de_fz (do_lst (da_cons (de_str rfl) (da_cons (de_str rfl) da_nil)))) da_nil)))))
abbrev S_law : Stmt := top 32
theorem sc_law : FnScope N_law ["_law_script"] (defScope S_law) := ⟨rfl, rfl, rfl, by decide +kernel, rfl, by decide +kernel, by decide +kernel⟩
theorem ok_law (G : Ax K cl mg) (F : FnP K "law" S_law f fd) (g : mg "law" = some (.ref f)) (C__law_alike : Fn P w K mg base (gam K cl) 21 "_law_alike" 2 [] (m__law_alike 20)) (C__law_answer : Fn P w K mg base (gam K cl) 8 "_law_answer" 1 [] m__law_answer) (C__law_due : Fn P w K mg base (gam K cl) 2 "_law_due" 1 [] m__law_due) (C__law_lines : Fn P w K mg base (gam K cl) 1 "_law_lines" 3 [] m__law_lines) (C__law_mix : Fn P w K mg base (gam K cl) 1 "_law_mix" 2 [] m__law_mix) (C__law_next : Fn P w K mg base (gam K cl) 1 "_law_next" 2 [0] m__law_next) (C__law_pick : Fn P w K mg base (gam K cl) 2 "_law_pick" 2 [0] m__law_pick) (C__law_rules : Fn P w K mg base (gam K cl) 4 "_law_rules" 2 [0] m__law_rules) (C__law_shape : Fn P w K mg base (gam K cl) 3 "_law_shape" 1 [0] m__law_shape) : FnOk P w K mg base (L2.CX P w) 22 f fd ["_law_script"] (spM (gam K cl) 1 [] m_law) :=
  fn_T (N := N_law) (io := []) F sc_law (by decide) (by decide) fun cdv A outer s H E hr => by
    have hu1 := hr.units1
    have S := sc_law
    exact (dss_cons (ds_setO S.nd rfl lL nio (do_fn0 takes_cx C__law_mix hr (by decide) rfl (da_cons (de_var (pe_var (i := 0) rfl vL)) (da_cons de_int da_nil)))) (dss_cons (ds_set S.nd rfl lL nio (de_fz (do_lst (da_cons (de_str rfl) (da_cons (de_str rfl) (da_cons (de_str rfl) (da_cons (de_str rfl) (da_cons (de_str rfl) (da_cons (de_str rfl) (da_cons (de_str rfl) (da_cons (de_str rfl) (da_cons (de_str rfl) (da_cons (de_str rfl) (da_cons (de_str rfl) (da_cons (de_str rfl) (da_cons (de_str rfl) da_nil)))))))))))))))) (dss_cons (ds_set S.nd rfl lL nio (de_op (opT_add rfl) (de_var (pe_var (i := 2) rfl vL)) (de_fz (do_lst (da_cons (de_str rfl) (da_cons (de_str rfl) (da_cons (de_str rfl) da_nil))))))) (dss_cons (ds_for passes_cx rfl (di_rng1 rfl G.n_range (da_cons de_int da_nil)) (dg_name S.nd rfl lL nio) (dss_cons (ds_set S.nd rfl lL nio (de_op (opT_add rfl) de_int (de_fz (do_fn (is := [1]) takes_cx C__law_next hr (by decide) rfl (by decide) (by decide) (by decide) (by decide) (da_slot (pe_var (i := 1) rfl vL) (da_cons de_int da_nil)))))) (dss_cons (ds_set S.nd rfl lL nio (de_fz (do_fn0 takes_cx C__law_lines hr (by decide) rfl (da_cons (de_var (pe_var (i := 4) rfl vL)) (da_cons (de_fz (do_fn (is := [1]) takes_cx C__law_shape hr (by decide) rfl (by decide) (by decide) (by decide) (by decide) (da_slot (pe_var (i := 1) rfl vL) da_nil))) (da_cons (de_fz (do_fn (is := [1]) takes_cx C__law_rules hr (by decide) rfl (by decide) (by decide) (by decide) (by decide) (da_slot (pe_var (i := 1) rfl vL) (da_cons (de_var (pe_var (i := 4) rfl vL)) da_nil)))) da_nil)))))) (dss_cons (ds_for passes_cx rfl (di_rng1 rfl G.n_range (da_cons (de_op (opT_add rfl) de_int (de_fz (do_fn (is := [1]) takes_cx C__law_next hr (by decide) rfl (by decide) (by decide) (by decide) (by decide) (da_slot (pe_var (i := 1) rfl vL) (da_cons de_int da_nil))))) da_nil)) (dg_name S.nd rfl lL nio) (dss_cons (ds_par (i := 7) (j := 8) rfl S.nd rfl rfl (by decide) nio nio rfl rfl (dao_cons (do_of (de_fz (do_fn (is := [1]) takes_cx C__law_next hr (by decide) rfl (by decide) (by decide) (by decide) (by decide) (da_slot (pe_var (i := 1) rfl vL) (da_cons (de_callB (callT_len rfl) rfl G.n_len bt_len (da_cons (de_var (pe_var (i := 5) rfl vL)) da_nil)) da_nil))))) (dao_cons (do_of (de_fz (do_fn (is := [1]) takes_cx C__law_next hr (by decide) rfl (by decide) (by decide) (by decide) (by decide) (da_slot (pe_var (i := 1) rfl vL) (da_cons de_int da_nil))))) dao_nil)) rfl fun ha => ps_par rfl S.nd rfl rfl (by decide) rfl rfl ha rfl) (dss_cons (ds_set S.nd rfl lL nio (de_fz (do_split (de_ix rfl hu1 (de_var (pe_var (i := 5) rfl vL)) (de_var (pe_var (i := 7) rfl vL))) (da_cons (de_str rfl) da_nil) (fun h h2 h3 => pe_bm PySem.F.plainAttrs_str PySem.F.slot_str_split PySem.F.type_str_split h h2 h3)))) (dss_cons (ds_set S.nd rfl lL nio (de_fz (do_fn (is := [1]) takes_cx C__law_next hr (by decide) rfl (by decide) (by decide) (by decide) (by decide) (da_slot (pe_var (i := 1) rfl vL) (da_cons (de_op (opT_add rfl) (de_callB (callT_len rfl) rfl G.n_len bt_len (da_cons (de_var (pe_var (i := 9) rfl vL)) da_nil)) de_int) da_nil))))) (dss_one (ds_if (dt_cmp (opT_lt) (de_var (pe_var (i := 8) rfl vL)) de_int (nomark _)) (dss_cons (ds_par (i := 11) (j := 12) rfl S.nd rfl rfl (by decide) nio nio rfl rfl (dao_cons (do_of (de_fz (do_fn (is := [1]) takes_cx C__law_pick hr (by decide) rfl (by decide) (by decide) (by decide) (by decide) (da_slot (pe_var (i := 1) rfl vL) (da_cons (de_var (pe_var (i := 2) rfl vL)) da_nil))))) (dao_cons (do_of (de_slice rfl (de_var (pe_var (i := 9) rfl vL)) (dp_some (de_op (opT_add rfl) (de_var (pe_var (i := 10) rfl vL)) (de_var (pe_var (i := 8) rfl vL)))) dp_none)) dao_nil)) rfl fun ha => ps_par rfl S.nd rfl rfl (by decide) rfl rfl ha rfl) (dss_cons (ds_set S.nd rfl lL nio (de_join (de_str rfl) (da_cons (de_op (opT_add rfl) (de_op (opT_add rfl) (de_slice rfl (de_var (pe_var (i := 9) rfl vL)) dp_none (dp_some (de_var (pe_var (i := 10) rfl vL)))) (de_fz (do_lst (da_cons (de_var (pe_var (i := 11) rfl vL)) da_nil)))) (de_var (pe_var (i := 12) rfl vL))) da_nil) (fun h h2 h3 => pe_bm PySem.F.plainAttrs_str PySem.F.slot_str_join PySem.F.type_str_join h h2 h3))) (dss_one (ds_set S.nd rfl lL nio (de_op (opT_add rfl) (de_op (opT_add rfl) (de_slice rfl (de_var (pe_var (i := 5) rfl vL)) dp_none (dp_some (de_var (pe_var (i := 7) rfl vL)))) (de_fz (do_lst (da_cons (de_var (pe_var (i := 13) rfl vL)) da_nil)))) (de_slice rfl (de_var (pe_var (i := 5) rfl vL)) (dp_some (de_op (opT_add rfl) (de_var (pe_var (i := 7) rfl vL)) de_int)) dp_none)))))) (dss_one (ds_if (dt_cmp (opT_eq rfl hr.units) (de_var (pe_var (i := 8) rfl vL)) de_int (nomark _)) (dss_cons (ds_set S.nd rfl lL nio (de_join (de_str rfl) (da_cons (de_slice rfl (de_var (pe_var (i := 9) rfl vL)) dp_none (dp_some (de_var (pe_var (i := 10) rfl vL)))) da_nil) (fun h h2 h3 => pe_bm PySem.F.plainAttrs_str PySem.F.slot_str_join PySem.F.type_str_join h h2 h3))) (dss_one (ds_set S.nd rfl lL nio (de_op (opT_add rfl) (de_op (opT_add rfl) (de_slice rfl (de_var (pe_var (i := 5) rfl vL)) dp_none (dp_some (de_var (pe_var (i := 7) rfl vL)))) (de_fz (do_lst (da_cons (de_var (pe_var (i := 13) rfl vL)) da_nil)))) (de_slice rfl (de_var (pe_var (i := 5) rfl vL)) (dp_some (de_op (opT_add rfl) (de_var (pe_var (i := 7) rfl vL)) de_int)) dp_none))))) (dss_one (ds_if (dt_cmp (opT_eq rfl hr.units) (de_var (pe_var (i := 8) rfl vL)) de_int (nomark _)) (dss_cons (ds_set S.nd rfl lL nio (de_fz (do_fn (is := [1]) takes_cx C__law_pick hr (by decide) rfl (by decide) (by decide) (by decide) (by decide) (da_slot (pe_var (i := 1) rfl vL) (da_cons (de_fz (do_lst (da_cons (de_str rfl) (da_cons (de_str rfl) (da_cons (de_str rfl) (da_cons (de_str rfl) da_nil)))))) da_nil))))) (dss_cons (ds_set S.nd rfl lL nio (de_op (opT_mul) (de_fz (do_lst (da_cons (de_var (pe_var (i := 14) rfl vL)) da_nil))) (de_op (opT_add rfl) de_int (de_fz (do_fn (is := [1]) takes_cx C__law_next hr (by decide) rfl (by decide) (by decide) (by decide) (by decide) (da_slot (pe_var (i := 1) rfl vL) (da_cons de_int da_nil))))))) (dss_one (ds_set S.nd rfl lL nio (de_op (opT_add rfl) (de_op (opT_add rfl) (de_slice rfl (de_var (pe_var (i := 5) rfl vL)) dp_none (dp_some (de_op (opT_add rfl) (de_var (pe_var (i := 7) rfl vL)) de_int))) (de_var (pe_var (i := 15) rfl vL))) (de_slice rfl (de_var (pe_var (i := 5) rfl vL)) (dp_some (de_op (opT_add rfl) (de_var (pe_var (i := 7) rfl vL)) de_int)) dp_none)))))) (dss_one (ds_set S.nd rfl lL nio (de_revL (de_var (pe_var (i := 5) rfl vL))))))))))))))) (dss_one (ds_if (dt_not (dt_truth rfl (de_fz (do_fn0 takes_cx C__law_alike hr (by decide) rfl (da_cons (de_fz (do_fn0 takes_cx C__law_answer hr (by decide) rfl (da_cons (de_join (de_str rfl) (da_cons (de_var (pe_var (i := 5) rfl vL)) da_nil) (fun h h2 h3 => pe_bm PySem.F.plainAttrs_str PySem.F.slot_str_join PySem.F.type_str_join h h2 h3)) da_nil))) (da_cons (de_fz (do_fn0 takes_cx C__law_due hr (by decide) rfl (da_cons (de_var (pe_var (i := 5) rfl vL)) da_nil))) da_nil)))))) (dss_one (ds_ret (do_of de_bl))) dss_nil)))))) (dss_one (ds_ret (do_of (de_cmp (opT_eq rfl hr.units) (de_fz (do_lc (own := [("_law_text", 16)]) rfl S.nd (di_items rfl (de_fz (do_lst (da_cons (de_str rfl) (da_cons (de_str rfl) (da_cons (de_str rfl) da_nil)))))) (blk_of (N := N_law) (sc := defScope S_law) rfl (by decide +kernel) (by decide +kernel) (by decide +kernel) (by decide +kernel)) nios (fun s H C cl fp => dg_mono (dg_name S.nd rfl lL nio) nins) (fun s H C cl fp => dts_nil) (fun s H C cl fp => (de_fz (do_fn0 takes_nox C__law_answer hr (by decide) rfl (da_cons (de_var (pe_var (i := 16) rfl vL)) da_nil)))))) (de_fz (do_lst (da_cons (de_tup (da_cons de_int (da_cons de_int da_nil))) (da_cons (de_tup (da_cons de_int (da_cons de_int da_nil))) (da_cons (de_tup (da_cons de_int (da_cons de_int da_nil))) da_nil))))) (nomark _)))))))))
end
/-! the head -/
abbrev S_InvalidText___init__ : Stmt := inClass (top 5) 0
def clK (K : PySem.W.Frag) : Nat → Addr
  | 1 => He.ga K "Book"
  | 2 => He.ga K "Line"
  | 100 => He.ga K "BeadError"
  | 104 => He.ga K "InvalidText"
  | _ => 0
def fnL : List FD := [⟨fun K => He.ma K (He.ga K "InvalidText") "__init__", "__init__", "InvalidText.__init__", S_InvalidText___init__, ["__class__"]⟩, ⟨fun K => He.ga K "_law_alike", "_law_alike", "_law_alike", S__law_alike, []⟩, ⟨fun K => He.ma K (He.ga K "Line") "fail", "fail", "Line.fail", S_Line_fail, []⟩, ⟨fun K => He.ma K (He.ga K "Line") "finish", "finish", "Line.finish", S_Line_finish, []⟩, ⟨fun K => He.ma K (He.ga K "Line") "take", "take", "Line.take", S_Line_take, []⟩, ⟨fun K => He.ma K (He.ga K "Line") "number", "number", "Line.number", S_Line_number, []⟩, ⟨fun K => He.ga K "rule_in", "rule_in", "rule_in", S_rule_in, []⟩, ⟨fun K => He.ga K "is_integer", "is_integer", "is_integer", S_is_integer, []⟩, ⟨fun K => He.ga K "is_kind", "is_kind", "is_kind", S_is_kind, []⟩, ⟨fun K => He.ga K "is_rule", "is_rule", "is_rule", S_is_rule, []⟩, ⟨fun K => He.ma K (He.ga K "Book") "__init__", "__init__", "Book.__init__", S_Book___init__, []⟩, ⟨fun K => He.ma K (He.ga K "Line") "__init__", "__init__", "Line.__init__", S_Line___init__, []⟩, ⟨fun K => He.ga K "read", "read", "read", S_read, []⟩, ⟨fun K => He.ga K "_law_answer", "_law_answer", "_law_answer", S__law_answer, []⟩, ⟨fun K => He.ga K "_law_rows", "_law_rows", "_law_rows", S__law_rows, []⟩, ⟨fun K => He.ga K "_law_word", "_law_word", "_law_word", S__law_word, []⟩, ⟨fun K => He.ga K "_law_due", "_law_due", "_law_due", S__law_due, []⟩, ⟨fun K => He.ga K "_law_lines", "_law_lines", "_law_lines", S__law_lines, []⟩, ⟨fun K => He.ga K "_law_mix", "_law_mix", "_law_mix", S__law_mix, []⟩, ⟨fun K => He.ga K "_law_next", "_law_next", "_law_next", S__law_next, []⟩, ⟨fun K => He.ga K "_law_pick", "_law_pick", "_law_pick", S__law_pick, []⟩, ⟨fun K => He.ga K "_law_rule", "_law_rule", "_law_rule", S__law_rule, []⟩, ⟨fun K => He.ga K "_law_rules", "_law_rules", "_law_rules", S__law_rules, []⟩, ⟨fun K => He.ga K "_law_shape", "_law_shape", "_law_shape", S__law_shape, []⟩, ⟨fun K => He.ga K "law", "law", "law", S_law, []⟩]
def exL : List (PySem.W.Frag → Bool) := [fun K => (He.Fa.free "bool").ok K, fun K => (He.Fa.free "dict").ok K, fun K => (He.Fa.free "enumerate").ok K, fun K => (He.Fa.free "int").ok K, fun K => (He.Fa.free "isinstance").ok K, fun K => (He.Fa.free "len").ok K, fun K => (He.Fa.free "list").ok K, fun K => (He.Fa.free "max").ok K, fun K => (He.Fa.free "range").ok K, fun K => (He.Fa.free "str").ok K, fun K => (He.Fa.free "tuple").ok K, fun K => (He.Fa.str "LETTERS" (mkStr [97, 98, 99])).ok K, fun K => (He.Fa.int "MOST_RULES" (4)).ok K, fun K => (He.Fa.int "MOST_WIDE" (4)).ok K, fun K => (He.Fa.glo "SHAPES").ok K, fun K => He.tupB K "SHAPES" (([[99, 111, 114, 100], [114, 105, 110, 103]] : List Cs).map fun s => He.Dv.str (mkStr s)), fun K => (He.Fa.cls "Book").ok K, fun K => insB "Book" K, fun K => insNoB "Book" K, fun K => (He.Fa.noat "Book" "many").ok K, fun K => (He.Fa.noat "Book" "form").ok K, fun K => (He.Fa.noat "Book" "rows").ok K, fun K => (He.Fa.cls "Line").ok K, fun K => insB "Line" K, fun K => insNoB "Line" K, fun K => (He.Fa.noat "Line" "words_in").ok K, fun K => (He.Fa.noat "Line" "at_line").ok K, fun K => (He.Fa.noat "Line" "spot").ok K, fun K => exmB "InvalidText" "InvalidText" true K, fun K => excB "InvalidText" K, fun K => (He.Fa.glo "BeadError").ok K, fun K => (He.Fa.glo "InvalidText").ok K, fun K => kitB "InvalidText" "BeadError" true K, fun K => noxB "InvalidText" "line" K, fun K => noxB "InvalidText" "word" K, fun K => exnB "InvalidText" ["line", "word"] "/claim/cut.py" K, fun K => (He.Fa.glo "_law_alike").ok K, fun K => (He.Fa.meth "Line" "fail").ok K, fun K => (He.Fa.meth "Line" "finish").ok K, fun K => (He.Fa.meth "Line" "take").ok K, fun K => (He.Fa.meth "Line" "number").ok K, fun K => (He.Fa.glo "rule_in").ok K, fun K => (He.Fa.glo "is_integer").ok K, fun K => (He.Fa.glo "is_kind").ok K, fun K => (He.Fa.glo "is_rule").ok K, fun K => (He.Fa.mkr "Book").ok K, fun K => (He.Fa.glo "Book").ok K, fun K => (He.Fa.mkr "Line").ok K, fun K => (He.Fa.glo "Line").ok K, fun K => (He.Fa.glo "read").ok K, fun K => (He.Fa.glo "_law_answer").ok K, fun K => (He.Fa.glo "_law_rows").ok K, fun K => (He.Fa.glo "_law_word").ok K, fun K => (He.Fa.glo "_law_due").ok K, fun K => (He.Fa.glo "_law_lines").ok K, fun K => (He.Fa.glo "_law_mix").ok K, fun K => (He.Fa.glo "_law_next").ok K, fun K => (He.Fa.glo "_law_pick").ok K, fun K => (He.Fa.glo "_law_rule").ok K, fun K => (He.Fa.glo "_law_rules").ok K, fun K => (He.Fa.glo "_law_shape").ok K, fun K => (He.Fa.glo "law").ok K, fun K => (He.Fa.free "super").ok K]
theorem ok_all {P : Program} {w : World} {K : PySem.W.Frag} {h : Heap} {mg : Str → Option Value} {base : Heap} (X : K.In h) (G : h.Ns mainGlobals mg) (c : SaysP exL fnL K) (hP1 : ((P.main.file : Str) == "/claim/cut.py") = true) (hP2 : (P.main.scope.names.lookup ("super" : Str)).isSome = false) : ∃ fd, FnP K "law" S_law (He.ga K "law") fd ∧ FnOk P w K mg base (L2.CX P w) 22 (He.ga K "law") fd ["_law_script"] (spM (gam K (clK K)) 1 [] m_law) := by
  have hsu : mg "super" = none := He.free_ok X G (c.fact 62)
  have A : Ax K (clK K) mg := ⟨He.free_ok X G (c.fact 0), He.free_ok X G (c.fact 1), He.free_ok X G (c.fact 2), He.free_ok X G (c.fact 3), He.free_ok X G (c.fact 4), He.free_ok X G (c.fact 5), He.free_ok X G (c.fact 6), He.free_ok X G (c.fact 7), He.free_ok X G (c.fact 8), He.free_ok X G (c.fact 9), He.free_ok X G (c.fact 10), glT_str X G (c.fact 11), glT_int X G (c.fact 12), glT_int X G (c.fact 13), glT_strs (l := [[99, 111, 114, 100], [114, 105, 110, 103]]) rfl X G (c.fact 14) (c.fact 15), He.cls_ok (x := "Book") (c.fact 16), insB_ok (c.fact 17), insNoB_ok (c.fact 18), He.noat_ok (x := "Book") (c.fact 19), He.noat_ok (x := "Book") (c.fact 20), He.noat_ok (x := "Book") (c.fact 21), He.cls_ok (x := "Line") (c.fact 22), insB_ok (c.fact 23), insNoB_ok (c.fact 24), He.noat_ok (x := "Line") (c.fact 25), He.noat_ok (x := "Line") (c.fact 26), He.noat_ok (x := "Line") (c.fact 27), (fun n h => by
    have hn : n = 104 := by simpa [xkn] using h
    rcases hn with rfl
    · exact of_decide_eq_true (c.fact 28)), excB_ok (c.fact 29), He.glo_ok X G (c.fact 30), He.glo_ok X G (c.fact 31), of_decide_eq_true (c.fact 32), of_decide_eq_true (c.fact 33), of_decide_eq_true (c.fact 34)⟩
  have hx_InvalidText := exnB_ok (c.fact 35)
  obtain ⟨oc_InvalidText, od_InvalidText, kV_InvalidText, doc_InvalidText, pm_InvalidText, an_InvalidText, cda_InvalidText, ct_InvalidText, cc_InvalidText, osl_InvalidText, lk_InvalidText, hcd_InvalidText, hcl_InvalidText, o2_InvalidText, d2_InvalidText, v2_InvalidText, s2_InvalidText, tf_InvalidText, hl2_InvalidText, hv2_InvalidText⟩ := c.su 0 (d := ⟨fun K => He.ma K (He.ga K "InvalidText") "__init__", "__init__", "InvalidText.__init__", S_InvalidText___init__, ["__class__"]⟩) rfl rfl hx_InvalidText.cell
  have C_InvalidText : Exn P w K mg base (gam K (clK K)) 1 (clK K 104) 104 "InvalidText" ["line", "word"] := ⟨⟨_, _, _, fn_su2 (k := 0) (ps := ["self", "line", "word"]) ⟨⟨rfl, rfl, rfl, by decide +kernel, by decide +kernel, by decide +kernel, by decide +kernel, rfl, rfl⟩, hx_InvalidText.su, hcd_InvalidText, hcl_InvalidText, ⟨_, _, _, _, "/claim/cut.py", _, hl2_InvalidText, hv2_InvalidText, hP1⟩, hP2, hsu, ⟨_, rfl, rfl⟩⟩ rfl (hx_InvalidText.no "line" (by simp)) (hx_InvalidText.no "word" (by simp)) (by rfl) (fun _ => rfl) (fun _ => rfl) (by decide +kernel) lk_InvalidText, hx_InvalidText.ini, hx_InvalidText.typ, .all fun us hl => match us, hl with | [_, _, _], _ => rfl⟩, hx_InvalidText.su.oex, He.glo_ok X G (c.fact 31), fun ts d H h => ⟨rfl, rfl, h⟩⟩
  obtain ⟨fd__law_alike, F__law_alike⟩ := c.def_ 1
  have C__law_alike := (ok__law_alike (P := P) (w := w) (base := base) A F__law_alike (He.glo_ok X G (c.fact 36)) ) 20
  obtain ⟨fd_Line_fail, F_Line_fail⟩ := c.def_ 2
  have C_Line_fail := ok_Line_fail (P := P) (w := w) (base := base) A F_Line_fail (He.meth_ok (x := "Line") (m := "fail") (c.fact 37)) C_InvalidText
  obtain ⟨fd_Line_finish, F_Line_finish⟩ := c.def_ 3
  have C_Line_finish := ok_Line_finish (P := P) (w := w) (base := base) A F_Line_finish (He.meth_ok (x := "Line") (m := "finish") (c.fact 38)) C_Line_fail
  obtain ⟨fd_Line_take, F_Line_take⟩ := c.def_ 4
  have C_Line_take := ok_Line_take (P := P) (w := w) (base := base) A F_Line_take (He.meth_ok (x := "Line") (m := "take") (c.fact 39)) C_Line_fail
  obtain ⟨fd_Line_number, F_Line_number⟩ := c.def_ 5
  have C_Line_number := ok_Line_number (P := P) (w := w) (base := base) A F_Line_number (He.meth_ok (x := "Line") (m := "number") (c.fact 40)) C_Line_take
  obtain ⟨fd_rule_in, F_rule_in⟩ := c.def_ 6
  have C_rule_in := ok_rule_in (P := P) (w := w) (base := base) A F_rule_in (He.glo_ok X G (c.fact 41)) C_Line_finish C_Line_number C_Line_take
  obtain ⟨fd_is_integer, F_is_integer⟩ := c.def_ 7
  have C_is_integer := ok_is_integer (P := P) (w := w) (base := base) A F_is_integer (He.glo_ok X G (c.fact 42)) 
  obtain ⟨fd_is_kind, F_is_kind⟩ := c.def_ 8
  have C_is_kind := ok_is_kind (P := P) (w := w) (base := base) A F_is_kind (He.glo_ok X G (c.fact 43)) 
  obtain ⟨fd_is_rule, F_is_rule⟩ := c.def_ 9
  have C_is_rule := ok_is_rule (P := P) (w := w) (base := base) A F_is_rule (He.glo_ok X G (c.fact 44)) C_is_integer C_is_kind
  obtain ⟨fd_Book___init__, F_Book___init__⟩ := c.def_ 10
  have C_Book___init__ := ok_Book___init__ (P := P) (w := w) (base := base) A F_Book___init__ (He.mkr_ok (x := "Book") (c.fact 45)) (He.glo_ok X G (c.fact 46)) C_is_integer C_is_rule
  obtain ⟨fd_Line___init__, F_Line___init__⟩ := c.def_ 11
  have C_Line___init__ := ok_Line___init__ (P := P) (w := w) (base := base) A F_Line___init__ (He.mkr_ok (x := "Line") (c.fact 47)) (He.glo_ok X G (c.fact 48)) 
  obtain ⟨fd_read, F_read⟩ := c.def_ 12
  have C_read := ok_read (P := P) (w := w) (base := base) A F_read (He.glo_ok X G (c.fact 49)) C_rule_in C_Line_fail C_Line_finish C_Line_number C_Line_take C_Book___init__ C_Line___init__
  obtain ⟨fd__law_answer, F__law_answer⟩ := c.def_ 13
  have C__law_answer := ok__law_answer (P := P) (w := w) (base := base) A F__law_answer (He.glo_ok X G (c.fact 50)) C_read
  obtain ⟨fd__law_rows, F__law_rows⟩ := c.def_ 14
  have C__law_rows := ok__law_rows (P := P) (w := w) (base := base) A F__law_rows (He.glo_ok X G (c.fact 51)) 
  obtain ⟨fd__law_word, F__law_word⟩ := c.def_ 15
  have C__law_word := ok__law_word (P := P) (w := w) (base := base) A F__law_word (He.glo_ok X G (c.fact 52)) 
  obtain ⟨fd__law_due, F__law_due⟩ := c.def_ 16
  have C__law_due := ok__law_due (P := P) (w := w) (base := base) A F__law_due (He.glo_ok X G (c.fact 53)) C__law_rows C__law_word
  obtain ⟨fd__law_lines, F__law_lines⟩ := c.def_ 17
  have C__law_lines := ok__law_lines (P := P) (w := w) (base := base) A F__law_lines (He.glo_ok X G (c.fact 54)) 
  obtain ⟨fd__law_mix, F__law_mix⟩ := c.def_ 18
  have C__law_mix := ok__law_mix (P := P) (w := w) (base := base) A F__law_mix (He.glo_ok X G (c.fact 55)) 
  obtain ⟨fd__law_next, F__law_next⟩ := c.def_ 19
  have C__law_next := ok__law_next (P := P) (w := w) (base := base) A F__law_next (He.glo_ok X G (c.fact 56)) 
  obtain ⟨fd__law_pick, F__law_pick⟩ := c.def_ 20
  have C__law_pick := ok__law_pick (P := P) (w := w) (base := base) A F__law_pick (He.glo_ok X G (c.fact 57)) C__law_next
  obtain ⟨fd__law_rule, F__law_rule⟩ := c.def_ 21
  have C__law_rule := ok__law_rule (P := P) (w := w) (base := base) A F__law_rule (He.glo_ok X G (c.fact 58)) C__law_next C__law_pick
  obtain ⟨fd__law_rules, F__law_rules⟩ := c.def_ 22
  have C__law_rules := ok__law_rules (P := P) (w := w) (base := base) A F__law_rules (He.glo_ok X G (c.fact 59)) C__law_pick C__law_rule
  obtain ⟨fd__law_shape, F__law_shape⟩ := c.def_ 23
  have C__law_shape := ok__law_shape (P := P) (w := w) (base := base) A F__law_shape (He.glo_ok X G (c.fact 60)) C__law_pick
  obtain ⟨fd_law, F_law⟩ := c.def_ 24
  have C_law := ok_law (P := P) (w := w) (base := base) A F_law (He.glo_ok X G (c.fact 61)) C__law_alike C__law_answer C__law_due C__law_lines C__law_mix C__law_next C__law_pick C__law_rules C__law_shape
  exact ⟨fd_law, F_law, C_law⟩
abbrev Rw : PySem.W.OpenRow := PySem.W.OpenLaw.row PySem.Challenge.rw_beadrules_k18_texts_refused
abbrev hk : PySem.W.Hook := hookP 7 exL fnL
def ob (s : PySem.W.SharedT) : He.AlD := obsPG 7 exL fnL (HandSHeadRun.getT s)
theorem ob_eq (s : PySem.W.SharedT) : ob s = hk.obs s.abs := obsPG_eq (HandSHeadRun.getT_eq s)
def names0 : List PySem.Str := ["BeadError", "InvalidKinds", "InvalidShape", "InvalidRule", "InvalidText", "LETTERS", "SHAPES", "MOST_RULES", "MOST_WIDE", "is_integer", "is_kind", "is_rule", "Book", "Line", "rule_in", "read", "_law_mix", "_law_next", "_law_alike", "_law_pick", "_law_rule", "_law_rules", "_law_shape", "_law_lines", "_law_rows", "_law_word", "_law_due", "_law_answer"]
theorem run (w : World) : HandSHeadRun.RunEq Rw (PySem.W.view Rw.prog [32]) hk ob 6000 (names0) w := by
  intro os
  kernel_rfl
end TL
set_option Elab.async false
set_option linter.all false
set_option maxRecDepth 100000
set_option maxHeartbeats 0
namespace TL
open PySem PySem.Spec L2

theorem ers_ints : ∀ l : List Int, ers (l.map fun i => O.fz (.int i)) = l.map T.int
  | [] => rfl
  | i :: r => by show T.int i :: ers (r.map fun i => O.fz (.int i)) = _; rw [ers_ints r]; rfl
theorem atI_ok {α : Type} {l : List α} {i : Int} (h0 : 0 ≤ i) (h1 : i < l.length) : ∃ x, l[i.toNat]? = some x ∧ L2.atI l i = some x := by
  have hi : i.toNat < l.length := by omega
  refine ⟨l[i.toNat], List.getElem?_eq_getElem hi, ?_⟩
  unfold L2.atI ixN
  rw [if_pos h0, if_pos h1]
  exact List.getElem?_eq_getElem hi
theorem ixN_ok {n : Nat} {i : Int} (h0 : 0 ≤ i) (h1 : i < n) : ixN n i = some i.toNat := by
  unfold ixN
  rw [if_pos h0, if_pos h1]
theorem atI_0 {α : Type} {x : α} {l : List α} : L2.atI (x :: l) 0 = some x := by
  unfold L2.atI
  rw [ixN_ok (by omega) (by simp)]
  rfl
theorem atI_1 {α : Type} {x y : α} {l : List α} : L2.atI (x :: y :: l) 1 = some y := by
  unfold L2.atI
  rw [ixN_ok (by omega) (by simp; omega)]
  rfl
theorem atI_2 {α : Type} {x y z : α} {l : List α} : L2.atI (x :: y :: z :: l) 2 = some z := by
  unfold L2.atI
  rw [ixN_ok (by omega) (by simp; omega)]
  rfl
theorem atI_3 {α : Type} {x y z w : α} {l : List α} : L2.atI (x :: y :: z :: w :: l) 3 = some w := by
  unfold L2.atI
  rw [ixN_ok (by omega) (by simp; omega)]
  rfl
theorem ixN_3 {n : Nat} : ixN (n + 1) 0 = some 0 := ixN_ok (by omega) (by omega)
theorem set_none {τ : Env} {k : Nat} (h : τ[k]? = some none) : τ.set k none = τ := by
  obtain ⟨hk, e⟩ := List.getElem?_eq_some_iff.mp h
  have := List.set_getElem_self hk
  rw [e] at this
  exact this
theorem int_len (m : Nat) : (rngL 0 (m : Int)).length = m := by simp [rngL]
theorem inR_small {m : Nat} (h : m ≤ 3) : inR (m : Int) = true := by
  have : m = 0 ∨ m = 1 ∨ m = 2 ∨ m = 3 := by omega
  rcases this with rfl | rfl | rfl | rfl <;> decide
theorem le_SZ {m : Nat} (h : m ≤ 1000) : m ≤ SZ := Nat.le_trans h (by decide)
theorem rng1_run {d : DE} {τ τ' : Env} {j : Int} (e1 : d τ = .ok (.int j) τ') (hj : inR j = true) : dRng1 (dCons d dNil) τ = .ok (rngL 0 j) τ' := by
  unfold dRng1 dCons dNil
  rw [e1]
  simp only [R.bind_ok, R.map_ok, hj, if_true]
theorem lc_run {di : DL} {g : DG} {p : DB} {d : DE} {vs : List Nat} {τ τ1 τ2 : Env} {ts ys : List T} (h1 : di τ = .ok ts τ1) (h2 : ts.length ≤ 1000) (h3 : lcL g p d vs ts (wipeE τ1 vs) = .ok ys τ2) : dLc di g p d vs τ = .ok (.lst (ys.map .fz)) τ2 := by
  unfold dLc
  rw [h1, R.bind_ok, if_pos (le_SZ h2), h3, R.bind_ok]
def isT : R O → Bool
  | .ok (.fz (.bl true)) _ => true
  | _ => false
theorem isT_ok {r : R O} (h : isT r = true) : ∃ τ, r = .ok (.fz (.bl true)) τ := by
  unfold isT at h
  split at h
  · exact ⟨_, rfl⟩
  · cases h
/-! run lemmas -/
theorem call_run {m : Env → R O} {n : Nat} {d : DL} {τ τ1 τ' : Env} {ts : List T} {o : O} (h1 : d τ = .ok ts τ1) (hn : ts.length = n) (h2 : m (ts.map fun t => some (.fz t)) = .ok o τ') : dCallF n [] m d τ = .ok o τ1 := by
  unfold dCallF
  have e : (([] : List O) ++ ts.map O.fz).map some = ts.map fun t => some (.fz t) := by simp
  simp only [getsO, Option.isSome, Bool.true_eq_false, if_false, h1, R.bind_ok, List.length_nil, Nat.zero_add, hn, if_true, e, h2, Nat.zero_le, List.take_zero, setsO]
theorem call_run1 {m : Env → R O} {n i : Nat} {d : DL} {τ τ1 rest : Env} {ts : List T} {o o0 o1 o2 : O} (h0 : τ[i]? = some (some o0)) (h1 : d τ = .ok ts τ1) (h3 : τ1[i]? = some (some o1)) (hn : ts.length + 1 = n)
    (h2 : m (some o1 :: ts.map fun t => some (.fz t)) = .ok o (some o2 :: rest)) : dCallF n [i] m d τ = .ok o (τ1.set i (some o2)) := by
  unfold dCallF
  have e : (([o1] : List O) ++ ts.map O.fz).map some = some o1 :: ts.map fun t => some (.fz t) := by simp
  have hn' : 1 + ts.length = n := by omega
  simp only [getsO, h0, Option.isSome, Bool.true_eq_false, if_false, h1, R.bind_ok, h3, List.length_cons, List.length_nil, Nat.zero_add, hn', if_true, e, h2]
  rw [if_pos (Nat.le_add_left 1 _)]
  simp only [List.take_succ_cons, List.take_zero, setsO]
theorem dv_run {i : Nat} {τ : Env} {t : T} (h : τ[i]? = some (some (.fz t))) : dV i τ = .ok t τ := by
  unfold dV
  rw [h]
theorem cons_run {d : DE} {r : DL} {τ τ1 τ2 : Env} {t : T} {ts : List T} (h1 : d τ = .ok t τ1) (h2 : r τ1 = .ok ts τ2) : dCons d r τ = .ok (t :: ts) τ2 := by
  unfold dCons
  rw [h1, R.bind_ok, h2, R.map_ok]
theorem nil_run {τ : Env} : dNil τ = .ok [] τ := rfl
theorem fz_run {d : DO} {τ τ1 : Env} {o : O} (h : d τ = .ok o τ1) : dFz d τ = .ok o.er τ1 := by
  unfold dFz
  rw [h, R.map_ok]
theorem of_run {d : DE} {τ τ1 : Env} {t : T} (h : d τ = .ok t τ1) : dOf d τ = .ok (.fz t) τ1 := by
  unfold dOf
  rw [h, R.map_ok]
theorem seq_run {p q : DS} {τ τ1 : Env} (h : p τ = .ok .nx τ1) : dSeq p q τ = q τ1 := by
  unfold dSeq
  rw [h, R.bind_ok]
theorem seq_rt {p q : DS} {τ τ1 : Env} {o : O} (h : p τ = .ok (.rt o) τ1) : dSeq p q τ = .ok (.rt o) τ1 := by
  unfold dSeq
  rw [h, R.bind_ok]
theorem if_f {p : DB} {a b : DS} {τ τ1 : Env} (h : p τ = .ok false τ1) : dIfS p a b τ = b τ1 := by
  unfold dIfS
  rw [h, R.bind_ok]
theorem if_t {p : DB} {a b : DS} {τ τ1 : Env} (h : p τ = .ok true τ1) : dIfS p a b τ = a τ1 := by
  unfold dIfS
  rw [h, R.bind_ok]
theorem not_run {p : DB} {τ τ1 : Env} {b : Bool} (h : p τ = .ok b τ1) : dNot p τ = .ok (!b) τ1 := by
  unfold dNot
  rw [h, R.map_ok]
theorem tru_run {d : DE} {τ τ1 : Env} {t : T} {b : Bool} (h : d τ = .ok t τ1) (ht : truT t = some b) : dTru d τ = .ok b τ1 := by
  unfold dTru
  rw [h, R.bind_ok, ht]
theorem bl_run {d : DE} {τ τ1 : Env} {b : Bool} (h : d τ = .ok (.bl b) τ1) : dBl d τ = .ok b τ1 := by
  unfold dBl
  rw [h, R.bind_ok]
theorem op_run {g : T → T → Option T} {da db : DE} {τ τ1 τ2 : Env} {s t u : T} (h1 : da τ = .ok s τ1) (h2 : db τ1 = .ok t τ2) (h3 : g s t = some u) : dOp g da db τ = .ok u τ2 := by
  unfold dOp
  rw [h1, R.bind_ok, h2, R.bind_ok, h3]
theorem callg_run {g : List T → Option T} {d : DL} {τ τ1 : Env} {ts : List T} {u : T} (h1 : d τ = .ok ts τ1) (h2 : g ts = some u) : dCall g d τ = .ok u τ1 := by
  unfold dCall
  rw [h1, R.bind_ok, h2]
theorem set_run {i : Nat} {d : DE} {τ τ1 : Env} {t : T} (h : d τ = .ok t τ1) : dSet i d τ = .ok .nx (τ1.set i (some (.fz t))) := by
  unfold dSet
  rw [h, R.bind_ok]
theorem ret_run {d : DO} {τ τ1 : Env} {o : O} (h : d τ = .ok o τ1) : dRet d τ = .ok (.rt o) τ1 := by
  unfold dRet
  rw [h, R.bind_ok]
theorem or_f {p q : DB} {τ τ1 : Env} (h : p τ = .ok false τ1) : dOr p q τ = q τ1 := by
  unfold dOr
  rw [h, R.bind_ok]
theorem or_t {p q : DB} {τ τ1 : Env} (h : p τ = .ok true τ1) : dOr p q τ = .ok true τ1 := by
  unfold dOr
  rw [h, R.bind_ok]
theorem for_run {di : DL} {g : DG} {b : DS} {τ τ1 : Env} {ts : List T} (h : di τ = .ok ts τ1) : dFor di g b τ = forL g b ts τ1 := by
  unfold dFor
  rw [h, R.bind_ok]
theorem fn_run {N : Nat} {d : DS} {τ τ0 τ1 : Env} {o : O} (he : τ ++ List.replicate (N - τ.length) none = τ0) (h : d τ0 = .ok (.rt o) τ1) : dFn N d τ = .ok o τ1 := by
  unfold dFn
  rw [he, h, R.bind_ok]
theorem fn_run0 {N : Nat} {d : DS} {τ τ0 τ1 : Env} (he : τ ++ List.replicate (N - τ.length) none = τ0) (h : d τ0 = .ok .nx τ1) : dFn N d τ = .ok (.fz .non) τ1 := by
  unfold dFn
  rw [he, h, R.bind_ok]
theorem seqif_f {p : DB} {a q : DS} {τ τ1 : Env} (h : p τ = .ok false τ1) : dSeq (dIfS p a dNx) q τ = q τ1 := seq_run ((if_f h).trans rfl)
theorem if_fn {p : DB} {a : DS} {τ τ1 : Env} (h : p τ = .ok false τ1) : dIfS p a dNx τ = .ok .nx τ1 := (if_f h).trans rfl
theorem not_t {p : DB} {τ τ1 : Env} (h : p τ = .ok true τ1) : dNot p τ = .ok false τ1 := not_run h
theorem dc_run {t : T} {τ : Env} : dC t τ = .ok t τ := rfl
theorem methN_run {k : T → Bool} {g : T → List T → Option (List T)} {da : DE} {d : DL} {τ τ1 τ2 : Env} {s : T} {ts us : List T} (h1 : da τ = .ok s τ1) (hk : k s = true) (h2 : d τ1 = .ok ts τ2) (h3 : g s ts = some us) : dMethN k g da d τ = .ok (.lst (us.map .fz)) τ2 := by
  unfold dMethN
  rw [h1, R.bind_ok, if_pos hk, h2, R.bind_ok, h3]
theorem meth_run {k : T → Bool} {g : T → List T → Option T} {da : DE} {d : DL} {τ τ1 τ2 : Env} {s : T} {ts : List T} {u : T} (h1 : da τ = .ok s τ1) (hk : k s = true) (h2 : d τ1 = .ok ts τ2) (h3 : g s ts = some u) : dMeth k g da d τ = .ok u τ2 := by
  unfold dMeth
  rw [h1, R.bind_ok, if_pos hk, h2, R.bind_ok, h3]
theorem items_run {d : DE} {τ τ1 : Env} {t : T} {ts : List T} (h : d τ = .ok t τ1) (h2 : itemsT t = some ts) : dItems d τ = .ok ts τ1 := by
  unfold dItems
  rw [h, R.bind_ok, h2]
theorem fzl_run {d : DO} {τ τ1 : Env} {ts : List T} (h : d τ = .ok (.lst (ts.map .fz)) τ1) : dFz d τ = .ok (.lst ts) τ1 := by
  rw [fz_run h]
  show R.ok (T.lst (ers (ts.map .fz))) τ1 = _
  rw [ers_fz]
theorem setF_run {i : Nat} {ix nx : Nat → Option Nat} {d : DO} {τ τ1 : Env} {x o' : O} {c : Nat} {vs : List O} (h : d τ = .ok x τ1) (hi : τ1[i]? = some (some (.obj c vs))) (hs : setF ix nx c vs x = some o') : dSetF i ix nx d τ = .ok .nx (τ1.set i (some o')) := by
  unfold dSetF
  rw [h, R.bind_ok, hi]
  dsimp only
  rw [hs]
theorem setO_run {i : Nat} {d : DO} {τ τ1 : Env} {o : O} (h : d τ = .ok o τ1) (hi : i < τ1.length) : dSetO i d τ = .ok .nx (τ1.set i (some o)) := by
  unfold dSetO
  rw [h, R.bind_ok, if_pos hi]
theorem make_run {c0 n : Nat} {mm : Env → R O} {dl : DL} {τ τ1 rest : Env} {ts : List T} {o' : O} (h : dl τ = .ok ts τ1) (hn : ts.length + 1 = n) (hm : mm (some (.obj c0 []) :: ts.map fun t => some (.fz t)) = .ok (.fz .non) (some o' :: rest)) : dMake c0 n mm dl τ = .ok o' τ1 := by
  unfold dMake
  rw [h, R.bind_ok, if_pos hn, hm]
  rfl
theorem methO_run {n i : Nat} {cs : Nat → Bool} {mm : Env → R O} {dl : DL} {τ τ1 rest : Env} {ts : List T} {o o2 : O} {c : Nat} {vs : List O} (h0 : τ[i]? = some (some (.obj c vs))) (hc : cs c = true) (h1 : dl τ = .ok ts τ1) (h3 : τ1[i]? = some (some (.obj c vs))) (hn : ts.length + 1 = n)
    (h2 : mm (some (.obj c vs) :: ts.map fun t => some (.fz t)) = .ok o (some o2 :: rest)) : dMethO n i cs mm dl τ = .ok o (τ1.set i (some o2)) := by
  unfold dMethO
  rw [h0]
  dsimp only
  rw [if_pos hc]
  exact call_run1 h0 h1 h3 hn h2
theorem drop_run {d : DE} {τ τ1 : Env} {t : T} (h : d τ = .ok t τ1) : dDrop d τ = .ok .nx τ1 := by
  unfold dDrop
  rw [h, R.bind_ok]
theorem mtd_run {i : Nat} {g : List O → List T → Option (T × List O)} {d : DL} {τ τ1 : Env} {l0 l l' : List O} {ts : List T} {u : T} (h0 : τ[i]? = some (some (.lst l0))) (h1 : d τ = .ok ts τ1) (h2 : τ1[i]? = some (some (.lst l))) (h3 : g l ts = some (u, l')) : dMtd i g d τ = .ok u (τ1.set i (some (.lst l'))) := by
  unfold dMtd
  rw [h0]
  dsimp only
  rw [h1, R.bind_ok, h2]
  dsimp only
  rw [h3]
theorem rob_run {d : DB} {τ τ1 : Env} {b : Bool} (h : d (ro τ) = .ok b τ1) : dRoB d τ = .ok b τ := by
  unfold dRoB
  rw [h]
theorem le_SZ4 {m : Nat} (h : m ≤ 10000) : m ≤ SZ := Nat.le_trans h (by decide)
theorem lst_run {d : DL} {τ τ1 : Env} {ts : List T} (h : d τ = .ok ts τ1) (hn : ts.length ≤ 1000) : dLst d τ = .ok (.lst (ts.map .fz)) τ1 := by
  unfold dLst
  rw [h, R.bind_ok, if_pos (le_SZ hn)]
theorem tup_run {d : DL} {τ τ1 : Env} {ts : List T} (h : d τ = .ok ts τ1) (hn : ts.length ≤ 1000) : dTup d τ = .ok (.tup ts) τ1 := by
  unfold dTup
  rw [h, R.bind_ok, if_pos (le_SZ hn)]
theorem star_run {d : DE} {r : DL} {τ τ1 τ2 : Env} {t : T} {l ts : List T} (h : d τ = .ok t τ1) (hs : starL t = some l) (h2 : r τ1 = .ok ts τ2) : dStar d r τ = .ok (l ++ ts) τ2 := by
  unfold dStar
  rw [h, R.bind_ok, hs]
  dsimp only
  rw [h2, R.map_ok]
theorem un_run {g : T → Option T} {d : DE} {τ τ1 : Env} {t u : T} (h : d τ = .ok t τ1) (hg : g t = some u) : dUn g d τ = .ok u τ1 := by
  unfold dUn
  rw [h, R.bind_ok, hg]
theorem callN_run {g : List T → Option (List T)} {d : DL} {τ τ1 : Env} {ts us : List T} (h : d τ = .ok ts τ1) (hg : g ts = some us) : dCallN g d τ = .ok (.lst (us.map .fz)) τ1 := by
  unfold dCallN
  rw [h, R.bind_ok, hg]
theorem wipe_same {τ : Env} {i : Nat} {x : Option O} (h : τ[i]? = some none) : wipeE (τ.set i x) [i] = τ := by
  show (τ.set i x).set i none = τ
  rw [List.set_set, set_none h]
theorem gN_ok {τ : Env} {i : Nat} {t : T} (h : τ[i]? = some none) : gN i t τ = some (τ.set i (some (.fz t))) := rfl
theorem get_set {τ : Env} {i : Nat} {x : Option O} (h : τ[i]? = some none) : (τ.set i x)[i]? = some x := by
  rw [List.getElem?_set_self (List.getElem?_eq_some_iff.mp h).1]
theorem and_t {da db : DE} {τ τ1 : Env} (h : da τ = .ok (.bl true) τ1) : dAndV da db τ = db τ1 := by
  unfold dAndV
  rw [h, R.bind_ok]
def isBl : Option T → Bool
  | some (.bl true) => true
  | _ => false
theorem isBl_ok {x : Option T} (h : isBl x = true) : x = some (.bl true) := by
  unfold isBl at h
  split at h
  · rfl
  · cases h
theorem nil_eq : eqT (.lst []) (.lst []) = some (.bl true) := isBl_ok (by decide +kernel)
theorem inR_le {m : Nat} (h : m ≤ 4) : inR (m : Int) = true := by
  have : m = 0 ∨ m = 1 ∨ m = 2 ∨ m = 3 ∨ m = 4 := by omega
  rcases this with rfl | rfl | rfl | rfl | rfl <;> decide
theorem rng_mem {m : Nat} : ∀ x ∈ rngL 0 (m : Int), ∃ k : Nat, k < m ∧ x = .int k := by
  intro x hx
  unfold rngL at hx
  obtain ⟨k, hk, rfl⟩ := List.mem_map.mp hx
  rw [List.mem_range] at hk
  exact ⟨k, by omega, by simp⟩
/-! run lemmas -/
theorem par3_run {i j k : Nat} {d e f : DO} {τ τ1 τ2 τ3 : Env} {a b c : O} (h1 : d τ = .ok a τ1) (h2 : e τ1 = .ok b τ2) (h3 : f τ2 = .ok c τ3) (hi : i < τ3.length) (hj : j < τ3.length) (hk : k < τ3.length) : dPar [i, j, k] (dConsO d (dConsO e (dConsO f dNilO))) τ = .ok .nx (((τ3.set k (some c)).set j (some b)).set i (some a)) := by
  show lkE (dConsO d (dConsO e (dConsO f dNilO))) [i, j, k] τ = _
  unfold lkE dConsO dNilO
  rw [h1]
  simp only [R.bind_ok, R.map_ok, h2, h3]
  rw [if_pos ⟨rfl, by simp [hi, hj, hk]⟩]
  rfl
theorem eqO_run {cs : Nat → Bool} {m : Env → R O} {da db : DE} {τ τ1 τ2 τ' : Env} {c c' : Nat} {vs vs' : List T} (h1 : da τ = .ok (.obj c vs) τ1) (h2 : db τ1 = .ok (.obj c' vs') τ2) (hc : cs c = true) (hc' : cs c' = true) (hm : m [some (.fz (.obj c vs)), some (.fz (.obj c' vs'))] = .ok (.fz (.bl true)) τ') : dEqO cs m da db τ = .ok (.bl true) τ2 := by
  unfold dEqO
  rw [h1, R.bind_ok, h2, R.bind_ok]
  dsimp only
  rw [hc, hc', hm]
  rfl
theorem prop_run {cs : Nat → Bool} {m : Env → R O} {da : DE} {τ τ1 τ' : Env} {c : Nat} {vs : List T} {o : O} (h1 : da τ = .ok (.obj c vs) τ1) (hc : cs c = true) (hm : m [some (.fz (.obj c vs))] = .ok o τ') : dProp cs m da τ = .ok o τ1 := by
  unfold dProp
  rw [h1, R.bind_ok]
  dsimp only
  rw [if_pos hc, hm]
theorem ro_run {d : DE} {τ τ1 : Env} {t : T} (h : d (ro τ) = .ok t τ1) (ht : flatT t = true) : dRo d τ = .ok t τ := by
  unfold dRo
  rw [h]
  dsimp only
  rw [if_pos ht]
end TL
set_option Elab.async false
set_option linter.all false
set_option maxRecDepth 100000
set_option maxHeartbeats 0
namespace TL
open PySem PySem.Spec L2

def eH (a : Int) (l : List Int) (c : Int) : O := .lst [.fz (.int a), .lst (l.map fun i => .fz (.int i)), .fz (.int c)]
/-- the generator's state -/
def IsH (o : O) : Prop := ∃ a l c, o = eH a l c ∧ l.length ≤ 63
theorem ro_h {a c : Int} {l : List Int} : O.er (eH a l c) = .lst [.int a, .lst (l.map T.int), .int c] := by
  simp only [eH, O.er, ers, ers_ints]
theorem next_ok {o : O} {cap : Int} (h : IsH o) (h0 : 0 < cap) (h1 : cap < 2 ^ 60) : ∃ v o' x y, m__law_next [some o, some (.fz (.int cap))] = .ok (.fz (.int v)) [some o', x, y] ∧ 0 ≤ v ∧ v < cap ∧ IsH o' := by
  obtain ⟨a, l, c, rfl, hl⟩ := h
  have hm0 : 0 ≤ c % (max 1 (l.length : Int)) := Int.emod_nonneg _ (by omega)
  have hm1 : c % (max 1 (l.length : Int)) < (max 1 (l.length : Int)) := Int.emod_lt_of_pos _ (by omega)
  have hp : 0 < max 1 (l.length : Int) := by omega
  have e1 : (if 1 < (l.length : Int) then (l.length : Int) else 1) = max 1 (l.length : Int) := by split <;> omega
  obtain ⟨cell, hc1, hc2⟩ := atI_ok (l := l ++ [0]) hm0 (by simp; omega)
  have hc3 : L2.atI (l.map T.int ++ [T.int 0]) (c % (max 1 (l.length : Int))) = some (T.int cell) := by
    obtain ⟨y, g1, g2⟩ := atI_ok (l := l.map T.int ++ [T.int 0]) hm0 (by simp; omega)
    rw [g2]
    have : (l.map T.int ++ [T.int 0]) = (l ++ [0]).map T.int := by simp
    rw [this, List.getElem?_map, hc1] at g1
    exact g1.symm ▸ rfl
  have hsz : (l.length : Nat) + 1 ≤ 16777216 := by omega
  have hnp : cap.natAbs < 2 ^ 4000 := by
    have h2 : cap.natAbs < 2 ^ 60 := by omega
    exact Nat.lt_of_lt_of_le h2 (Nat.pow_le_pow_right (by decide) (by decide))
  have ep : powT (.int 10) (.int 18) = some (.int 1000000000000000000) := by simp [powT]
  have rv0 : 0 ≤ cell % cap := Int.emod_nonneg _ (by omega)
  have rv1 : cell % cap < cap := Int.emod_lt_of_pos _ h0
  unfold m__law_next dFn D__law_next
  by_cases hb : (1000000000000000000 : Int) ≤ cell
  · have hl0 : 0 < l.length := by
      cases l with
      | nil =>
        have hz : (c % max 1 ((([] : List Int).length : Nat) : Int)).toNat = 0 := by
          simp at hm0 hm1 ⊢
          omega
        rw [hz] at hc1
        simp at hc1
        omega
      | cons => simp
    have hmax : max 1 (l.length : Int) = l.length := by omega
    have hln : c % (l.length : Int) < l.length := by rw [← hmax]; omega
    have hln0 : 0 ≤ c % (l.length : Int) := by rw [← hmax]; exact hm0
    refine ⟨cell % cap, eH a (l.set (c % (l.length : Int)).toNat (cell / cap)) c, some (.fz (.int cap)), some (.fz (.int cell)), ?_, rv0, rv1, a, _, c, rfl, by simpa using hl⟩
    have hx : ixN l.length (c % (l.length : Int)) = some (c % (l.length : Int)).toNat := ixN_ok hln0 hln
    have hcell : l[(c % (l.length : Int)).toNat]? = some l[(c % (l.length : Int)).toNat] := List.getElem?_eq_getElem (by omega)
    have hpl : (0 : Int) < l.length := by omega
    rw [hmax] at hc3
    simp [dSeq, dSet, dRo, dIfS, dBl, dOp, dV, dC, dCons, dNil, dCall, dLst, dFz, ixG, ixT, atI_0, atI_1, atI_2, intTS, intT, lenT, maxT, O.er, ers, addT, modT, hsz, e1, ro, ro_h, hp, hc3, flatT, geT, ep, hb, dSetLL, dOf, fdivT, h0, hnp, dRet, eH, setLL, hx, hcell, hpl, hl0, ers_ints, hmax]
  · have rv2 := fun z : Int => Int.emod_nonneg z (show cap ≠ 0 by omega)
    have rv3 := fun z : Int => Int.emod_lt_of_pos z h0
    refine ⟨((a * 48271 + cell * 69621 + 11) % 2147483647 / 7) % cap, eH ((a * 48271 + cell * 69621 + 11) % 2147483647) l (c + 1), some (.fz (.int cap)), some (.fz (.int cell)), ?_, rv2 _, rv3 _, _, l, _, rfl, hl⟩
    have s1 : small64 48271 = true := by decide
    have s2 : small64 69621 = true := by decide
    have s7 : (7 : Nat) < 2 ^ 4000 := Nat.lt_of_lt_of_le (show (7 : Nat) < 2 ^ 60 by decide) (Nat.pow_le_pow_right (by decide) (by decide))
    have x0 : ixN 3 0 = some 0 := by decide
    have x2 : ixN 3 2 = some 2 := by decide
    simp [dSeq, dSet, dRo, dIfS, dBl, dOp, dV, dC, dCons, dNil, dCall, dLst, dFz, ixG, ixT, atI_0, atI_1, atI_2, intTS, intT, lenT, maxT, O.er, ers, addT, modT, hsz, e1, ro, ro_h, hp, hc3, flatT, geT, ep, hb, dSetIx, dOf, fdivT, h0, hnp, dRet, eH, putLO, ers_ints, mulT, s1, s2, s7, dNx, x0, x2]
theorem pick_ok {o : O} {ts : List T} (h : IsH o) (h0 : 0 < ts.length) (h1 : ts.length < 1000) : ∃ t o' x, m__law_pick [some o, some (.fz (.lst ts))] = .ok (.fz t) [some o', x] ∧ t ∈ ts ∧ IsH o' := by
  obtain ⟨v, o', x, y, e, v0, v1, h'⟩ := next_ok h (cap := ts.length) (by omega) (by omega)
  obtain ⟨t, g1, g2⟩ := atI_ok v0 v1
  refine ⟨t, o', some (.fz (.lst ts)), ?_, List.mem_of_getElem? g1, h'⟩
  unfold m__law_pick dFn D__law_pick
  simp [dRet, dOf, dOp, dV, dFz, dCallF, getsO, dCons, dNil, dCall, lenT, e, setsO, ixG, ixT, g2, O.er]
theorem shape_ok {o : O} (h : IsH o) : ∃ z o', m__law_shape [some o] = .ok (.fz (.str z)) [some o'] ∧ (z = [99, 111, 114, 100] ∨ z = [114, 105, 110, 103]) ∧ IsH o' := by
  obtain ⟨t, o', x, e, ht, h'⟩ := pick_ok h (ts := [.str [99, 111, 114, 100], .str [114, 105, 110, 103]]) (by decide) (by decide)
  have : ∃ z, t = .str z ∧ (z = [99, 111, 114, 100] ∨ z = [114, 105, 110, 103]) := by
    rcases List.mem_cons.mp ht with rfl | ht
    · exact ⟨_, rfl, .inl rfl⟩
    · rcases List.mem_cons.mp ht with rfl | ht
      · exact ⟨_, rfl, .inr rfl⟩
      · cases ht
  obtain ⟨z, rfl, hz⟩ := this
  refine ⟨z, o', ?_, hz, h'⟩
  unfold m__law_shape dFn D__law_shape
  simp [dRet, dCallF, getsO, dCons, dNil, dC, dLst, dFz, O.er, ers, e, setsO]
/-- rules -/
inductive Ru where
  | two (second : Bool) (a b : Nat)
  | most (a k w : Nat)
deriving DecidableEq
def ltr (a : Nat) : Cs := [97 + a]
def Ru.t : Ru → T
  | .two false a b => .tup [.str [98, 101, 115, 105, 100, 101], .str (ltr a), .str (ltr b)]
  | .two true a b => .tup [.str [115, 101, 99, 111, 110, 100], .str (ltr a), .str (ltr b)]
  | .most a k w => .tup [.str [109, 111, 115, 116], .str (ltr a), .int k, .int w]
def Ru.ok (n : Nat) : Ru → Prop
  | .two _ a b => a < n ∧ b < n
  | .most a k w => a < n ∧ k < w ∧ 2 ≤ w ∧ w ≤ 4
theorem abc_at {v : Int} (h0 : 0 ≤ v) (h1 : v < 3) : ixT (.str [97, 98, 99]) (.int v) = some (.str (ltr v.toNat)) := by
  have : v = 0 ∨ v = 1 ∨ v = 2 := by omega
  rcases this with rfl | rfl | rfl <;> simp [ixT, atI_0, atI_1, atI_2, ltr, SZ]
theorem rule_ok {o : O} {n : Nat} (h : IsH o) (hn : n = 2 ∨ n = 3) : ∃ (r : Ru) (o' : O) (rest : Env), m__law_rule [some o, some (.fz (.int n))] = .ok (.fz r.t) (some o' :: rest) ∧ r.ok n ∧ IsH o' := by
  have hn3 : n ≤ 3 := by omega
  obtain ⟨t, o1, x1, e1, ht, h1⟩ := pick_ok h (ts := [.str [98, 101, 115, 105, 100, 101], .str [98, 101, 115, 105, 100, 101], .str [115, 101, 99, 111, 110, 100], .str [109, 111, 115, 116]]) (by decide) (by decide)
  obtain ⟨a, o2, y1, y2, e2, a0, a1, h2⟩ := next_ok h1 (cap := n) (by omega) (by omega)
  obtain ⟨b, o3, y3, y4, e3, b0, b1, h3⟩ := next_ok h2 (cap := n) (by omega) (by omega)
  have ha := abc_at a0 (by omega)
  have hb := abc_at b0 (by omega)
  have cases : t = .str [98, 101, 115, 105, 100, 101] ∨ t = .str [115, 101, 99, 111, 110, 100] ∨ t = .str [109, 111, 115, 116] := by
    rcases List.mem_cons.mp ht with rfl | ht
    · exact .inl rfl
    · rcases List.mem_cons.mp ht with rfl | ht
      · exact .inl rfl
      · rcases List.mem_cons.mp ht with rfl | ht
        · exact .inr (.inl rfl)
        · rcases List.mem_cons.mp ht with rfl | ht
          · exact .inr (.inr rfl)
          · cases ht
  have hpar : ∀ τ6, (dPar [2, 3, 4] (dConsO (dOf (dFz (dCallF 2 [0] m__law_pick (dCons (dFz (dLst (dCons (dC (.str [98, 101, 115, 105, 100, 101])) (dCons (dC (.str [98, 101, 115, 105, 100, 101])) (dCons (dC (.str [115, 101, 99, 111, 110, 100])) (dCons (dC (.str [109, 111, 115, 116])) (dNil))))))) (dNil))))) (dConsO (dOf (dFz (dCallF 2 [0] m__law_next (dCons (dV 1) (dNil))))) (dConsO (dOf
 (dFz (dCallF 2 [0] m__law_next (dCons (dV 1) (dNil))))) (dNilO))))) [some o, some (.fz (.int n)), none, none, none, τ6] = .ok .nx [some o3, some (.fz (.int n)), some (.fz t), some (.fz (.int a)), some (.fz (.int b)), τ6] := fun τ6 => by
    simp [lkE, dConsO, dNilO, dOf, dFz, dCallF, getsO, dCons, dNil, dC, dLst, O.er, ers, e1, e2, e3, setsO, dV, putsE]
  unfold m__law_rule dFn D__law_rule
  have sb : eqT (.str [98, 101, 115, 105, 100, 101]) (.str [109, 111, 115, 116]) = some (.bl false) := rfl
  have ss : eqT (.str [115, 101, 99, 111, 110, 100]) (.str [109, 111, 115, 116]) = some (.bl false) := rfl
  have sm : eqT (.str [109, 111, 115, 116]) (.str [109, 111, 115, 116]) = some (.bl true) := rfl
  rcases cases with rfl | rfl | rfl
  · refine ⟨.two false a.toNat b.toNat, o3, [some (.fz (.int n)), some (.fz (.str [98, 101, 115, 105, 100, 101])), some (.fz (.int a)), some (.fz (.int b)), none], ?_, ⟨by omega, by omega⟩, h3⟩
    simp [dSeq, hpar, dIfS, dBl, sb, dNx, dRet, dOf, dTup, dCons, dNil, dV, ixG, ha, hb, dOp, dC, Ru.t]
  · refine ⟨.two true a.toNat b.toNat, o3, [some (.fz (.int n)), some (.fz (.str [115, 101, 99, 111, 110, 100])), some (.fz (.int a)), some (.fz (.int b)), none], ?_, ⟨by omega, by omega⟩, h3⟩
    simp [dSeq, hpar, dIfS, dBl, ss, dNx, dRet, dOf, dTup, dCons, dNil, dV, ixG, ha, hb, dOp, dC, Ru.t]
  · obtain ⟨u, o4, y5, y6, e4, u0, u1, h4⟩ := next_ok h3 (cap := 3) (by omega) (by omega)
    obtain ⟨v, o5, y7, y8, e5, v0, v1, h5⟩ := next_ok h4 (cap := 2 + u) (by omega) (by omega)
    have hv : ((v.toNat : Nat) : Int) = v := Int.toNat_of_nonneg v0
    have hu : (((2 + u).toNat : Nat) : Int) = 2 + u := Int.toNat_of_nonneg (by omega)
    refine ⟨.most a.toNat v.toNat (2 + u).toNat, o5, [some (.fz (.int n)), some (.fz (.str [109, 111, 115, 116])), some (.fz (.int a)), some (.fz (.int b)), some (.fz (.int (2 + u)))], ?_, ⟨by omega, by omega, by omega, by omega⟩, h5⟩
    simp [dSeq, hpar, dIfS, dBl, sm, dNx, dSet, addT, dFz, dCallF, getsO, setsO, e4, e5, dRet, dOf, dTup, dCons, dNil, dV, ixG, ha, hb, dOp, dC, Ru.t, O.er, hv, hu]
theorem lc_rules {i j k n : Nat} (hn : n = 2 ∨ n = 3) (hij : i ≠ j) (hik : i ≠ k) (hjk : j ≠ k) : ∀ (ts : List T) (τ : Env) (o : O), τ[i]? = some (some o) → IsH o → τ[j]? = some (some (.fz (.int n))) → τ[k]? = some none →
    ∃ (rs : List Ru) (o' : O), lcL (gN k) dYes (dFz (dCallF 2 [i] m__law_rule (dCons (dV j) dNil))) [k] ts τ = .ok (rs.map Ru.t) (τ.set i (some o')) ∧ rs.length = ts.length ∧ (∀ r ∈ rs, r.ok n) ∧ IsH o'
  | [], τ, o, hi, ho, hj, hk => by
    refine ⟨[], o, ?_, rfl, by simp, ho⟩
    obtain ⟨h1, e⟩ := List.getElem?_eq_some_iff.mp hi
    have := List.set_getElem_self h1
    rw [e] at this
    rw [this]
    rfl
  | t :: ts, τ, o, hi, ho, hj, hk => by
    obtain ⟨r, o1, rest, e, hr, h1⟩ := rule_ok ho hn
    have hki := (List.getElem?_eq_some_iff.mp hi).1
    have hkk := (List.getElem?_eq_some_iff.mp hk).1
    have a1 : (τ.set k (some (.fz t)))[i]? = some (some o) := by rw [List.getElem?_set_ne (Ne.symm hik)]; exact hi
    have a2 : (τ.set k (some (.fz t)))[j]? = some (some (.fz (.int n))) := by rw [List.getElem?_set_ne (Ne.symm hjk)]; exact hj
    obtain ⟨rs, o', e2, g1, g2, g3⟩ := lc_rules hn hij hik hjk ts (τ.set i (some o1)) o1 (by rw [List.getElem?_set_self hki]) h1 (by rw [List.getElem?_set_ne hij]; exact hj) (by rw [List.getElem?_set_ne hik]; exact hk)
    have hw : ((τ.set k (some (.fz t))).set i (some o1)).set k none = τ.set i (some o1) := by
      rw [List.set_comm _ _ hik, List.set_set]
      have hk2 : (τ.set i (some o1))[k]? = some none := by rw [List.getElem?_set_ne hik]; exact hk
      rw [set_none hk]
    refine ⟨r :: rs, o', ?_, by simp [g1], fun q hq => ?_, g3⟩
    · have el : dFz (dCallF 2 [i] m__law_rule (dCons (dV j) dNil)) (τ.set k (some (.fz t))) = .ok r.t ((τ.set k (some (.fz t))).set i (some o1)) := by
        simp [dFz, dCallF, getsO, a1, dCons, dNil, dV, a2, e, setsO, O.er]
      simp only [lcL, gN, dYes, R.noX, R.bind_ok, el, wipeE, hw, e2, R.map_ok, List.map_cons, List.set_set]
    · rcases List.mem_cons.mp hq with rfl | hq
      · exact hr
      · exact g2 q hq
theorem six_ok {t : T} (ht : t ∈ [T.int 0, .int 1, .int 1, .int 2, .int 2, .int 3]) : ∃ m : Nat, t = .int m ∧ m ≤ 3 := by
  rcases List.mem_cons.mp ht with rfl | ht
  · exact ⟨0, rfl, by omega⟩
  rcases List.mem_cons.mp ht with rfl | ht
  · exact ⟨1, rfl, by omega⟩
  rcases List.mem_cons.mp ht with rfl | ht
  · exact ⟨1, rfl, by omega⟩
  rcases List.mem_cons.mp ht with rfl | ht
  · exact ⟨2, rfl, by omega⟩
  rcases List.mem_cons.mp ht with rfl | ht
  · exact ⟨2, rfl, by omega⟩
  rcases List.mem_cons.mp ht with rfl | ht
  · exact ⟨3, rfl, by omega⟩
  cases ht
def sixD : DE := dFz (dCallF 2 [0] m__law_pick (dCons (dFz (dLst (dCons (dC (.int 0)) (dCons (dC (.int 1)) (dCons (dC (.int 1)) (dCons (dC (.int 2)) (dCons (dC (.int 2)) (dCons (dC (.int 3)) (dNil))))))))) (dNil)))
theorem six_run {o o1 : O} {n : Int} {t : T} {x1 : Option O} (e1 : m__law_pick [some o, some (.fz (.lst [.int 0, .int 1, .int 1, .int 2, .int 2, .int 3]))] = .ok (.fz t) [some o1, x1]) : sixD [some o, some (.fz (.int n)), none] = .ok t [some o1, some (.fz (.int n)), none] := by
  simp only [sixD, dFz, dCallF, getsO, dCons, dNil, dC, dLst, List.getElem?_cons_zero, List.map_cons, List.map_nil, R.bind_ok, R.map_ok, List.length_cons, List.length_nil, O.er, ers, Option.isSome, Bool.true_eq_false, if_false, List.cons_append, List.nil_append]
  rw [if_pos (by decide)]
  simp only [R.bind_ok, R.map_ok, O.er, ers, List.map_cons, List.map_nil, List.getElem?_cons_zero, List.length_cons, List.length_nil, List.cons_append, List.nil_append]
  rw [if_pos (by decide), e1]
  rfl
def sixL : DO := dLc (dRng1 (dCons sixD dNil)) (gN 2) (dYes) (dFz (dCallF 2 [0] m__law_rule (dCons (dV 1) (dNil)))) [2]
theorem sixL_run {o o1 o' : O} {n : Int} {m : Nat} {ys : List T} (e1 : sixD [some o, some (.fz (.int n)), none] = .ok (.int m) [some o1, some (.fz (.int n)), none]) (hm : m ≤ 3)
    (e2 : lcL (gN 2) dYes (dFz (dCallF 2 [0] m__law_rule (dCons (dV 1) dNil))) [2] (rngL 0 m) [some o1, some (.fz (.int n)), none] = .ok ys [some o', some (.fz (.int n)), none]) : sixL [some o, some (.fz (.int n)), none] = .ok (.lst (ys.map .fz)) [some o', some (.fz (.int n)), none] := by
  refine lc_run (rng1_run e1 (inR_small hm)) (by rw [int_len]; omega) ?_
  exact e2
theorem rules_ok {o : O} {n : Nat} (h : IsH o) (hn : n = 2 ∨ n = 3) : ∃ (rs : List Ru) (o' : O) (rest : Env), m__law_rules [some o, some (.fz (.int n))] = .ok (.fz (.tup (rs.map Ru.t))) (some o' :: rest) ∧ rs.length ≤ 3 ∧ (∀ r ∈ rs, r.ok n) ∧ IsH o' := by
  obtain ⟨t, o1, x1, e1, ht, h1⟩ := pick_ok h (ts := [.int 0, .int 1, .int 1, .int 2, .int 2, .int 3]) (by decide) (by decide)
  obtain ⟨m, rfl, hm⟩ := six_ok ht
  obtain ⟨rs, o', e2, g1, g2, g3⟩ := lc_rules hn (i := 0) (j := 1) (k := 2) (by decide) (by decide) (by decide) (rngL 0 m) [some o1, some (.fz (.int n)), none] o1 rfl h1 rfl rfl
  rw [int_len] at g1
  refine ⟨rs, o', [some (.fz (.int n)), none], ?_, by omega, g2, g3⟩
  have lc := sixL_run (six_run e1) hm e2
  have ee : D__law_rules = dRet (dOf (dCall tupT (dCons (dFz sixL) dNil))) := rfl
  show ((D__law_rules [some o, some (.fz (.int n)), none]).bind _) = _
  rw [ee]
  simp only [dRet, dOf, dCall, dCons, dNil, dFz, lc, R.map_ok, R.bind_ok, O.er, ers_fz, tupT]
def nxD (i : Nat) (cap : Int) : DE := dFz (dCallF 2 [i] m__law_next (dCons (dC (.int cap)) dNil))
theorem nx_run {i : Nat} {cap : Int} {τ : Env} {o : O} (h : τ[i]? = some (some o)) (ho : IsH o) (h0 : 0 < cap) (h1 : cap < 2 ^ 60) : ∃ v o', nxD i cap τ = .ok (.int v) (τ.set i (some o')) ∧ 0 ≤ v ∧ v < cap ∧ IsH o' := by
  obtain ⟨v, o', x, y, e, g1, g2, g3⟩ := next_ok (cap := cap) ho h0 h1
  refine ⟨v, o', ?_, g1, g2, g3⟩
  unfold nxD
  exact (fz_run (o := .fz (.int v)) (call_run1 (ts := [.int cap]) h (cons_run dc_run nil_run) h rfl e)).trans rfl
/-! the seed -/
def mixB : DS := (dSet 2 (dOp modT (dCall intTS (dCons (dOp addT (dOp addT (dOp mulT (dV 2) (dC (.int 48271))) (dOp modT (dCall intTS (dCons (dV 3) (dNil))) (dC (.int 2147483629)))) (dC (.int 1))) (dNil))) (dC (.int 2147483647))))
theorem mix_for {x0 x1 : Option O} : ∀ (ns : List Int) (k : Int) (y : Option O), ∃ k' y', forL (gN 3) mixB (ns.map .int) [x0, x1, some (.fz (.int k)), y] = .ok .nx [x0, x1, some (.fz (.int k')), y']
  | [], k, y => ⟨k, y, rfl⟩
  | i :: ns, k, y => by
    have hm : mulT (.int k) (.int 48271) = some (.int (k * 48271)) := by
      show (if _ then _ else _) = _
      rw [if_pos (by rw [show small64 48271 = true by decide]; simp)]
    have hb : mixB [x0, x1, some (.fz (.int k)), some (.fz (.int i))] = .ok .nx [x0, x1, some (.fz (.int ((k * 48271 + i % 2147483629 + 1) % 2147483647))), some (.fz (.int i))] := by
      unfold mixB
      refine (set_run (t := .int ((k * 48271 + i % 2147483629 + 1) % 2147483647)) (τ1 := [x0, x1, some (.fz (.int k)), some (.fz (.int i))]) ?_).trans rfl
      refine op_run (s := .int (k * 48271 + i % 2147483629 + 1)) (t := .int 2147483647) (τ1 := [x0, x1, some (.fz (.int k)), some (.fz (.int i))]) ?_ dc_run rfl
      refine callg_run (ts := [.int (k * 48271 + i % 2147483629 + 1)]) (cons_run ?_ nil_run) rfl
      refine op_run (s := .int (k * 48271 + i % 2147483629)) (t := .int 1) (τ1 := [x0, x1, some (.fz (.int k)), some (.fz (.int i))]) ?_ dc_run rfl
      refine op_run (s := .int (k * 48271)) (t := .int (i % 2147483629)) (τ1 := [x0, x1, some (.fz (.int k)), some (.fz (.int i))]) (op_run (dv_run rfl) dc_run hm) ?_ rfl
      exact op_run (s := .int i) (t := .int 2147483629) (callg_run (ts := [.int i]) (cons_run (dv_run rfl) nil_run) rfl) dc_run rfl
    obtain ⟨k', y', e⟩ := mix_for ns ((k * 48271 + i % 2147483629 + 1) % 2147483647) (some (.fz (.int i)))
    refine ⟨k', y', ?_⟩
    have hg : gN 3 (.int i) [x0, x1, some (.fz (.int k)), y] = some [x0, x1, some (.fz (.int k)), some (.fz (.int i))] := rfl
    rw [List.map_cons, forL, hg]
    dsimp only
    rw [hb, R.bind_ok]
    exact e
theorem mix_ok {ns : List Int} {seed : Int} (h : ns.length ≤ 63) : ∃ o τ, m__law_mix [some (.fz (.scr ns)), some (.fz (.int seed))] = .ok o τ ∧ IsH o := by
  obtain ⟨k', y', e⟩ := mix_for (x0 := some (.fz (.scr ns))) (x1 := some (.fz (.int seed))) ns seed none
  refine ⟨eH k' ns 0, [some (.fz (.scr ns)), some (.fz (.int seed)), some (.fz (.int k')), y'], ?_, k', ns, 0, rfl, h⟩
  refine fn_run (d := D__law_mix) (τ0 := [some (.fz (.scr ns)), some (.fz (.int seed)), none, none]) rfl ?_
  unfold D__law_mix
  refine (seq_run (τ1 := [some (.fz (.scr ns)), some (.fz (.int seed)), some (.fz (.int seed)), none]) rfl).trans ?_
  refine (seq_run (τ1 := [some (.fz (.scr ns)), some (.fz (.int seed)), some (.fz (.int k')), y']) ?_).trans ?_
  · exact (for_run (ts := ns.map T.int) (τ1 := [some (.fz (.scr ns)), some (.fz (.int seed)), some (.fz (.int seed)), none]) rfl).trans e
  refine ret_run ?_
  have hn : dCallN listN2 (dCons (dV 0) dNil) [some (.fz (.scr ns)), some (.fz (.int seed)), some (.fz (.int k')), y'] = .ok (.lst (ns.map fun i => .fz (.int i))) [some (.fz (.scr ns)), some (.fz (.int seed)), some (.fz (.int k')), y'] := by
    refine (callN_run (ts := [.scr ns]) (us := ns.map T.int) (cons_run (dv_run rfl) nil_run) rfl).trans ?_
    rw [List.map_map]
    rfl
  unfold dLstO dConsO dNilO
  rw [of_run (dv_run (i := 2) (t := .int k') rfl), R.bind_ok, hn, R.bind_ok]
  rfl
end TL
set_option Elab.async false
set_option linter.all false
set_option maxRecDepth 100000
set_option maxHeartbeats 0
namespace TL
open PySem PySem.Spec L2

/-! the words of a rule -/
def dig (n : Nat) : Cs := [48 + n]
def Ru.its : Ru → List T
  | .two false a b => [.str [98, 101, 115, 105, 100, 101], .str (ltr a), .str (ltr b)]
  | .two true a b => [.str [115, 101, 99, 111, 110, 100], .str (ltr a), .str (ltr b)]
  | .most a k w => [.str [109, 111, 115, 116], .str (ltr a), .int k, .int w]
theorem Ru.t_eq (r : Ru) : r.t = .tup r.its := by
  cases r with
  | two s a b => cases s <;> rfl
  | most a k w => rfl
/-- every good rule stands here -/
def allRu (n : Nat) : List Ru :=
  ([false, true].flatMap fun s => (List.range n).flatMap fun a => (List.range n).map fun b => .two s a b) ++
  (List.range n).flatMap fun a => [2, 3, 4].flatMap fun w => (List.range w).map fun k => .most a k w
theorem mem_allRu {n : Nat} {r : Ru} (h : r.ok n) : r ∈ allRu n := by
  unfold allRu
  cases r with
  | two s a b =>
    obtain ⟨h1, h2⟩ := h
    refine List.mem_append_left _ ?_
    rw [List.mem_flatMap]
    refine ⟨s, by cases s <;> simp, ?_⟩
    rw [List.mem_flatMap]
    exact ⟨a, List.mem_range.mpr h1, List.mem_map.mpr ⟨b, List.mem_range.mpr h2, rfl⟩⟩
  | most a k w =>
    obtain ⟨h1, h2, h3, h4⟩ := h
    refine List.mem_append_right _ ?_
    rw [List.mem_flatMap]
    refine ⟨a, List.mem_range.mpr h1, ?_⟩
    rw [List.mem_flatMap]
    refine ⟨w, ?_, List.mem_map.mpr ⟨k, List.mem_range.mpr h2, rfl⟩⟩
    have : w = 2 ∨ w = 3 ∨ w = 4 := by omega
    rcases this with rfl | rfl | rfl <;> simp
theorem fin_check {P : Nat → Ru → Bool} (h2 : (allRu 2).all (P 2) = true) (h3 : (allRu 3).all (P 3) = true) {n : Nat} (hn : n = 2 ∨ n = 3) {r : Ru} (h : r.ok n) : P n r = true := by
  rcases hn with rfl | rfl
  · exact List.all_eq_true.mp h2 r (mem_allRu h)
  · exact List.all_eq_true.mp h3 r (mem_allRu h)
theorem is_rule_ok {n : Nat} (hn : n = 2 ∨ n = 3) {r : Ru} (h : r.ok n) : ∃ τ, m_is_rule [some (.fz (.int n)), some (.fz r.t)] = .ok (.fz (.bl true)) τ :=
  isT_ok (fin_check (P := fun n r => isT (m_is_rule [some (.fz (.int (n : Nat))), some (.fz r.t)])) (by decide +kernel) (by decide +kernel) hn h)
theorem shape_in {z : Cs} (hz : z = [99, 111, 114, 100] ∨ z = [114, 105, 110, 103]) : notInV (.str z) c_SHAPES = some (.bl false) := by
  rcases hz with rfl | rfl <;> rfl
theorem is_int_ok {n : Nat} (hn : n = 2 ∨ n = 3) : ∃ τ, m_is_integer [some (.fz (.int n)), some (.fz (.int 2)), some (.fz (.int 3))] = .ok (.fz (.bl true)) τ := by
  rcases hn with rfl | rfl
  · exact isT_ok (by decide +kernel)
  · exact isT_ok (by decide +kernel)
/-! equal rules -/
theorem rules_dat {n : Nat} (hn : n = 2 ∨ n = 3) : ∀ {rs : List Ru}, (∀ r ∈ rs, r.ok n) → areD (rs.map Ru.t) = true ∧ PyData.canLayAll0 (pds (rs.map Ru.t)) = true ∧ PyData.depthAll (pds (rs.map Ru.t)) ≤ 10
  | [], _ => ⟨rfl, rfl, by show 0 ≤ 10; decide⟩
  | r :: rs, h => by
    obtain ⟨h1, h2, h3⟩ := rules_dat hn (rs := rs) fun q hq => h q (List.mem_cons_of_mem _ hq)
    have := fin_check (P := fun n r => r.t.isD && (PyData.canLay0 r.t.pd && decide (PyData.depth r.t.pd ≤ 10))) (by decide +kernel) (by decide +kernel) hn (h r List.mem_cons_self)
    rw [Bool.and_eq_true, Bool.and_eq_true] at this
    obtain ⟨g1, g2, g3⟩ := this
    have g4 := of_decide_eq_true g3
    refine ⟨?_, ?_, ?_⟩
    · show (r.t.isD && areD (rs.map Ru.t)) = true
      rw [g1, h1]
      rfl
    · show (PyData.canLay0 r.t.pd && PyData.canLayAll0 (pds (rs.map Ru.t))) = true
      rw [g2, h2]
      rfl
    · show max (PyData.depth r.t.pd) (PyData.depthAll (pds (rs.map Ru.t))) ≤ 10
      omega
theorem rules_eq {n : Nat} (hn : n = 2 ∨ n = 3) {rs : List Ru} (h : ∀ r ∈ rs, r.ok n) : eqT (.tup (rs.map Ru.t)) (.tup (rs.map Ru.t)) = some (.bl true) := by
  obtain ⟨h1, h2, h3⟩ := rules_dat hn h
  have hk : okD (.tup (rs.map Ru.t)) = true := by
    show (areD (rs.map Ru.t) && (PyData.canLayAll0 (pds (rs.map Ru.t)) && decide (PyData.depthAll (pds (rs.map Ru.t)) + 1 ≤ 64))) = true
    rw [h1, h2, decide_eq_true (by omega)]
    rfl
  have hq : PyData.eqv (T.tup (rs.map Ru.t)).pd (T.tup (rs.map Ru.t)).pd = true := PySem.SeqAt.eqv_refl _ (by
    show PyData.canLayAll0 (pds (rs.map Ru.t)) = true
    exact h2)
  show (if (okD (.tup (rs.map Ru.t)) && okD (.tup (rs.map Ru.t))) = true then some (T.bl (PyData.eqv (T.tup (rs.map Ru.t)).pd (T.tup (rs.map Ru.t)).pd)) else none) = _
  rw [hk, hq]
  rfl
def bkT (n : Nat) (z : Cs) (rs : List Ru) : T := .obj 13 [.int n, .str z, .tup (rs.map Ru.t)]
end TL
set_option Elab.async false
set_option linter.all false
set_option maxRecDepth 100000
set_option maxHeartbeats 0
namespace TL
open PySem PySem.Spec L2

/-! the book -/
def bkBody : DS := (dIfS (dNot (dTru (dFz (dCallF 2 [] m_is_rule (dCons (dV 1) (dCons (dV 5) (dNil))))))) (dStuck) (dNx))
def bkG : DG := (gT 2 (gsCons (gN 4) (gsCons (gN 5) (gsNil))))
theorem book_for {n : Nat} (hn : n = 2 ∨ n = 3) {x0 x2 x3 : Option O} : ∀ (rs : List Ru) (j : Nat) (a b : Option O), (∀ r ∈ rs, r.ok n) →
    ∃ a' b', forL bkG bkBody (((rs.map Ru.t).zipIdx j).map fun p => .tup [.int (p.2 : Nat), p.1]) [x0, some (.fz (.int n)), x2, x3, a, b] = .ok .nx [x0, some (.fz (.int n)), x2, x3, a', b']
  | [], j, a, b, _ => ⟨a, b, rfl⟩
  | r :: rs, j, a, b, h => by
    obtain ⟨τ, e⟩ := is_rule_ok hn (h r List.mem_cons_self)
    obtain ⟨a', b', ih⟩ := book_for hn rs (j + 1) (some (.fz (.int j))) (some (.fz r.t)) fun q hq => h q (List.mem_cons_of_mem _ hq)
    refine ⟨a', b', ?_⟩
    have hg : bkG (.tup [.int (j : Nat), r.t]) [x0, some (.fz (.int n)), x2, x3, a, b] = some [x0, some (.fz (.int n)), x2, x3, some (.fz (.int j)), some (.fz r.t)] := rfl
    have hb : bkBody [x0, some (.fz (.int n)), x2, x3, some (.fz (.int j)), some (.fz r.t)] = .ok .nx [x0, some (.fz (.int n)), x2, x3, some (.fz (.int j)), some (.fz r.t)] := by
      unfold bkBody
      refine if_fn (not_t ?_)
      refine tru_run (t := .bl true) ?_ rfl
      refine (fz_run (o := .fz (.bl true)) ?_).trans rfl
      refine call_run (ts := [.int n, r.t]) (n := 2) ?_ rfl e
      exact cons_run (dv_run rfl) (cons_run (dv_run rfl) nil_run)
    show forL bkG bkBody (.tup [.int (j : Nat), r.t] :: (((rs.map Ru.t).zipIdx (j + 1)).map fun p => .tup [.int (p.2 : Nat), p.1])) _ = _
    rw [forL, hg]
    dsimp only
    rw [hb, R.bind_ok]
    exact ih
theorem book_ok {n : Nat} (hn : n = 2 ∨ n = 3) {z : Cs} (hz : z = [99, 111, 114, 100] ∨ z = [114, 105, 110, 103]) {rs : List Ru} (h : ∀ r ∈ rs, r.ok n) (hl : rs.length ≤ 4) :
    ∃ rest, m_Book___init__ [some (.obj 10 []), some (.fz (.int n)), some (.fz (.str z)), some (.fz (.tup (rs.map Ru.t)))] = .ok (.fz .non) (some (.obj 13 [.fz (.int n), .fz (.str z), .fz (.tup (rs.map Ru.t))]) :: rest) := by
  obtain ⟨τ, e⟩ := is_int_ok hn
  obtain ⟨a', b', ef⟩ := book_for hn (x0 := some (.obj 10 [])) (x2 := some (.fz (.str z))) (x3 := some (.fz (.tup (rs.map Ru.t)))) rs 0 none none h
  refine ⟨[some (.fz (.int n)), some (.fz (.str z)), some (.fz (.tup (rs.map Ru.t))), a', b'], ?_⟩
  refine fn_run0 (d := D_Book___init__) (τ0 := [some (.obj 10 []), some (.fz (.int n)), some (.fz (.str z)), some (.fz (.tup (rs.map Ru.t))), none, none]) rfl ?_
  unfold D_Book___init__
  refine (seqif_f (τ1 := [some (.obj 10 []), some (.fz (.int n)), some (.fz (.str z)), some (.fz (.tup (rs.map Ru.t))), none, none]) ?_).trans ?_
  · refine not_t (tru_run (t := .bl true) ?_ rfl)
    refine (fz_run (o := .fz (.bl true)) ?_).trans rfl
    refine call_run (ts := [.int n, .int 2, .int 3]) (n := 3) ?_ rfl e
    refine cons_run (dv_run rfl) (cons_run dc_run (cons_run ?_ nil_run))
    exact callg_run (cons_run dc_run nil_run) rfl
  refine (seqif_f (τ1 := [some (.obj 10 []), some (.fz (.int n)), some (.fz (.str z)), some (.fz (.tup (rs.map Ru.t))), none, none]) ?_).trans ?_
  · refine (or_f (τ1 := [some (.obj 10 []), some (.fz (.int n)), some (.fz (.str z)), some (.fz (.tup (rs.map Ru.t))), none, none]) ?_).trans ?_
    · refine not_t (tru_run (t := .bl true) ?_ rfl)
      exact callg_run (cons_run (dv_run rfl) (cons_run dc_run nil_run)) rfl
    · exact bl_run (op_run (dv_run rfl) dc_run (shape_in hz))
  refine (seqif_f (τ1 := [some (.obj 10 []), some (.fz (.int n)), some (.fz (.str z)), some (.fz (.tup (rs.map Ru.t))), none, none]) ?_).trans ?_
  · refine (or_f (τ1 := [some (.obj 10 []), some (.fz (.int n)), some (.fz (.str z)), some (.fz (.tup (rs.map Ru.t))), none, none]) ?_).trans ?_
    · refine not_t (tru_run (t := .bl true) ?_ rfl)
      exact callg_run (cons_run (dv_run rfl) (cons_run dc_run nil_run)) rfl
    · refine bl_run (op_run (callg_run (u := .int (rs.map Ru.t).length) (cons_run (dv_run rfl) nil_run) rfl) dc_run ?_)
      show some (T.bl (decide ((4 : Int) < ((rs.map Ru.t).length : Int)))) = _
      rw [decide_eq_false (by simp; omega)]
  refine (seq_run (τ1 := [some (.obj 10 []), some (.fz (.int n)), some (.fz (.str z)), some (.fz (.tup (rs.map Ru.t))), a', b']) ?_).trans rfl
  refine (for_run (ts := (((rs.map Ru.t).zipIdx 0).map fun p => .tup [.int (p.2 : Nat), p.1])) (τ1 := [some (.obj 10 []), some (.fz (.int n)), some (.fz (.str z)), some (.fz (.tup (rs.map Ru.t))), none, none]) rfl).trans ef
end TL
set_option Elab.async false
set_option linter.all false
set_option maxRecDepth 100000
set_option maxHeartbeats 0
namespace TL
open PySem PySem.Spec L2

/-! texts cut and joined -/
theorem pre_one {c x : Nat} {r : List Nat} : pre [c] (x :: r) = (x == c) := by
  unfold pre
  show ((x :: r).take 1 == [c]) = _
  rw [List.take_succ_cons, List.take_zero]
  cases h : x == c with
  | true => rw [beq_iff_eq.mp h]; simp
  | false =>
    have := beq_eq_false_iff_ne.mp h
    simp [this]
theorem spl_hit1 {c : Nat} {acc r : List Nat} : spl [c] 0 acc (c :: r) = acc :: spl [c] 0 [] r := by
  have h : pre [c] (c :: r) = true := by rw [pre_one]; simp
  show (if pre [c] (c :: r) = true then _ else _) = _
  rw [if_pos h]
  rfl
theorem spl_miss1 {c x : Nat} {acc r : List Nat} (hx : x ≠ c) : spl [c] 0 acc (x :: r) = spl [c] 0 (acc ++ [x]) r := by
  have h : ¬ pre [c] (x :: r) = true := by rw [pre_one]; simpa using hx
  show (if pre [c] (x :: r) = true then _ else _) = _
  rw [if_neg h]
theorem spl_word {c : Nat} : ∀ {w : List Nat} {acc r : List Nat}, c ∉ w → spl [c] 0 acc (w ++ r) = spl [c] 0 (acc ++ w) r
  | [], acc, r, _ => by simp
  | x :: w, acc, r, h => by
    rw [List.cons_append, spl_miss1 (fun z => h (by simp [z])), spl_word (fun z => h (List.mem_cons_of_mem _ z))]
    simp
theorem spl_end {c : Nat} {acc w : List Nat} (h : c ∉ w) : spl [c] 0 acc w = [acc ++ w] := by
  have := spl_word (acc := acc) (r := []) h
  rw [List.append_nil] at this
  rw [this]
  rfl
theorem spl_joinL {c : Nat} : ∀ {l : List (List Nat)}, l ≠ [] → (∀ w ∈ l, c ∉ w) → spl [c] 0 [] (joinL [c] l) = l
  | [], h, _ => absurd rfl h
  | [w], _, h => by
    have : joinL [c] [w] = w := by simp [joinL]
    rw [this, spl_end (h w List.mem_cons_self)]
    simp
  | w :: v :: l, _, h => by
    have e : joinL [c] (w :: v :: l) = w ++ (c :: joinL [c] (v :: l)) := by simp [joinL]
    rw [e, spl_word (h w List.mem_cons_self), spl_hit1, spl_joinL (by simp) (fun u hu => h u (List.mem_cons_of_mem _ hu))]
    simp
/-- the pieces that are not empty -/
def toks (l : List Nat) : List (List Nat) := (spl [32] 0 [] l).filter (· ≠ [])
theorem toks_join {l : List (List Nat)} (h : ∀ w ∈ l, w ≠ [] ∧ 32 ∉ w) (hl : l ≠ []) : toks (joinL [32] l) = l := by
  unfold toks
  rw [spl_joinL hl fun w hw => (h w hw).2]
  rw [List.filter_eq_self]
  intro w hw
  simpa using (h w hw).1
theorem join_mem {c x : Nat} : ∀ {l : List (List Nat)}, x ∈ joinL [c] l → x = c ∨ ∃ w ∈ l, x ∈ w
  | [], h => by simp [joinL] at h
  | [w], h => by
    have e : joinL [c] [w] = w := by simp [joinL]
    rw [e] at h
    exact .inr ⟨w, List.mem_cons_self, h⟩
  | w :: v :: l, h => by
    have e : joinL [c] (w :: v :: l) = w ++ (c :: joinL [c] (v :: l)) := by simp [joinL]
    rw [e, List.mem_append, List.mem_cons] at h
    rcases h with h | h | h
    · exact .inr ⟨w, List.mem_cons_self, h⟩
    · exact .inl h
    · rcases join_mem h with h | ⟨u, hu, h⟩
      · exact .inl h
      · exact .inr ⟨u, List.mem_cons_of_mem _ hu, h⟩
def Ru.ws : Ru → List Cs
  | .two false a b => [[98, 101, 115, 105, 100, 101], ltr a, ltr b]
  | .two true a b => [[115, 101, 99, 111, 110, 100], ltr a, ltr b]
  | .most a k w => [[109, 111, 115, 116], ltr a, dig k, dig w]
theorem words_good {n : Nat} (hn : n = 2 ∨ n = 3) {r : Ru} (h : r.ok n) : ∀ w ∈ r.ws, w ≠ [] ∧ 32 ∉ w ∧ 10 ∉ w := by
  have := fin_check (P := fun n r => r.ws.all fun w => decide (w ≠ []) && (!w.contains 32 && !w.contains 10)) (by decide +kernel) (by decide +kernel) hn h
  intro w hw
  have h1 := List.all_eq_true.mp this w hw
  simp at h1
  exact ⟨h1.1, h1.2.1, h1.2.2⟩
theorem split_ok {s : Cs} {c : Nat} (hc : c < 256) (h : s.length ≤ 9000) : splitG (.str s) [.str [c]] = some ((spl [c] 0 [] s).map .str) := by
  unfold splitG
  exact if_pos ⟨hc, le_SZ4 (by omega)⟩
/-! a line -/
def lnO (ws : List Cs) (k sp : Int) : O := .obj 23 [.fz (.lst (ws.map .str)), .fz (.int k), .fz (.int sp)]
theorem lc_toks {a b c : Option O} : ∀ (l : List Cs), lcL (gN 3) (dBl (dOp neT (dV 3) (dC (.str [])))) (dV 3) [3] (l.map .str) [a, b, c, none] = .ok ((l.filter (· ≠ [])).map .str) [a, b, c, none]
  | [] => rfl
  | w :: l => by
    have ih := lc_toks (a := a) (b := b) (c := c) l
    have hg : gN 3 (.str w) [a, b, c, none] = some [a, b, c, some (.fz (.str w))] := rfl
    have hp : dBl (dOp neT (dV 3) (dC (.str []))) [a, b, c, some (.fz (.str w))] = .ok (!decide (w = [])) [a, b, c, some (.fz (.str w))] := rfl
    have hd : dV 3 [a, b, c, some (.fz (.str w))] = .ok (.str w) [a, b, c, some (.fz (.str w))] := rfl
    have hw : wipeE [a, b, c, some (.fz (.str w))] [3] = [a, b, c, none] := rfl
    rw [List.map_cons, lcL, hg]
    dsimp only
    rw [hp]
    by_cases h : w = []
    · subst h
      simp only [R.noX, R.bind_ok, decide_true, Bool.not_true, hw, ih]
      simp
    · simp only [R.noX, R.bind_ok, decide_eq_false h, Bool.not_false, hd, hw, ih, R.map_ok]
      simp [h]
theorem line_init {s : Cs} (h : s.length ≤ 900) (k : Int) : ∃ rest, m_Line___init__ [some (.obj 20 []), some (.fz (.str s)), some (.fz (.int k))] = .ok (.fz .non) (some (lnO (toks s) k 0) :: rest) := by
  refine ⟨[some (.fz (.str s)), some (.fz (.int k)), none], ?_⟩
  refine fn_run0 (d := D_Line___init__) (τ0 := [some (.obj 20 []), some (.fz (.str s)), some (.fz (.int k)), none]) rfl ?_
  unfold D_Line___init__
  have hl : dLc (dItems (dFz (dMethN isStr splitG (dV 1) (dCons (dC (.str [32])) (dNil))))) (gN 3) (dBl (dOp neT (dV 3) (dC (.str [])))) (dV 3) [3] [some (.obj 20 []), some (.fz (.str s)), some (.fz (.int k)), none] = .ok (.lst (((toks s).map T.str).map .fz)) [some (.obj 20 []), some (.fz (.str s)), some (.fz (.int k)), none] := by
    refine lc_run (ts := (spl [32] 0 [] s).map .str) (τ1 := [some (.obj 20 []), some (.fz (.str s)), some (.fz (.int k)), none]) ?_ ?_ (lc_toks _)
    · refine items_run (t := .lst ((spl [32] 0 [] s).map .str)) (fzl_run (methN_run (s := .str s) (ts := [.str [32]]) (dv_run rfl) rfl (cons_run dc_run nil_run) (split_ok (by decide) (by omega)))) rfl
    · rw [List.length_map, spl_len]
      have := List.count_le_length (a := 32) (l := s)
      omega
  refine (seq_run (τ1 := [some (.obj 21 [.fz (.lst ((toks s).map .str))]), some (.fz (.str s)), some (.fz (.int k)), none]) ?_).trans rfl
  exact setF_run (of_run (fzl_run hl)) rfl rfl
theorem par2_run {i j : Nat} {d e : DO} {τ τ1 τ2 : Env} {a b : O} (h1 : d τ = .ok a τ1) (h2 : e τ1 = .ok b τ2) (hi : i < τ2.length) (hj : j < τ2.length) : dPar [i, j] (dConsO d (dConsO e dNilO)) τ = .ok .nx ((τ2.set j (some b)).set i (some a)) := by
  show lkE (dConsO d (dConsO e dNilO)) [i, j] τ = _
  unfold lkE dConsO dNilO
  rw [h1]
  simp only [R.bind_ok, R.map_ok, h2]
  rw [if_pos ⟨rfl, by simp [hi, hj]⟩]
  rfl
theorem en_run {d : DL} {τ τ1 : Env} {l : List T} (h : d τ = .ok [.lst l] τ1) : dEn d τ = .ok (l.zipIdx.map fun p => .tup [.int (p.2 : Nat), p.1]) τ1 := by
  unfold dEn
  rw [h]
  rfl
theorem cut_tail {α : Type} {x : α} {l : List α} : cutL (x :: l) (some 1) none = l := by
  have e1 : HT.sIx (x :: l).length 0 (some 1) = 1 := by simp [HT.sIx]
  have e2 : HT.sIx (x :: l).length (x :: l).length none = (x :: l).length := by simp [HT.sIx]
  unfold cutL
  rw [e1, e2]
  simp
theorem join_len {c : Nat} : ∀ {l : List Cs} {k : Nat}, (∀ w ∈ l, w.length ≤ k) → (joinL [c] l).length ≤ l.length * (k + 1)
  | [], k, h => by simp [joinL]
  | [w], k, h => by
    have e : joinL [c] [w] = w := by simp [joinL]
    have := h w List.mem_cons_self
    rw [e]
    simp
    omega
  | w :: v :: l, k, h => by
    have e : joinL [c] (w :: v :: l) = w ++ (c :: joinL [c] (v :: l)) := by simp [joinL]
    have h1 := h w List.mem_cons_self
    have ih := join_len (c := c) (l := v :: l) (k := k) fun u hu => h u (List.mem_cons_of_mem _ hu)
    rw [e, List.length_append, List.length_cons, List.length_cons, Nat.add_mul, Nat.one_mul]
    omega
/-! texts of things -/
def strL : List T → Option (List Cs)
  | [] => some []
  | t :: ts => match strT [t], strL ts with
    | some (.str w), some r => some (w :: r)
    | _, _ => none
theorem lc_str {i : Nat} : ∀ {its : List T} {ws : List Cs} {τ : Env}, τ[i]? = some none → strL its = some ws → lcL (gN i) dYes (dCall strT (dCons (dV i) dNil)) [i] its τ = .ok (ws.map .str) τ
  | [], ws, τ, h, e => by
    cases e
    rfl
  | t :: ts, ws, τ, h, e => by
    unfold strL at e
    split at e
    case h_2 => cases e
    rename_i w r h1 h2
    cases e
    have ih := lc_str (i := i) h h2
    have hd : dCall strT (dCons (dV i) dNil) (τ.set i (some (.fz t))) = .ok (.str w) (τ.set i (some (.fz t))) := callg_run (cons_run (dv_run (get_set h)) nil_run) h1
    rw [lcL, gN_ok h]
    simp only [dYes, R.noX, R.bind_ok, hd, wipe_same h, ih, R.map_ok, List.map_cons]
def small (ws : List Cs) : Prop := ws.length ≤ 4 ∧ ∀ w ∈ ws, w.length ≤ 6
theorem sum_le {k : Nat} : ∀ {l : List Cs}, (∀ w ∈ l, w.length ≤ k) → (l.map List.length).sum ≤ l.length * k
  | [], _ => by simp
  | w :: l, h => by
    have h1 := h w List.mem_cons_self
    have h2 := sum_le (l := l) fun v hv => h v (List.mem_cons_of_mem _ hv)
    rw [List.map_cons, List.sum_cons, List.length_cons, Nat.add_mul, Nat.one_mul]
    omega
theorem strsT_ok : ∀ ws : List Cs, strsT (ws.map .str) = some ws
  | [] => rfl
  | w :: ws => by
    show (strsT (ws.map .str)).map _ = _
    rw [strsT_ok ws]
    rfl
theorem join_ok {c : Nat} {ws : List Cs} {k : Nat} (h : ∀ w ∈ ws, w.length ≤ k) (hk : ws.length * k + ws.length ≤ 9000) : joinG (.str [c]) [.lst (ws.map .str)] = some (.str (joinL [c] ws)) := by
  have := sum_le h
  show (strsT (ws.map .str)).bind _ = _
  rw [strsT_ok, Option.bind_some, if_pos (le_SZ4 (by simp; omega))]
def rowD (i j : Nat) : DE := dMeth isStr joinG (dC (.str [32])) (dCons (dFz (dLc (dItems (dV i)) (gN j) (dYes) (dCall strT (dCons (dV j) (dNil))) [j])) (dNil))
theorem row_run {i j : Nat} {τ : Env} {its : List T} {ws : List Cs} (hi : τ[i]? = some (some (.fz (.tup its)))) (hj : τ[j]? = some none) (hs : strL its = some ws) (hl : its.length ≤ 10) (hw : small ws) : rowD i j τ = .ok (.str (joinL [32] ws)) τ := by
  unfold rowD
  refine meth_run (s := .str [32]) (ts := [.lst (ws.map .str)]) dc_run rfl (cons_run (fzl_run ?_) nil_run) (join_ok hw.2 (by have := hw.1; omega))
  refine lc_run (ts := its) (τ1 := τ) (items_run (dv_run hi) rfl) (by omega) ?_
  have : wipeE τ [j] = τ := set_none hj
  rw [this]
  exact lc_str hj hs
theorem lc_rows {i j : Nat} (hij : i ≠ j) : ∀ {L : List (List T × List Cs)} {τ : Env}, τ[i]? = some none → τ[j]? = some none → (∀ p ∈ L, strL p.1 = some p.2 ∧ p.1.length ≤ 10 ∧ small p.2) →
    lcL (gN i) dYes (rowD i j) [i] (L.map fun p => .tup p.1) τ = .ok (L.map fun p => .str (joinL [32] p.2)) τ
  | [], τ, _, _, _ => rfl
  | (its, ws) :: L, τ, hi, hj, h => by
    obtain ⟨h1, h2, h3⟩ := h (its, ws) List.mem_cons_self
    have ih := lc_rows hij hi hj fun p hp => h p (List.mem_cons_of_mem _ hp)
    have hd : rowD i j (τ.set i (some (.fz (.tup its)))) = .ok (.str (joinL [32] ws)) (τ.set i (some (.fz (.tup its)))) := row_run (get_set hi) (by rw [List.getElem?_set_ne hij]; exact hj) h1 h2 h3
    rw [List.map_cons, lcL, gN_ok hi]
    simp only [dYes, R.noX, R.bind_ok, hd, wipe_same hi, ih, R.map_ok, List.map_cons]
theorem Ru.strs {n : Nat} (hn : n = 2 ∨ n = 3) {r : Ru} (h : r.ok n) : strL r.its = some r.ws := by
  have := fin_check (P := fun n r => decide (strL r.its = some r.ws)) (by decide +kernel) (by decide +kernel) hn h
  exact of_decide_eq_true this
theorem Ru.small {n : Nat} (hn : n = 2 ∨ n = 3) {r : Ru} (h : r.ok n) : small r.ws := by
  have := fin_check (P := fun n r => decide (r.ws.length ≤ 4) && r.ws.all fun w => decide (w.length ≤ 6)) (by decide +kernel) (by decide +kernel) hn h
  rw [Bool.and_eq_true, List.all_eq_true] at this
  exact ⟨of_decide_eq_true this.1, fun w hw => of_decide_eq_true (this.2 w hw)⟩
theorem Ru.its_len (r : Ru) : r.its.length ≤ 10 := by
  cases r with
  | two s a b => cases s <;> (show 3 ≤ 10; decide)
  | most a k w => show 4 ≤ 10; decide
/-- the lines of a book: their words -/
def bkW (n : Nat) (z : Cs) (rs : List Ru) : List (List Cs) := [z, dig n] :: rs.map Ru.ws
def bkP (n : Nat) (z : Cs) (rs : List Ru) : List (List T × List Cs) := ([.str z, .int n], [z, dig n]) :: rs.map fun r => (r.its, r.ws)
theorem head_strs {n : Nat} (hn : n = 2 ∨ n = 3) {z : Cs} (hz : z = [99, 111, 114, 100] ∨ z = [114, 105, 110, 103]) : strL [.str z, .int n] = some [z, dig n] ∧ small [z, dig n] := by
  constructor
  · have h : ((n = 2 ∨ n = 3) ∧ (z = [99, 111, 114, 100] ∨ z = [114, 105, 110, 103])) := ⟨hn, hz⟩
    refine of_decide_eq_true ?_
    rcases hn with rfl | rfl <;> rcases hz with rfl | rfl <;> decide +kernel
  · refine ⟨by simp, fun w hw => ?_⟩
    rcases List.mem_cons.mp hw with rfl | hw
    · rcases hz with rfl | rfl <;> decide
    · rcases List.mem_cons.mp hw with rfl | hw
      · simp [dig]
      · cases hw
theorem bkP_ok {n : Nat} (hn : n = 2 ∨ n = 3) {z : Cs} (hz : z = [99, 111, 114, 100] ∨ z = [114, 105, 110, 103]) {rs : List Ru} (h : ∀ r ∈ rs, r.ok n) : ∀ p ∈ bkP n z rs, strL p.1 = some p.2 ∧ p.1.length ≤ 10 ∧ small p.2 := by
  intro p hp
  rcases List.mem_cons.mp hp with rfl | hp
  · exact ⟨(head_strs hn hz).1, by simp, (head_strs hn hz).2⟩
  · obtain ⟨r, hr, rfl⟩ := List.mem_map.mp hp
    exact ⟨Ru.strs hn (h r hr), r.its_len, Ru.small hn (h r hr)⟩
theorem bkP_t {n : Nat} {z : Cs} {rs : List Ru} : ((bkP n z rs).map fun p => T.tup p.1) = .tup [.str z, .int n] :: rs.map Ru.t := by
  show T.tup [.str z, .int n] :: ((rs.map fun r => (r.its, r.ws)).map fun p => T.tup p.1) = _
  rw [List.map_map]
  congr 1
  refine List.map_congr_left fun r _ => ?_
  exact r.t_eq.symm
theorem bkP_w {n : Nat} {z : Cs} {rs : List Ru} : ((bkP n z rs).map fun p => T.str (joinL [32] p.2)) = ((bkW n z rs).map (joinL [32])).map .str := by
  show T.str _ :: ((rs.map fun r => (r.its, r.ws)).map fun p => T.str (joinL [32] p.2)) = T.str _ :: (((rs.map Ru.ws).map (joinL [32])).map .str)
  rw [List.map_map, List.map_map, List.map_map]
  rfl
theorem lines_ok {n : Nat} (hn : n = 2 ∨ n = 3) {z : Cs} (hz : z = [99, 111, 114, 100] ∨ z = [114, 105, 110, 103]) {rs : List Ru} (h : ∀ r ∈ rs, r.ok n) (hl : rs.length ≤ 4) :
    ∃ τ, m__law_lines [some (.fz (.int n)), some (.fz (.str z)), some (.fz (.tup (rs.map Ru.t)))] = .ok (.lst ((((bkW n z rs).map (joinL [32])).map .str).map .fz)) τ := by
  refine ⟨[some (.fz (.int n)), some (.fz (.str z)), some (.fz (.tup (rs.map Ru.t))), some (.fz (.lst (.tup [.str z, .int n] :: rs.map Ru.t))), none, none], fn_run (d := D__law_lines) (τ0 := [some (.fz (.int n)), some (.fz (.str z)), some (.fz (.tup (rs.map Ru.t))), none, none, none]) rfl ?_⟩
  unfold D__law_lines
  refine (seq_run (τ1 := [some (.fz (.int n)), some (.fz (.str z)), some (.fz (.tup (rs.map Ru.t))), some (.fz (.lst (.tup [.str z, .int n] :: rs.map Ru.t))), none, none]) ?_).trans ?_
  · refine (set_run (t := .lst (.tup [.str z, .int n] :: rs.map Ru.t)) (τ1 := [some (.fz (.int n)), some (.fz (.str z)), some (.fz (.tup (rs.map Ru.t))), none, none, none]) ?_).trans rfl
    refine op_run (τ1 := [some (.fz (.int n)), some (.fz (.str z)), some (.fz (.tup (rs.map Ru.t))), none, none, none]) (s := .lst [.tup [.str z, .int n]]) (t := .lst (rs.map Ru.t)) ?_ ?_ ?_
    · exact fzl_run (lst_run (cons_run (tup_run (ts := [.str z, .int n]) (cons_run (dv_run rfl) (cons_run (dv_run rfl) nil_run)) (by simp)) nil_run) (by simp))
    · exact fzl_run (callN_run (cons_run (dv_run rfl) nil_run) rfl)
    · show (if _ then _ else _) = _
      rw [if_pos (le_SZ (by simp; omega))]
      rfl
  refine ret_run ?_
  have hr := lc_rows (i := 5) (j := 4) (by decide) (τ := [some (.fz (.int n)), some (.fz (.str z)), some (.fz (.tup (rs.map Ru.t))), some (.fz (.lst (.tup [.str z, .int n] :: rs.map Ru.t))), none, none]) rfl rfl (bkP_ok hn hz h)
  rw [bkP_t, bkP_w] at hr
  exact lc_run (ts := .tup [.str z, .int n] :: rs.map Ru.t) (τ1 := [some (.fz (.int n)), some (.fz (.str z)), some (.fz (.tup (rs.map Ru.t))), some (.fz (.lst (.tup [.str z, .int n] :: rs.map Ru.t))), none, none]) (items_run (dv_run rfl) rfl) (by simp; omega) hr
theorem row_len {n : Nat} (hn : n = 2 ∨ n = 3) {z : Cs} (hz : z = [99, 111, 114, 100] ∨ z = [114, 105, 110, 103]) {rs : List Ru} (h : ∀ r ∈ rs, r.ok n) : ∀ w ∈ (bkW n z rs).map (joinL [32]), w.length ≤ 28 := by
  intro w hw
  obtain ⟨ws, hws, rfl⟩ := List.mem_map.mp hw
  have hs : small ws := by
    rcases List.mem_cons.mp hws with rfl | hws
    · exact (head_strs hn hz).2
    · obtain ⟨r, hr, rfl⟩ := List.mem_map.mp hws
      exact Ru.small hn (h r hr)
  have := join_len (c := 32) hs.2
  have h4 : ws.length * (6 + 1) ≤ 4 * 7 := Nat.mul_le_mul_right _ hs.1
  omega
end TL
set_option Elab.async false
set_option linter.all false
set_option maxRecDepth 100000
set_option maxHeartbeats 0
namespace TL
open PySem PySem.Spec L2

/-! run lemmas: what raises -/
theorem seqif_er {p : DB} {a q : DS} {τ τ1 τ2 : Env} {e : Nat} {fs : List T} (h : p τ = .ok true τ1) (h2 : a τ1 = .er e fs τ2) : dSeq (dIfS p a dNx) q τ = .er e fs τ2 := by
  unfold dSeq dIfS
  rw [h, R.bind_ok]
  dsimp only
  rw [h2]
  rfl
theorem seq_er {p q : DS} {τ τ2 : Env} {e : Nat} {fs : List T} (h : p τ = .er e fs τ2) : dSeq p q τ = .er e fs τ2 := by
  unfold dSeq
  rw [h]
  rfl
theorem fn_er {N : Nat} {d : DS} {τ τ0 τ1 : Env} {e : Nat} {fs : List T} (he : τ ++ List.replicate (N - τ.length) none = τ0) (h : d τ0 = .er e fs τ1) : dFn N d τ = .er e fs τ1 := by
  unfold dFn
  rw [he, h]
  rfl
theorem fz_er {d : DO} {τ τ1 : Env} {e : Nat} {fs : List T} (h : d τ = .er e fs τ1) : dFz d τ = .er e fs τ1 := by
  unfold dFz
  rw [h]
  rfl
theorem of_er {d : DE} {τ τ1 : Env} {e : Nat} {fs : List T} (h : d τ = .er e fs τ1) : dOf d τ = .er e fs τ1 := by
  unfold dOf
  rw [h]
  rfl
theorem drop_er {d : DE} {τ τ1 : Env} {e : Nat} {fs : List T} (h : d τ = .er e fs τ1) : dDrop d τ = .er e fs τ1 := by
  unfold dDrop
  rw [h]
  rfl
theorem cons_er {d : DE} {r : DL} {τ τ1 : Env} {e : Nat} {fs : List T} (h : d τ = .er e fs τ1) : dCons d r τ = .er e fs τ1 := by
  unfold dCons
  rw [h]
  rfl
theorem cons_er2 {d : DE} {r : DL} {τ τ1 τ2 : Env} {t : T} {e : Nat} {fs : List T} (h1 : d τ = .ok t τ1) (h : r τ1 = .er e fs τ2) : dCons d r τ = .er e fs τ2 := by
  unfold dCons
  rw [h1, R.bind_ok, h]
  rfl
theorem tup_er {d : DL} {τ τ1 : Env} {e : Nat} {fs : List T} (h : d τ = .er e fs τ1) : dTup d τ = .er e fs τ1 := by
  unfold dTup
  rw [h]
  rfl
theorem set_er {i e : Nat} {d : DE} {τ τ1 : Env} {fs : List T} (h : d τ = .er e fs τ1) : dSet i d τ = .er e fs τ1 := by
  unfold dSet
  rw [h]
  rfl
theorem ret_er {e : Nat} {d : DO} {τ τ1 : Env} {fs : List T} (h : d τ = .er e fs τ1) : dRet d τ = .er e fs τ1 := by
  unfold dRet
  rw [h]
  rfl
theorem callg_er {g : List T → Option T} {d : DL} {τ τ1 : Env} {e : Nat} {fs : List T} (h : d τ = .er e fs τ1) : dCall g d τ = .er e fs τ1 := by
  unfold dCall
  rw [h]
  rfl
theorem par2_er1 {i j e : Nat} {d f : DO} {τ τ1 : Env} {fs : List T} (h : d τ = .er e fs τ1) : dPar [i, j] (dConsO d (dConsO f dNilO)) τ = .er e fs τ1 := by
  show lkE (dConsO d (dConsO f dNilO)) [i, j] τ = _
  unfold lkE dConsO
  rw [h]
  rfl
theorem par2_er2 {i j e : Nat} {d f : DO} {τ τ1 τ2 : Env} {a : O} {fs : List T} (h1 : d τ = .ok a τ1) (h : f τ1 = .er e fs τ2) : dPar [i, j] (dConsO d (dConsO f dNilO)) τ = .er e fs τ2 := by
  show lkE (dConsO d (dConsO f dNilO)) [i, j] τ = _
  unfold lkE dConsO
  rw [h1, R.bind_ok, h]
  rfl
theorem methO_er {n i e : Nat} {cs : Nat → Bool} {mm : Env → R O} {dl : DL} {τ τ1 rest : Env} {ts fs : List T} {o2 : O} {c : Nat} {vs : List O} (h0 : τ[i]? = some (some (.obj c vs))) (hc : cs c = true) (h1 : dl τ = .ok ts τ1) (h3 : τ1[i]? = some (some (.obj c vs))) (hn : ts.length + 1 = n)
    (h2 : mm (some (.obj c vs) :: ts.map fun t => some (.fz t)) = .er e fs (some o2 :: rest)) : dMethO n i cs mm dl τ = .er e fs (τ1.set i (some o2)) := by
  unfold dMethO
  rw [h0]
  dsimp only
  rw [if_pos hc]
  unfold dCallF
  have e1 : (([.obj c vs] : List O) ++ ts.map O.fz).map some = some (.obj c vs) :: ts.map fun t => some (.fz t) := by simp
  have hn' : 1 + ts.length = n := by omega
  simp only [getsO, h0, Option.isSome, Bool.true_eq_false, if_false, h1, R.bind_ok, h3, List.length_cons, List.length_nil, Nat.zero_add, hn', if_true, e1, h2]
  rw [if_pos (Nat.le_add_left 1 _)]
  simp only [List.take_succ_cons, List.take_zero, setsO]
theorem call_er {m : Env → R O} {n e : Nat} {d : DL} {τ τ1 τ' : Env} {ts fs : List T} (h1 : d τ = .ok ts τ1) (hn : ts.length = n) (h2 : m (ts.map fun t => some (.fz t)) = .er e fs τ') : dCallF n [] m d τ = .er e fs τ1 := by
  unfold dCallF
  have e1 : (([] : List O) ++ ts.map O.fz).map some = ts.map fun t => some (.fz t) := by simp
  simp only [getsO, Option.isSome, Bool.true_eq_false, if_false, h1, R.bind_ok, List.length_nil, Nat.zero_add, hn, if_true, e1, h2, Nat.zero_le, List.take_zero, setsO]
theorem call_er1 {m : Env → R O} {n i e : Nat} {d : DL} {τ τ1 rest : Env} {ts fs : List T} {o0 o1 o2 : O} (h0 : τ[i]? = some (some o0)) (h1 : d τ = .ok ts τ1) (h3 : τ1[i]? = some (some o1)) (hn : ts.length + 1 = n)
    (h2 : m (some o1 :: ts.map fun t => some (.fz t)) = .er e fs (some o2 :: rest)) : dCallF n [i] m d τ = .er e fs (τ1.set i (some o2)) := by
  unfold dCallF
  have e1 : (([o1] : List O) ++ ts.map O.fz).map some = some o1 :: ts.map fun t => some (.fz t) := by simp
  have hn' : 1 + ts.length = n := by omega
  simp only [getsO, h0, Option.isSome, Bool.true_eq_false, if_false, h1, R.bind_ok, h3, List.length_cons, List.length_nil, Nat.zero_add, hn', if_true, e1, h2]
  rw [if_pos (Nat.le_add_left 1 _)]
  simp only [List.take_succ_cons, List.take_zero, setsO]
theorem mtd_er {i e : Nat} {g : List O → List T → Option (T × List O)} {d : DL} {τ τ1 : Env} {l0 : List O} {fs : List T} (h0 : τ[i]? = some (some (.lst l0))) (h1 : d τ = .er e fs τ1) : dMtd i g d τ = .er e fs τ1 := by
  unfold dMtd
  rw [h0]
  dsimp only
  rw [h1]
  rfl

/-! the words of a line, read one by one -/
theorem any_str {w : Cs} : ∀ S : List Cs, ((S.map T.str).any fun y => eqF y (.str w)) = decide (w ∈ S)
  | [] => rfl
  | s :: S => by
    have ih := any_str (w := w) S
    rw [List.map_cons, List.any_cons, ih]
    show (decide (s = w) || decide (w ∈ S)) = _
    by_cases h : s = w
    · subst h
      simp
    · have h' : ¬ w = s := fun z => h z.symm
      simp [h, h']
theorem all_flat : ∀ S : List Cs, (S.map T.str).all flatT = true
  | [] => rfl
  | s :: S => by
    rw [List.map_cons, List.all_cons, all_flat S]
    rfl
theorem in_lst {w : Cs} {l : List T} : inT (.str w) (.lst l) = if flatT (.str w) && l.all flatT then some (l.any fun y => eqF y (.str w)) else none := by
  cases w with
  | nil => rfl
  | cons c r => cases r <;> rfl
theorem in_tup {w : Cs} {l : List T} : inT (.str w) (.tup l) = if flatT (.str w) && l.all flatT then some (l.any fun y => eqF y (.str w)) else none := by
  cases w with
  | nil => rfl
  | cons c r => cases r <;> rfl
theorem in_ktp {w : Cs} {l : List T} : inT (.str w) (.ktp l) = if flatT (.str w) && l.all flatT then some (l.any fun y => eqF y (.str w)) else none := by
  cases w with
  | nil => rfl
  | cons c r => cases r <;> rfl
theorem notIn_lst {w : Cs} {S : List Cs} : notInV (.str w) (.lst (S.map .str)) = some (.bl (!decide (w ∈ S))) := by
  have e : inT (.str w) (.lst (S.map .str)) = some (decide (w ∈ S)) := by
    rw [in_lst, all_flat, any_str]
    rfl
  unfold notInV
  rw [e]
  rfl
theorem notIn_tup {w : Cs} {S : List Cs} : notInV (.str w) (.tup (S.map .str)) = some (.bl (!decide (w ∈ S))) := by
  have e : inT (.str w) (.tup (S.map .str)) = some (decide (w ∈ S)) := by
    rw [in_tup, all_flat, any_str]
    rfl
  unfold notInV
  rw [e]
  rfl
theorem notIn_ktp {w : Cs} {S : List Cs} : notInV (.str w) (.ktp (S.map .str)) = some (.bl (!decide (w ∈ S))) := by
  have e : inT (.str w) (.ktp (S.map .str)) = some (decide (w ∈ S)) := by
    rw [in_ktp, all_flat, any_str]
    rfl
  unfold notInV
  rw [e]
  rfl
/-- a container of texts -/
def Cont (t : T) (S : List Cs) : Prop := t = .lst (S.map .str) ∨ t = .tup (S.map .str) ∨ t = .ktp (S.map .str)
theorem notIn_cont {w : Cs} {t : T} {S : List Cs} (h : Cont t S) : notInV (.str w) t = some (.bl (!decide (w ∈ S))) := by
  rcases h with rfl | rfl | rfl
  · exact notIn_lst
  · exact notIn_tup
  · exact notIn_ktp
theorem fail_run {ws : List Cs} {k sp : Int} : m_Line_fail [some (lnO ws k sp)] = .er 104 [.int k, .int (sp + 1)] [some (lnO ws k sp)] := by
  refine fn_er (d := D_Line_fail) (τ0 := [some (lnO ws k sp)]) rfl ?_
  rfl
theorem fldS_words {ws : List Cs} {k sp : Int} {r : Env} : dFldS 0 ix_words_in (some (lnO ws k sp) :: r) = .ok (.lst (ws.map .str)) (some (lnO ws k sp) :: r) := rfl
theorem fldS_spot {ws : List Cs} {k sp : Int} {r : Env} : dFldS 0 ix_spot (some (lnO ws k sp) :: r) = .ok (.int sp) (some (lnO ws k sp) :: r) := rfl
theorem len_words {ws : List Cs} {k sp : Int} {r : Env} : dCall lenT (dCons (dFldS 0 ix_words_in) dNil) (some (lnO ws k sp) :: r) = .ok (.int ws.length) (some (lnO ws k sp) :: r) := by
  refine callg_run (ts := [.lst (ws.map .str)]) (cons_run fldS_words nil_run) ?_
  show some (T.int ((ws.map T.str).length : Nat)) = _
  rw [List.length_map]
theorem at_words {ws : List Cs} {i : Nat} {w : Cs} (h : ws[i]? = some w) : L2.atI (ws.map T.str) (i : Int) = some (.str w) := by
  have hi := (List.getElem?_eq_some_iff.mp h).1
  unfold L2.atI
  rw [ixN_ok (by omega) (by simp; omega)]
  show (ws.map T.str)[i]? = _
  rw [List.getElem?_map, h]
  rfl
theorem take_ok {ws : List Cs} {k : Int} {i : Nat} {t : T} {S : List Cs} {w : Cs} (hS : Cont t S) (h : ws[i]? = some w) (hw : w ∈ S) : m_Line_take [some (lnO ws k i), some (.fz t)] = .ok (.fz (.str w)) [some (lnO ws k ((i + 1 : Nat) : Int)), some (.fz t)] := by
  have hi := (List.getElem?_eq_some_iff.mp h).1
  refine fn_run (d := D_Line_take) (τ0 := [some (lnO ws k i), some (.fz t)]) rfl ?_
  unfold D_Line_take
  refine (seqif_f (τ1 := [some (lnO ws k i), some (.fz t)]) ?_).trans ?_
  · refine (or_f (τ1 := [some (lnO ws k i), some (.fz t)]) ?_).trans ?_
    · refine bl_run (op_run (s := .int i) (t := .int ws.length) fldS_spot len_words ?_)
      show some (T.bl (decide ((i : Int) = (ws.length : Int)))) = _
      rw [decide_eq_false (by omega)]
    · refine bl_run (op_run (s := .str w) (t := t) (op_run (s := .lst (ws.map .str)) (t := .int i) fldS_words fldS_spot (at_words h)) (dv_run rfl) ?_)
      rw [notIn_cont hS, decide_eq_true hw]
      rfl
  refine (seq_run (τ1 := [some (lnO ws k ((i + 1 : Nat) : Int)), some (.fz t)]) rfl).trans ?_
  refine ret_run (of_run ?_)
  refine op_run (s := .lst (ws.map .str)) (t := .int i) fldS_words (op_run (s := .int ((i + 1 : Nat) : Int)) (t := .int 1) fldS_spot dc_run ?_) (at_words h)
  show some (T.int (((i + 1 : Nat) : Int) - 1)) = _
  have : (((i + 1 : Nat) : Int) - 1) = i := by omega
  rw [this]
theorem take_no {ws : List Cs} {k : Int} {i : Nat} {t : T} {S : List Cs} (hS : Cont t S) (hi : i ≤ ws.length) (h : ∀ w, ws[i]? = some w → w ∉ S) : m_Line_take [some (lnO ws k i), some (.fz t)] = .er 104 [.int k, .int ((i + 1 : Nat) : Int)] [some (lnO ws k i), some (.fz t)] := by
  refine fn_er (d := D_Line_take) (τ0 := [some (lnO ws k i), some (.fz t)]) rfl ?_
  unfold D_Line_take
  refine seqif_er (τ1 := [some (lnO ws k i), some (.fz t)]) ?_ ?_
  · by_cases hl : i = ws.length
    · refine or_t ?_
      refine bl_run (op_run (s := .int i) (t := .int ws.length) fldS_spot len_words ?_)
      show some (T.bl (decide ((i : Int) = (ws.length : Int)))) = _
      rw [decide_eq_true (by omega)]
    · have hi' : i < ws.length := by omega
      have hw := List.getElem?_eq_getElem hi'
      refine (or_f (τ1 := [some (lnO ws k i), some (.fz t)]) ?_).trans ?_
      · refine bl_run (op_run (s := .int i) (t := .int ws.length) fldS_spot len_words ?_)
        show some (T.bl (decide ((i : Int) = (ws.length : Int)))) = _
        rw [decide_eq_false (by omega)]
      · refine bl_run (op_run (s := .str ws[i]) (t := t) (op_run (s := .lst (ws.map .str)) (t := .int i) fldS_words fldS_spot (at_words hw)) (dv_run rfl) ?_)
        rw [notIn_cont hS, decide_eq_false (h _ hw)]
        rfl
  · refine drop_er (fz_er ?_)
    exact methO_er (i := 0) (ts := []) (τ1 := [some (lnO ws k i), some (.fz t)]) (o2 := lnO ws k i) (rest := []) rfl rfl nil_run rfl rfl fail_run
theorem finish_ok {ws : List Cs} {k : Int} : m_Line_finish [some (lnO ws k (ws.length : Nat))] = .ok (.fz .non) [some (lnO ws k (ws.length : Nat))] := by
  refine fn_run0 (d := D_Line_finish) (τ0 := [some (lnO ws k (ws.length : Nat))]) rfl ?_
  unfold D_Line_finish
  refine if_fn (bl_run (op_run (s := .int (ws.length : Nat)) (t := .int ws.length) fldS_spot len_words ?_))
  show some (T.bl (decide (((ws.length : Nat) : Int) < (ws.length : Int)))) = _
  rw [decide_eq_false (by omega)]
theorem finish_no {ws : List Cs} {k : Int} {i : Nat} (h : i < ws.length) : m_Line_finish [some (lnO ws k i)] = .er 104 [.int k, .int ((i + 1 : Nat) : Int)] [some (lnO ws k i)] := by
  refine fn_er (d := D_Line_finish) (τ0 := [some (lnO ws k i)]) rfl ?_
  unfold D_Line_finish
  refine (if_t (τ1 := [some (lnO ws k i)]) (bl_run (op_run (s := .int i) (t := .int ws.length) fldS_spot len_words ?_))).trans ?_
  · show some (T.bl (decide ((i : Int) < (ws.length : Int)))) = _
    rw [decide_eq_true (by omega)]
  · refine drop_er (fz_er ?_)
    exact methO_er (i := 0) (ts := []) (τ1 := [some (lnO ws k i)]) (o2 := lnO ws k i) (rest := []) rfl rfl nil_run rfl rfl fail_run
end TL
set_option Elab.async false
set_option linter.all false
set_option maxRecDepth 100000
set_option maxHeartbeats 0
namespace TL
open PySem PySem.Spec L2

def digs (lo hi : Nat) : List Cs := (List.range' lo (hi + 1 - lo)).map dig
def lts (n : Nat) : List Cs := (List.range n).map ltr
def wMost : Cs := [109, 111, 115, 116]
def W3 : List Cs := [[98, 101, 115, 105, 100, 101], [115, 101, 99, 111, 110, 100], wMost]
theorem mem_digs {lo hi : Nat} {w : Cs} : w ∈ digs lo hi ↔ ∃ d, lo ≤ d ∧ d ≤ hi ∧ w = dig d := by
  unfold digs
  rw [List.mem_map]
  constructor
  · rintro ⟨d, hd, rfl⟩
    rw [List.mem_range'_1] at hd
    exact ⟨d, hd.1, by omega, rfl⟩
  · rintro ⟨d, h1, h2, rfl⟩
    exact ⟨d, by rw [List.mem_range'_1]; omega, rfl⟩
theorem mem_lts {n : Nat} {w : Cs} : w ∈ lts n ↔ ∃ a, a < n ∧ w = ltr a := by
  unfold lts
  rw [List.mem_map]
  constructor
  · rintro ⟨d, hd, rfl⟩
    exact ⟨d, List.mem_range.mp hd, rfl⟩
  · rintro ⟨d, h1, rfl⟩
    exact ⟨d, List.mem_range.mpr h1, rfl⟩
def prs : List (Nat × Nat) := [(2, 3), (0, 3), (2, 4), (3, 4), (4, 4)]
theorem prs_str {lo hi : Nat} (h : (lo, hi) ∈ prs) : strL (rngL (lo : Int) ((hi : Int) + 1)) = some (digs lo hi) ∧ (rngL (lo : Int) ((hi : Int) + 1)).length ≤ 10 ∧ inR (lo : Int) = true ∧ inR ((hi : Int) + 1) = true := by
  have : ∀ p ∈ prs, (decide (strL (rngL (p.1 : Int) ((p.2 : Int) + 1)) = some (digs p.1 p.2)) && (decide ((rngL (p.1 : Int) ((p.2 : Int) + 1)).length ≤ 10) && (inR (p.1 : Int) && inR ((p.2 : Int) + 1)))) = true := by
    have : (prs.all fun p : Nat × Nat => (decide (strL (rngL (p.1 : Int) ((p.2 : Int) + 1)) = some (digs p.1 p.2)) && (decide ((rngL (p.1 : Int) ((p.2 : Int) + 1)).length ≤ 10) && (inR (p.1 : Int) && inR ((p.2 : Int) + 1))))) = true := by decide +kernel
    exact List.all_eq_true.mp this
  have := this _ h
  simp only [Bool.and_eq_true] at this
  exact ⟨of_decide_eq_true this.1, of_decide_eq_true this.2.1, this.2.2.1, this.2.2.2⟩
theorem int_dig {d : Nat} (h : d ≤ 4) : intTS [.str (dig d)] = some (.int d) := by
  have : d = 0 ∨ d = 1 ∨ d = 2 ∨ d = 3 ∨ d = 4 := by omega
  have key : ∀ d : Nat, (match intTS [.str (dig d)] with | some (.int x) => decide (x = (d : Int)) | _ => false) = true → intTS [.str (dig d)] = some (.int d) := by
    intro d h
    split at h
    · rename_i x e
      rw [e, of_decide_eq_true h]
    · cases h
  rcases this with rfl | rfl | rfl | rfl | rfl <;> exact key _ (by decide +kernel)
def nmD : DE := dFz (dLc (dRng2 (dCons (dV 1) (dCons (dOp addT (dV 2) (dC (.int 1))) (dNil)))) (gN 3) (dYes) (dCall strT (dCons (dV 3) (dNil))) [3])
theorem nm_run {lo hi : Nat} (h : (lo, hi) ∈ prs) {x : Option O} : nmD [x, some (.fz (.int lo)), some (.fz (.int hi)), none] = .ok (.lst ((digs lo hi).map .str)) [x, some (.fz (.int lo)), some (.fz (.int hi)), none] := by
  obtain ⟨h1, h2, h3, h4⟩ := prs_str h
  unfold nmD
  refine fzl_run (lc_run (ts := rngL (lo : Int) ((hi : Int) + 1)) (τ1 := [x, some (.fz (.int lo)), some (.fz (.int hi)), none]) ?_ (by omega) ?_)
  · unfold dRng2
    rw [cons_run (dv_run (i := 1) (t := .int lo) rfl) (cons_run (op_run (s := .int hi) (t := .int 1) (u := .int ((hi : Int) + 1)) (dv_run rfl) dc_run rfl) nil_run), R.bind_ok]
    dsimp only
    rw [h3, h4]
    rfl
  · exact lc_str (i := 3) rfl h1
theorem num_ok {ws : List Cs} {k : Int} {i lo hi d : Nat} (hp : (lo, hi) ∈ prs) (h : ws[i]? = some (dig d)) (h1 : lo ≤ d) (h2 : d ≤ hi) (h4 : hi ≤ 4) : m_Line_number [some (lnO ws k i), some (.fz (.int lo)), some (.fz (.int hi))] = .ok (.fz (.int d)) [some (lnO ws k ((i + 1 : Nat) : Int)), some (.fz (.int lo)), some (.fz (.int hi)), none] := by
  refine fn_run (d := D_Line_number) (τ0 := [some (lnO ws k i), some (.fz (.int lo)), some (.fz (.int hi)), none]) rfl ?_
  unfold D_Line_number
  refine ret_run (of_run (callg_run (ts := [.str (dig d)]) (cons_run ?_ nil_run) (int_dig (by omega))))
  refine (fz_run (o := .fz (.str (dig d))) ?_).trans rfl
  exact methO_run (i := 0) (ts := [.lst ((digs lo hi).map .str)]) (τ1 := [some (lnO ws k i), some (.fz (.int lo)), some (.fz (.int hi)), none]) rfl rfl (cons_run (nm_run hp) nil_run) rfl rfl (take_ok (.inl rfl) h (mem_digs.mpr ⟨d, h1, h2, rfl⟩))
theorem num_no {ws : List Cs} {k : Int} {i lo hi : Nat} (hp : (lo, hi) ∈ prs) (hi' : i ≤ ws.length) (h : ∀ w, ws[i]? = some w → w ∉ digs lo hi) : m_Line_number [some (lnO ws k i), some (.fz (.int lo)), some (.fz (.int hi))] = .er 104 [.int k, .int ((i + 1 : Nat) : Int)] [some (lnO ws k i), some (.fz (.int lo)), some (.fz (.int hi)), none] := by
  refine fn_er (d := D_Line_number) (τ0 := [some (lnO ws k i), some (.fz (.int lo)), some (.fz (.int hi)), none]) rfl ?_
  unfold D_Line_number
  refine ret_er (of_er (callg_er (cons_er (fz_er ?_))))
  exact methO_er (i := 0) (ts := [.lst ((digs lo hi).map .str)]) (τ1 := [some (lnO ws k i), some (.fz (.int lo)), some (.fz (.int hi)), none]) rfl rfl (cons_run (nm_run hp) nil_run) rfl rfl (take_no (.inl rfl) hi' h)
/-! what is asked of the words of a line -/
def wr (ws : List Cs) : List (List Cs) → Nat → Option Nat
  | [], i => if i < ws.length then some (i + 1) else none
  | S :: r, i => match ws[i]? with
    | some w => if w ∈ S then wr ws r (i + 1) else some (i + 1)
    | none => some (i + 1)
def lastD : Option Cs → List Cs
  | some [50] => digs 3 4
  | some [51] => digs 4 4
  | _ => digs 2 4
def rowsOf (n : Nat) (ws : List Cs) : List (List Cs) := if ws[0]? = some wMost then [W3, lts n, digs 0 3, lastD ws[2]?] else [W3, lts n, lts n]
theorem wr_no {ws : List Cs} {S : List Cs} {r : List (List Cs)} {i : Nat} (h : ∀ w, ws[i]? = some w → w ∉ S) : wr ws (S :: r) i = some (i + 1) := by
  show (match ws[i]? with | some w => if w ∈ S then wr ws r (i + 1) else some (i + 1) | none => some (i + 1)) = _
  cases e : ws[i]? with
  | none => rfl
  | some w =>
    dsimp only
    rw [if_neg (h w e)]
theorem wr_yes {ws : List Cs} {S : List Cs} {r : List (List Cs)} {i : Nat} {w : Cs} (h : ws[i]? = some w) (hw : w ∈ S) : wr ws (S :: r) i = wr ws r (i + 1) := by
  show (match ws[i]? with | some w => if w ∈ S then wr ws r (i + 1) else some (i + 1) | none => some (i + 1)) = _
  rw [h]
  dsimp only
  rw [if_pos hw]
theorem wr_case (ws : List Cs) (S : List Cs) (i : Nat) : (∃ w, ws[i]? = some w ∧ w ∈ S) ∨ ∀ w, ws[i]? = some w → w ∉ S := by
  cases e : ws[i]? with
  | none => exact .inr fun w h => by cases h
  | some w =>
    by_cases h : w ∈ S
    · exact .inl ⟨w, rfl, h⟩
    · exact .inr fun v hv => by cases hv; exact h
end TL
set_option Elab.async false
set_option linter.all false
set_option maxRecDepth 100000
set_option maxHeartbeats 0
namespace TL
open PySem PySem.Spec L2

theorem if_er {p : DB} {a b : DS} {τ τ1 τ2 : Env} {c : Bool} {e : Nat} {fs : List T} (h : p τ = .ok c τ1) (h2 : (if c = true then a τ1 else b τ1) = .er e fs τ2) : dIfS p a b τ = .er e fs τ2 := by
  unfold dIfS
  rw [h, R.bind_ok]
  cases c <;> exact h2
abbrev E7 (l : O) (n : Nat) (a2 a3 a4 a5 a6 : Option O) : Env := [some l, some (.fz (.int n)), a2, a3, a4, a5, a6]
def cL (n : Nat) : T := .lst ((lts n).map .str)
def r1 : DS := (dSet 2 (dFz (dCallN listN2 (dCons (dSl (dC c_LETTERS) (dNoP) (dPart (dV 1))) (dNil)))))
def tkD (d : DE) : DE := dFz (dMethO 2 0 isLine m_Line_take (dCons d dNil))
def tkW : DE := dTup (dCons (dC (.str [98, 101, 115, 105, 100, 101])) (dCons (dC (.str [115, 101, 99, 111, 110, 100])) (dCons (dC (.str [109, 111, 115, 116])) (dNil))))
def r2 : DS := dPar [3, 4] (dConsO (dOf (tkD tkW)) (dConsO (dOf (tkD (dV 2))) (dNilO)))
def r3 : DS := (dIfS (dBl (dOp eqT (dV 3) (dC (.str [109, 111, 115, 116])))) (dSeq (dSet 5 (dFz (dMethO 3 0 isLine m_Line_number (dCons (dC (.int 0)) (dCons (dOp subT (dC c_MOST_WIDE) (dC (.int 1))) (dNil)))))) (dSet 6 (dTup (dCons (dV 3) (dCons (dV 4) (dCons (dV 5) (dCons (dFz (dMethO 3 0 isLine m_Line_number (dCons (dCall maxT (dCons (dC (.int 2)) (dCons (dOp addT (dV 5) (dC (.int 1))) (dNil)))) (dCons (dC c_MOST_WIDE) (dNil))))) (dNil)))))))) (dSet 6 (dTup (dCons (dV 3) (dCons (dV 4) (dCons (tkD (dV 2)) (dNil)))))))
def r4 : DS := dSeq (dDrop (dFz (dMethO 1 0 isLine m_Line_finish dNil))) (dRet (dOf (dV 6)))
theorem D_rule_in_eq : D_rule_in = dSeq r1 (dSeq r2 (dSeq r3 r4)) := rfl
theorem r1_run {n : Nat} (hn : n = 2 ∨ n = 3) {l : O} : r1 (E7 l n none none none none none) = .ok .nx (E7 l n (some (.fz (cL n))) none none none none) := by
  rcases hn with rfl | rfl <;> rfl
theorem tkW_run {τ : Env} : tkW τ = .ok (.tup (W3.map .str)) τ := tup_run (ts := W3.map .str) (cons_run dc_run (cons_run dc_run (cons_run dc_run nil_run))) (by decide)
theorem tk_ok {ws : List Cs} {k : Int} {i n : Nat} {t : T} {S : List Cs} {w : Cs} {d : DE} {a2 a3 a4 a5 a6 : Option O} (hd : d (E7 (lnO ws k i) n a2 a3 a4 a5 a6) = .ok t (E7 (lnO ws k i) n a2 a3 a4 a5 a6)) (hS : Cont t S) (h : ws[i]? = some w) (hw : w ∈ S) :
    tkD d (E7 (lnO ws k i) n a2 a3 a4 a5 a6) = .ok (.str w) (E7 (lnO ws k ((i + 1 : Nat) : Int)) n a2 a3 a4 a5 a6) := by
  unfold tkD
  refine (fz_run (o := .fz (.str w)) ?_).trans rfl
  exact methO_run (i := 0) (ts := [t]) (τ1 := E7 (lnO ws k i) n a2 a3 a4 a5 a6) rfl rfl (cons_run hd nil_run) rfl rfl (take_ok hS h hw)
theorem tk_no {ws : List Cs} {k : Int} {i n : Nat} {t : T} {S : List Cs} {d : DE} {a2 a3 a4 a5 a6 : Option O} (hd : d (E7 (lnO ws k i) n a2 a3 a4 a5 a6) = .ok t (E7 (lnO ws k i) n a2 a3 a4 a5 a6)) (hS : Cont t S) (hi : i ≤ ws.length) (h : ∀ w, ws[i]? = some w → w ∉ S) :
    tkD d (E7 (lnO ws k i) n a2 a3 a4 a5 a6) = .er 104 [.int k, .int ((i + 1 : Nat) : Int)] (E7 (lnO ws k i) n a2 a3 a4 a5 a6) := by
  unfold tkD
  refine fz_er ?_
  exact methO_er (i := 0) (ts := [t]) (τ1 := E7 (lnO ws k i) n a2 a3 a4 a5 a6) rfl rfl (cons_run hd nil_run) rfl rfl (take_no hS hi h)
theorem r4_ok {ws : List Cs} {k : Int} {n : Nat} {t : T} {a2 a3 a4 a5 : Option O} : r4 (E7 (lnO ws k (ws.length : Nat)) n a2 a3 a4 a5 (some (.fz t))) = .ok (.rt (.fz t)) (E7 (lnO ws k (ws.length : Nat)) n a2 a3 a4 a5 (some (.fz t))) := by
  unfold r4
  refine (seq_run (τ1 := E7 (lnO ws k (ws.length : Nat)) n a2 a3 a4 a5 (some (.fz t))) ?_).trans (ret_run (of_run (dv_run rfl)))
  refine drop_run (t := .non) ((fz_run (o := .fz .non) ?_).trans rfl)
  exact methO_run (i := 0) (ts := []) (τ1 := E7 (lnO ws k (ws.length : Nat)) n a2 a3 a4 a5 (some (.fz t))) (o2 := lnO ws k (ws.length : Nat)) (rest := []) rfl rfl nil_run rfl rfl finish_ok
theorem r4_no {ws : List Cs} {k : Int} {i n : Nat} {a2 a3 a4 a5 a6 : Option O} (h : i < ws.length) : r4 (E7 (lnO ws k i) n a2 a3 a4 a5 a6) = .er 104 [.int k, .int ((i + 1 : Nat) : Int)] (E7 (lnO ws k i) n a2 a3 a4 a5 a6) := by
  unfold r4
  refine seq_er (drop_er (fz_er ?_))
  exact methO_er (i := 0) (ts := []) (τ1 := E7 (lnO ws k i) n a2 a3 a4 a5 a6) (o2 := lnO ws k i) (rest := []) rfl rfl nil_run rfl rfl (finish_no h)
theorem eq_most {w : Cs} {ws : List Cs} {k : Int} {i n : Nat} {a2 a4 a5 a6 : Option O} : dBl (dOp eqT (dV 3) (dC (.str [109, 111, 115, 116]))) (E7 (lnO ws k i) n a2 (some (.fz (.str w))) a4 a5 a6) = .ok (decide (w = wMost)) (E7 (lnO ws k i) n a2 (some (.fz (.str w))) a4 a5 a6) :=
  bl_run (op_run (dv_run rfl) dc_run rfl)
/-- what a line gives -/
def Said (n : Nat) (ws : List Cs) (k : Int) (r : R O) : Prop :=
  (∃ j o rest, wr ws (rowsOf n ws) 0 = some j ∧ r = .er 104 [.int k, .int (j : Nat)] (some o :: rest)) ∨ ∃ (u : Ru) (o : O) (rest : Env), u.ok n ∧ wr ws (rowsOf n ws) 0 = none ∧ r = .ok (.fz u.t) (some o :: rest)
theorem le_of_get {ws : List Cs} {i : Nat} {w : Cs} (h : ws[i]? = some w) : i + 1 ≤ ws.length := (List.getElem?_eq_some_iff.mp h).1
theorem rows_head (n : Nat) (ws : List Cs) : ∃ S r, rowsOf n ws = W3 :: lts n :: S :: r := by
  unfold rowsOf
  split
  · exact ⟨_, _, rfl⟩
  · exact ⟨_, _, rfl⟩
theorem wr_end {ws : List Cs} {i : Nat} (h : i < ws.length) : wr ws [] i = some (i + 1) := if_pos h
theorem wr_fin {ws : List Cs} {i : Nat} (h : ws.length ≤ i) : wr ws [] i = none := if_neg (by omega)
theorem rule_said {n : Nat} (hn : n = 2 ∨ n = 3) (ws : List Cs) (k : Int) : Said n ws k (m_rule_in [some (lnO ws k 0), some (.fz (.int n))]) := by
  obtain ⟨S3, r3', hrows⟩ := rows_head n ws
  have z0 : ((0 : Nat) : Int) = 0 := rfl
  -- a fault
  have bad : ∀ {j : Nat} {τ : Env} {o : O} {rest : Env}, wr ws (rowsOf n ws) 0 = some j → D_rule_in (E7 (lnO ws k 0) n none none none none none) = .er 104 [.int k, .int (j : Nat)] (some o :: rest) → Said n ws k (m_rule_in [some (lnO ws k 0), some (.fz (.int n))]) := fun {j τ o rest} h1 h2 =>
    .inl ⟨j, o, rest, h1, fn_er (d := D_rule_in) (τ0 := E7 (lnO ws k 0) n none none none none none) rfl h2⟩
  have good : ∀ {u : Ru} {o : O} {rest : Env}, u.ok n → wr ws (rowsOf n ws) 0 = none → D_rule_in (E7 (lnO ws k 0) n none none none none none) = .ok (.rt (.fz u.t)) (some o :: rest) → Said n ws k (m_rule_in [some (lnO ws k 0), some (.fz (.int n))]) := fun {u o rest} h1 h2 h3 =>
    .inr ⟨u, o, rest, h1, h2, fn_run (d := D_rule_in) (τ0 := E7 (lnO ws k 0) n none none none none none) rfl h3⟩
  have e1 : D_rule_in (E7 (lnO ws k 0) n none none none none none) = dSeq r2 (dSeq r3 r4) (E7 (lnO ws k ((0 : Nat) : Int)) n (some (.fz (cL n))) none none none none) := by
    rw [D_rule_in_eq]
    exact seq_run (r1_run hn)
  rcases wr_case ws W3 0 with ⟨w0, g0, m0⟩ | hno
  case inr =>
    refine bad (τ := []) (j := 1) (o := lnO ws k ((0 : Nat) : Int)) (rest := [some (.fz (.int n)), some (.fz (cL n)), none, none, none, none]) ?_ ?_
    · rw [hrows]
      exact wr_no hno
    · rw [e1]
      exact seq_er (par2_er1 (of_er (tk_no tkW_run (.inr (.inl rfl)) (Nat.zero_le _) hno)))
  have q0 : tkD tkW (E7 (lnO ws k ((0 : Nat) : Int)) n (some (.fz (cL n))) none none none none) = .ok (.str w0) (E7 (lnO ws k ((1 : Nat) : Int)) n (some (.fz (cL n))) none none none none) := tk_ok tkW_run (.inr (.inl rfl)) g0 m0
  rcases wr_case ws (lts n) 1 with ⟨w1, g1, m1⟩ | hno
  case inr =>
    refine bad (τ := []) (j := 2) (o := lnO ws k ((1 : Nat) : Int)) (rest := [some (.fz (.int n)), some (.fz (cL n)), none, none, none, none]) ?_ ?_
    · rw [hrows, wr_yes g0 m0]
      exact wr_no hno
    · rw [e1]
      exact seq_er (par2_er2 (of_run q0) (of_er (tk_no (dv_run rfl) (.inl rfl) (le_of_get g0) hno)))
  have q1 : tkD (dV 2) (E7 (lnO ws k ((1 : Nat) : Int)) n (some (.fz (cL n))) none none none none) = .ok (.str w1) (E7 (lnO ws k ((2 : Nat) : Int)) n (some (.fz (cL n))) none none none none) := tk_ok (dv_run rfl) (.inl rfl) g1 m1
  have e2 : D_rule_in (E7 (lnO ws k 0) n none none none none none) = dSeq r3 r4 (E7 (lnO ws k ((2 : Nat) : Int)) n (some (.fz (cL n))) (some (.fz (.str w0))) (some (.fz (.str w1))) none none) := by
    rw [e1]
    exact seq_run ((par2_run (of_run q0) (of_run q1) (by simp) (by simp)).trans rfl)
  obtain ⟨a, ha, rfl⟩ := mem_lts.mp m1
  have l2 := le_of_get g1
  by_cases hm : w0 = wMost
  · subst hm
    have hr : rowsOf n ws = [W3, lts n, digs 0 3, lastD ws[2]?] := if_pos g0
    have w2 : wr ws (rowsOf n ws) 0 = wr ws [digs 0 3, lastD ws[2]?] 2 := by rw [hr, wr_yes g0 m0, wr_yes g1 m1]
    have e3 : ∀ {τ : Env} {e : Nat} {fs : List T}, (dSet 5 (dFz (dMethO 3 0 isLine m_Line_number (dCons (dC (.int 0)) (dCons (dOp subT (dC c_MOST_WIDE) (dC (.int 1))) (dNil)))))) (E7 (lnO ws k ((2 : Nat) : Int)) n (some (.fz (cL n))) (some (.fz (.str wMost))) (some (.fz (.str (ltr a)))) none none) = .er e fs τ → dSeq r3 r4 (E7 (lnO ws k ((2 : Nat) : Int)) n (some (.fz (cL n))) (some (.fz (.str wMost))) (some (.fz (.str (ltr a)))) none none) = .er e fs τ := fun h =>
      seq_er (if_er eq_most (by rw [decide_eq_true rfl]; exact seq_er h))
    rcases wr_case ws (digs 0 3) 2 with ⟨w2', g2, m2⟩ | hno
    case inr =>
      refine bad (τ := []) (j := 3) (o := lnO ws k ((2 : Nat) : Int)) (rest := [some (.fz (.int n)), some (.fz (cL n)), some (.fz (.str wMost)), some (.fz (.str (ltr a))), none, none]) ?_ ?_
      · rw [w2]
        exact wr_no hno
      · rw [e2]
        refine e3 (set_er (fz_er ?_))
        exact methO_er (i := 0) (ts := [.int 0, .int 3]) (τ1 := E7 (lnO ws k ((2 : Nat) : Int)) n (some (.fz (cL n))) (some (.fz (.str wMost))) (some (.fz (.str (ltr a)))) none none) rfl rfl (cons_run dc_run (cons_run (op_run dc_run dc_run rfl) nil_run)) rfl rfl (num_no (lo := 0) (hi := 3) (by decide) l2 hno)
    obtain ⟨d, _, hd, rfl⟩ := mem_digs.mp m2
    have q2 : dSet 5 (dFz (dMethO 3 0 isLine m_Line_number (dCons (dC (.int 0)) (dCons (dOp subT (dC c_MOST_WIDE) (dC (.int 1))) (dNil))))) (E7 (lnO ws k ((2 : Nat) : Int)) n (some (.fz (cL n))) (some (.fz (.str wMost))) (some (.fz (.str (ltr a)))) none none) = .ok .nx (E7 (lnO ws k ((3 : Nat) : Int)) n (some (.fz (cL n))) (some (.fz (.str wMost))) (some (.fz (.str (ltr a)))) (some (.fz (.int d))) none) := by
      refine (set_run (t := .int d) (τ1 := E7 (lnO ws k ((3 : Nat) : Int)) n (some (.fz (cL n))) (some (.fz (.str wMost))) (some (.fz (.str (ltr a)))) none none) ((fz_run (o := .fz (.int d)) ?_).trans rfl)).trans rfl
      exact methO_run (i := 0) (ts := [.int 0, .int 3]) (τ1 := E7 (lnO ws k ((2 : Nat) : Int)) n (some (.fz (cL n))) (some (.fz (.str wMost))) (some (.fz (.str (ltr a)))) none none) rfl rfl (cons_run dc_run (cons_run (op_run dc_run dc_run rfl) nil_run)) rfl rfl (num_ok (lo := 0) (hi := 3) (by decide) g2 (Nat.zero_le _) hd (by omega))
    have hlast : lastD ws[2]? = digs (max 2 (d + 1)) 4 := by
      rw [g2]
      have : d = 0 ∨ d = 1 ∨ d = 2 ∨ d = 3 := by omega
      rcases this with rfl | rfl | rfl | rfl <;> rfl
    have hprs : (max 2 (d + 1), 4) ∈ prs := by
      have : d = 0 ∨ d = 1 ∨ d = 2 ∨ d = 3 := by omega
      rcases this with rfl | rfl | rfl | rfl <;> decide
    have w3 : wr ws (rowsOf n ws) 0 = wr ws [digs (max 2 (d + 1)) 4] 3 := by rw [w2, wr_yes g2 m2, hlast]
    have l3 := le_of_get g2
    have hargs : ∀ {l : O}, (dCons (dCall maxT (dCons (dC (.int 2)) (dCons (dOp addT (dV 5) (dC (.int 1))) (dNil)))) (dCons (dC c_MOST_WIDE) (dNil))) (E7 l n (some (.fz (cL n))) (some (.fz (.str wMost))) (some (.fz (.str (ltr a)))) (some (.fz (.int d))) none) = .ok [.int ((max 2 (d + 1) : Nat) : Int), .int 4] (E7 l n (some (.fz (cL n))) (some (.fz (.str wMost))) (some (.fz (.str (ltr a)))) (some (.fz (.int d))) none) := by
      intro l
      refine cons_run (callg_run (ts := [.int 2, .int ((d : Int) + 1)]) (cons_run dc_run (cons_run (op_run (dv_run rfl) dc_run rfl) nil_run)) ?_) (cons_run dc_run nil_run)
      show some (T.int (if (d : Int) + 1 > 2 then (d : Int) + 1 else 2)) = _
      congr 2
      split <;> omega
    rcases wr_case ws (digs (max 2 (d + 1)) 4) 3 with ⟨w3', g3, m3⟩ | hno
    case inr =>
      refine bad (τ := []) (j := 4) (o := lnO ws k ((3 : Nat) : Int)) (rest := [some (.fz (.int n)), some (.fz (cL n)), some (.fz (.str wMost)), some (.fz (.str (ltr a))), some (.fz (.int d)), none]) ?_ ?_
      · rw [w3]
        exact wr_no hno
      · rw [e2]
        refine seq_er (if_er eq_most ?_)
        rw [decide_eq_true rfl, if_pos rfl, seq_run q2]
        refine set_er (tup_er (cons_er2 (dv_run rfl) (cons_er2 (dv_run rfl) (cons_er2 (dv_run rfl) (cons_er (fz_er ?_))))))
        exact methO_er (i := 0) (ts := [.int ((max 2 (d + 1) : Nat) : Int), .int 4]) (τ1 := E7 (lnO ws k ((3 : Nat) : Int)) n (some (.fz (cL n))) (some (.fz (.str wMost))) (some (.fz (.str (ltr a)))) (some (.fz (.int d))) none) rfl rfl hargs rfl rfl (num_no (lo := max 2 (d + 1)) (hi := 4) hprs l3 hno)
    obtain ⟨w, hw1, hw2, rfl⟩ := mem_digs.mp m3
    have e5 : D_rule_in (E7 (lnO ws k 0) n none none none none none) = r4 (E7 (lnO ws k ((4 : Nat) : Int)) n (some (.fz (cL n))) (some (.fz (.str wMost))) (some (.fz (.str (ltr a)))) (some (.fz (.int d))) (some (.fz (Ru.t (.most a d w))))) := by
      rw [e2]
      refine seq_run ((if_t (τ1 := E7 (lnO ws k ((2 : Nat) : Int)) n (some (.fz (cL n))) (some (.fz (.str wMost))) (some (.fz (.str (ltr a)))) none none) (by rw [eq_most, decide_eq_true rfl])).trans ?_)
      rw [seq_run q2]
      refine (set_run (t := Ru.t (.most a d w)) (τ1 := E7 (lnO ws k ((4 : Nat) : Int)) n (some (.fz (cL n))) (some (.fz (.str wMost))) (some (.fz (.str (ltr a)))) (some (.fz (.int d))) none) ?_).trans rfl
      refine tup_run (ts := [.str wMost, .str (ltr a), .int d, .int w]) (cons_run (dv_run rfl) (cons_run (dv_run rfl) (cons_run (dv_run rfl) (cons_run ?_ nil_run)))) (by simp)
      refine (fz_run (o := .fz (.int w)) ?_).trans rfl
      exact methO_run (i := 0) (ts := [.int ((max 2 (d + 1) : Nat) : Int), .int 4]) (τ1 := E7 (lnO ws k ((3 : Nat) : Int)) n (some (.fz (cL n))) (some (.fz (.str wMost))) (some (.fz (.str (ltr a)))) (some (.fz (.int d))) none) rfl rfl hargs rfl rfl (num_ok (lo := max 2 (d + 1)) (hi := 4) hprs g3 hw1 hw2 (by omega))
    have l4 := le_of_get g3
    have w4 : wr ws (rowsOf n ws) 0 = wr ws [] 4 := by rw [w3, wr_yes g3 m3]
    by_cases hl : 4 < ws.length
    · refine bad (τ := []) (j := 5) (o := lnO ws k ((4 : Nat) : Int)) (rest := [some (.fz (.int n)), some (.fz (cL n)), some (.fz (.str wMost)), some (.fz (.str (ltr a))), some (.fz (.int d)), some (.fz (Ru.t (.most a d w)))]) ?_ ?_
      · rw [w4]
        exact wr_end hl
      · rw [e5]
        exact r4_no hl
    · have he : ws.length = 4 := by omega
      refine good (u := .most a d w) (o := lnO ws k (ws.length : Nat)) (rest := [some (.fz (.int n)), some (.fz (cL n)), some (.fz (.str wMost)), some (.fz (.str (ltr a))), some (.fz (.int d)), some (.fz (Ru.t (.most a d w)))]) ⟨ha, by omega, by omega, hw2⟩ ?_ ?_
      · rw [w4]
        exact wr_fin (by omega)
      · rw [e5]
        have := r4_ok (ws := ws) (k := k) (n := n) (t := Ru.t (.most a d w)) (a2 := some (.fz (cL n))) (a3 := some (.fz (.str wMost))) (a4 := some (.fz (.str (ltr a)))) (a5 := some (.fz (.int d)))
        rw [he] at this ⊢
        exact this
  · have hr : rowsOf n ws = [W3, lts n, lts n] := if_neg (by rw [g0]; exact fun z => hm (Option.some.inj z))
    have w2 : wr ws (rowsOf n ws) 0 = wr ws [lts n] 2 := by rw [hr, wr_yes g0 m0, wr_yes g1 m1]
    rcases wr_case ws (lts n) 2 with ⟨w2', g2, m2⟩ | hno
    case inr =>
      refine bad (τ := []) (j := 3) (o := lnO ws k ((2 : Nat) : Int)) (rest := [some (.fz (.int n)), some (.fz (cL n)), some (.fz (.str w0)), some (.fz (.str (ltr a))), none, none]) ?_ ?_
      · rw [w2]
        exact wr_no hno
      · rw [e2]
        refine seq_er (if_er eq_most ?_)
        rw [decide_eq_false hm, if_neg Bool.false_ne_true]
        exact set_er (tup_er (cons_er2 (dv_run rfl) (cons_er2 (dv_run rfl) (cons_er (tk_no (dv_run rfl) (.inl rfl) l2 hno)))))
    obtain ⟨b, hb, rfl⟩ := mem_lts.mp m2
    obtain ⟨s, hs⟩ : ∃ s : Bool, Ru.t (.two s a b) = .tup [.str w0, .str (ltr a), .str (ltr b)] := by
      have m0' : w0 = [98, 101, 115, 105, 100, 101] ∨ w0 = [115, 101, 99, 111, 110, 100] ∨ w0 = wMost := by simpa [W3] using m0
      rcases m0' with rfl | rfl | h
      · exact ⟨false, rfl⟩
      · exact ⟨true, rfl⟩
      · exact absurd h hm
    have e5 : D_rule_in (E7 (lnO ws k 0) n none none none none none) = r4 (E7 (lnO ws k ((3 : Nat) : Int)) n (some (.fz (cL n))) (some (.fz (.str w0))) (some (.fz (.str (ltr a)))) none (some (.fz (Ru.t (.two s a b))))) := by
      rw [e2]
      refine seq_run ((if_f (τ1 := E7 (lnO ws k ((2 : Nat) : Int)) n (some (.fz (cL n))) (some (.fz (.str w0))) (some (.fz (.str (ltr a)))) none none) (by rw [eq_most, decide_eq_false hm])).trans ?_)
      refine (set_run (t := Ru.t (.two s a b)) (τ1 := E7 (lnO ws k ((3 : Nat) : Int)) n (some (.fz (cL n))) (some (.fz (.str w0))) (some (.fz (.str (ltr a)))) none none) ?_).trans rfl
      rw [hs]
      exact tup_run (ts := [.str w0, .str (ltr a), .str (ltr b)]) (cons_run (dv_run rfl) (cons_run (dv_run rfl) (cons_run (tk_ok (dv_run rfl) (.inl rfl) g2 m2) nil_run))) (by simp)
    have l3 := le_of_get g2
    have w4 : wr ws (rowsOf n ws) 0 = wr ws [] 3 := by rw [w2, wr_yes g2 m2]
    by_cases hl : 3 < ws.length
    · refine bad (τ := []) (j := 4) (o := lnO ws k ((3 : Nat) : Int)) (rest := [some (.fz (.int n)), some (.fz (cL n)), some (.fz (.str w0)), some (.fz (.str (ltr a))), none, some (.fz (Ru.t (.two s a b)))]) ?_ ?_
      · rw [w4]
        exact wr_end hl
      · rw [e5]
        exact r4_no hl
    · have he : ws.length = 3 := by omega
      refine good (u := .two s a b) (o := lnO ws k (ws.length : Nat)) (rest := [some (.fz (.int n)), some (.fz (cL n)), some (.fz (.str w0)), some (.fz (.str (ltr a))), none, some (.fz (Ru.t (.two s a b)))]) ⟨ha, hb⟩ ?_ ?_
      · rw [w4]
        exact wr_fin (by omega)
      · rw [e5]
        have := r4_ok (ws := ws) (k := k) (n := n) (t := Ru.t (.two s a b)) (a2 := some (.fz (cL n))) (a3 := some (.fz (.str w0))) (a4 := some (.fz (.str (ltr a)))) (a5 := none)
        rw [he] at this ⊢
        exact this
end TL
set_option Elab.async false
set_option linter.all false
set_option maxRecDepth 100000
set_option maxHeartbeats 0
namespace TL
open PySem PySem.Spec L2

def dueR (n : Nat) : List (List Cs) → Nat → Option (Nat × Nat)
  | [], _ => none
  | ws :: r, k => if 4 < k then some (k + 1, 1) else match wr ws (rowsOf n ws) 0 with
    | some j => some (k + 1, j)
    | none => dueR n r (k + 1)
def wShape : List Cs := [[99, 111, 114, 100], [114, 105, 110, 103]]
def R0 : List (List Cs) := [wShape, digs 2 3]
def kindsOf (ws : List Cs) : Nat := if ws[1]? = some [51] then 3 else 2
def dueA (h : List Cs) (t : List (List Cs)) : Option (Nat × Nat) := match wr h R0 0 with
  | some j => some (1, j)
  | none => dueR (kindsOf h) t 1
def rdG : DG := (gT 2 (gsCons (gN 6) (gsCons (gN 7) (gsNil))))
def rdB : DS := (dSeq (dSetO 8 (dMake 20 3 m_Line___init__ (dCons (dV 7) (dCons (dOp addT (dV 6) (dC (.int 2))) (dNil))))) (dSeq (dIfS (dRoB (dBl (dOp eqT (dCall lenT (dCons (dV 2) (dNil))) (dC c_MOST_RULES)))) (dDrop (dFz (dMethO 1 8 isLine m_Line_fail dNil))) (dNx)) (dDrop (dMtd 2 appG (dCons (dFz (dCallF 2 [8] m_rule_in (dCons (dV 5) (dNil)))) (dNil))))))
abbrev E9 (x0 x1 : Option O) (us : List T) (x3 x4 : Option O) (n : Nat) (a b c : Option O) : Env := [x0, x1, some (.lst (us.map .fz)), x3, x4, some (.fz (.int n)), a, b, c]
theorem forL_nx {g : DG} {b : DS} {t : T} {ts : List T} {τ τ1 τ2 : Env} (h : g t τ = some τ1) (hb : b τ1 = .ok .nx τ2) : forL g b (t :: ts) τ = forL g b ts τ2 := by
  rw [forL, h]
  dsimp only
  rw [hb, R.bind_ok]
theorem forL_er {g : DG} {b : DS} {t : T} {ts : List T} {τ τ1 τ2 : Env} {e : Nat} {fs : List T} (h : g t τ = some τ1) (hb : b τ1 = .er e fs τ2) : forL g b (t :: ts) τ = .er e fs τ2 := by
  rw [forL, h]
  dsimp only
  rw [hb]
  rfl
theorem forL_rt {g : DG} {b : DS} {t : T} {ts : List T} {τ τ1 τ2 : Env} {o : O} (h : g t τ = some τ1) (hb : b τ1 = .ok (.rt o) τ2) : forL g b (t :: ts) τ = .ok (.rt o) τ2 := by
  rw [forL, h]
  dsimp only
  rw [hb, R.bind_ok]
/-- what the lines behind the head give -/
def SaidL (n : Nat) (W : List (List Cs)) (k : Nat) (x0 x1 : Option O) (x3 x4 : Option O) (j : Nat) (r : R Fl) : Prop :=
  (∃ a b τ, dueR n W k = some (a, b) ∧ r = .er 104 [.int (a : Nat), .int (b : Nat)] τ) ∨ ∃ (rs : List Ru) (a b c : Option O), (∀ u ∈ rs, u.ok n) ∧ rs.length ≤ 4 ∧ dueR n W k = none ∧ r = .ok .nx (E9 x0 x1 (rs.map Ru.t) x3 x4 n a b c)
theorem len_us {us : List T} : (ro (E9 x0 x1 us x3 x4 n a b c))[2]? = some (some (.fz (.lst us))) := by
  show some (some (O.fz (T.lst (ers (us.map .fz))))) = _
  rw [ers_fz]
theorem read_for {n : Nat} (hn : n = 2 ∨ n = 3) {x0 x1 x3 x4 : Option O} : ∀ (L : List Cs) (rs : List Ru) (a b c : Option O), (∀ l ∈ L, l.length ≤ 900) → (∀ u ∈ rs, u.ok n) → rs.length ≤ 4 →
    SaidL n (L.map toks) (rs.length + 1) x0 x1 x3 x4 rs.length (forL rdG rdB (((L.map T.str).zipIdx rs.length).map fun p => .tup [.int (p.2 : Nat), p.1]) (E9 x0 x1 (rs.map Ru.t) x3 x4 n a b c))
  | [], rs, a, b, c, _, h1, h2 => .inr ⟨rs, a, b, c, h1, h2, rfl, rfl⟩
  | s :: L, rs, a, b, c, h0, h1, h2 => by
    obtain ⟨ri, ei⟩ := line_init (s := s) (h0 s List.mem_cons_self) ((rs.length : Int) + 2)
    have hk : ((rs.length : Int) + 2) = ((rs.length + 2 : Nat) : Int) := by omega
    have hg : rdG (.tup [.int (rs.length : Nat), .str s]) (E9 x0 x1 (rs.map Ru.t) x3 x4 n a b c) = some (E9 x0 x1 (rs.map Ru.t) x3 x4 n (some (.fz (.int rs.length))) (some (.fz (.str s))) c) := rfl
    have b1 : dSetO 8 (dMake 20 3 m_Line___init__ (dCons (dV 7) (dCons (dOp addT (dV 6) (dC (.int 2))) (dNil)))) (E9 x0 x1 (rs.map Ru.t) x3 x4 n (some (.fz (.int rs.length))) (some (.fz (.str s))) c) = .ok .nx (E9 x0 x1 (rs.map Ru.t) x3 x4 n (some (.fz (.int rs.length))) (some (.fz (.str s))) (some (lnO (toks s) ((rs.length : Int) + 2) ((0 : Nat) : Int)))) := by
      refine setO_run (i := 8) (o := lnO (toks s) ((rs.length : Int) + 2) 0) (τ1 := E9 x0 x1 (rs.map Ru.t) x3 x4 n (some (.fz (.int rs.length))) (some (.fz (.str s))) c) ?_ (by simp)
      refine make_run (ts := [.str s, .int ((rs.length : Int) + 2)]) ?_ rfl ei
      exact cons_run (dv_run rfl) (cons_run (op_run (dv_run rfl) dc_run rfl) nil_run)
    have b2 : ∀ {c : Option O}, dRoB (dBl (dOp eqT (dCall lenT (dCons (dV 2) (dNil))) (dC c_MOST_RULES))) (E9 x0 x1 (rs.map Ru.t) x3 x4 n (some (.fz (.int rs.length))) (some (.fz (.str s))) c) = .ok (decide ((rs.length : Int) = 4)) (E9 x0 x1 (rs.map Ru.t) x3 x4 n (some (.fz (.int rs.length))) (some (.fz (.str s))) c) := by
      intro c
      refine rob_run (bl_run (op_run (callg_run (u := .int rs.length) (cons_run (dv_run len_us) nil_run) ?_) dc_run rfl))
      show some (T.int ((rs.map Ru.t).length : Nat)) = _
      rw [List.length_map]
    have hzip : (((s :: L).map T.str).zipIdx rs.length).map (fun p : T × Nat => T.tup [.int (p.2 : Nat), p.1]) = .tup [.int (rs.length : Nat), .str s] :: (((L.map T.str).zipIdx (rs.length + 1)).map fun p => .tup [.int (p.2 : Nat), p.1]) := rfl
    rw [hzip]
    by_cases h4 : rs.length = 4
    · refine .inl ⟨rs.length + 2, 1, _, ?_, forL_er hg (τ2 := E9 x0 x1 (rs.map Ru.t) x3 x4 n (some (.fz (.int rs.length))) (some (.fz (.str s))) (some (lnO (toks s) ((rs.length : Int) + 2) ((0 : Nat) : Int)))) ?_⟩
      · show (if 4 < rs.length + 1 then some (rs.length + 1 + 1, 1) else _) = _
        rw [if_pos (by omega)]
      · unfold rdB
        rw [seq_run b1]
        refine seqif_er (b2.trans (by rw [decide_eq_true (by omega)])) (drop_er (fz_er ?_))
        rw [hk]
        exact methO_er (i := 8) (ts := []) (τ1 := E9 x0 x1 (rs.map Ru.t) x3 x4 n (some (.fz (.int rs.length))) (some (.fz (.str s))) (some (lnO (toks s) ((rs.length + 2 : Nat) : Int) ((0 : Nat) : Int)))) (o2 := lnO (toks s) ((rs.length + 2 : Nat) : Int) ((0 : Nat) : Int)) (rest := []) rfl rfl nil_run rfl rfl fail_run
    · have e0 : ∀ x : Option O, (dSeq (dIfS (dRoB (dBl (dOp eqT (dCall lenT (dCons (dV 2) (dNil))) (dC c_MOST_RULES)))) (dDrop (dFz (dMethO 1 8 isLine m_Line_fail dNil))) (dNx)) (dDrop (dMtd 2 appG (dCons (dFz (dCallF 2 [8] m_rule_in (dCons (dV 5) (dNil)))) (dNil))))) (E9 x0 x1 (rs.map Ru.t) x3 x4 n (some (.fz (.int rs.length))) (some (.fz (.str s))) x) = dDrop (dMtd 2 appG (dCons (dFz (dCallF 2 [8] m_rule_in (dCons (dV 5) (dNil)))) (dNil))) (E9 x0 x1 (rs.map Ru.t) x3 x4 n (some (.fz (.int rs.length))) (some (.fz (.str s))) x) := fun x =>
        seqif_f (b2.trans (by rw [decide_eq_false (by omega)]))
      rcases rule_said hn (toks s) ((rs.length : Int) + 2) with ⟨j, o, rest, w1, w2⟩ | ⟨u, o, rest, hu, w1, w2⟩
      · refine .inl ⟨rs.length + 2, j, _, ?_, forL_er hg (τ2 := E9 x0 x1 (rs.map Ru.t) x3 x4 n (some (.fz (.int rs.length))) (some (.fz (.str s))) (some o)) ?_⟩
        · show (if 4 < rs.length + 1 then some (rs.length + 1 + 1, 1) else (match wr (toks s) (rowsOf n (toks s)) 0 with | some j => some (rs.length + 1 + 1, j) | none => _)) = _
          rw [if_neg (by omega), w1]
        · unfold rdB
          rw [seq_run b1, e0]
          refine drop_er (mtd_er (l0 := (rs.map Ru.t).map .fz) rfl (cons_er (fz_er ?_)))
          rw [hk] at w2 ⊢
          exact call_er1 (i := 8) (ts := [.int n]) (τ1 := E9 x0 x1 (rs.map Ru.t) x3 x4 n (some (.fz (.int rs.length))) (some (.fz (.str s))) (some (lnO (toks s) ((rs.length + 2 : Nat) : Int) ((0 : Nat) : Int)))) rfl (cons_run (dv_run rfl) nil_run) rfl rfl w2
      · have ih := read_for hn (x0 := x0) (x1 := x1) (x3 := x3) (x4 := x4) L (rs ++ [u]) (some (.fz (.int rs.length))) (some (.fz (.str s))) (some o) (fun l hl => h0 l (List.mem_cons_of_mem _ hl)) (fun v hv => by
          rcases List.mem_append.mp hv with hv | hv
          · exact h1 v hv
          · rw [List.mem_singleton.mp hv]
            exact hu) (by simp; omega)
        have el : (rs ++ [u]).length = rs.length + 1 := by simp
        rw [el] at ih
        have hd : dueR n ((s :: L).map toks) (rs.length + 1) = dueR n (L.map toks) (rs.length + 1 + 1) := by
          show (if 4 < rs.length + 1 then some (rs.length + 1 + 1, 1) else (match wr (toks s) (rowsOf n (toks s)) 0 with | some j => some (rs.length + 1 + 1, j) | none => dueR n (L.map toks) (rs.length + 1 + 1))) = _
          rw [if_neg (by omega), w1]
        have hf : forL rdG rdB (.tup [.int (rs.length : Nat), .str s] :: (((L.map T.str).zipIdx (rs.length + 1)).map fun p => .tup [.int (p.2 : Nat), p.1])) (E9 x0 x1 (rs.map Ru.t) x3 x4 n a b c) = forL rdG rdB (((L.map T.str).zipIdx (rs.length + 1)).map fun p => .tup [.int (p.2 : Nat), p.1]) (E9 x0 x1 ((rs ++ [u]).map Ru.t) x3 x4 n (some (.fz (.int rs.length))) (some (.fz (.str s))) (some o)) := by
          refine forL_nx hg ?_
          unfold rdB
          rw [seq_run b1, e0]
          refine drop_run (t := .non) ?_
          have hc : dFz (dCallF 2 [8] m_rule_in (dCons (dV 5) (dNil))) (E9 x0 x1 (rs.map Ru.t) x3 x4 n (some (.fz (.int rs.length))) (some (.fz (.str s))) (some (lnO (toks s) ((rs.length : Int) + 2) ((0 : Nat) : Int)))) = .ok u.t (E9 x0 x1 (rs.map Ru.t) x3 x4 n (some (.fz (.int rs.length))) (some (.fz (.str s))) (some o)) := by
            refine (fz_run (o := .fz u.t) (call_run1 (ts := [.int n]) rfl (cons_run (dv_run rfl) nil_run) rfl rfl w2)).trans rfl
          refine (mtd_run (l0 := (rs.map Ru.t).map .fz) (l := (rs.map Ru.t).map .fz) (l' := ((rs ++ [u]).map Ru.t).map .fz) rfl (cons_run hc nil_run) rfl ?_).trans rfl
          unfold appG
          dsimp only
          rw [if_pos (Nat.lt_of_lt_of_le (m := 1000) (by simp; omega) (by decide))]
          simp
        rw [hf]
        unfold SaidL at ih ⊢
        rw [hd]
        exact ih
end TL
set_option Elab.async false
set_option linter.all false
set_option maxRecDepth 100000
set_option maxHeartbeats 0
namespace TL
open PySem PySem.Spec L2

def h2 : DS := (dPar [4, 5] (dConsO (dOf (dFz (dMethO 2 3 isLine m_Line_take (dCons (dC c_SHAPES) (dNil))))) (dConsO (dOf (dFz (dMethO 3 3 isLine m_Line_number (dCons (dC (.int 2)) (dCons (dCall lenT (dCons (dC c_LETTERS) (dNil))) (dNil)))))) (dNilO))))
def h3 : DS := (dDrop (dFz (dMethO 1 3 isLine m_Line_finish dNil)))
def h4 : DS := dSeq (dFor (dEn (dCons (dSl (dV 1) (dPart (dC (.int 1))) (dNoP)) (dNil))) rdG rdB) (dRet (dMake 10 4 m_Book___init__ (dCons (dV 5) (dCons (dV 4) (dCons (dCall tupT (dCons (dV 2) (dNil))) (dNil))))))
abbrev H9 (x0 x1 : Option O) (l : O) (x4 x5 : Option O) : Env := [x0, x1, some (.lst []), some l, x4, x5, none, none, none]
theorem shape_cont : Cont c_SHAPES wShape := .inr (.inr rfl)
theorem hArgs {τ : Env} : (dCons (dC (.int 2)) (dCons (dCall lenT (dCons (dC c_LETTERS) (dNil))) (dNil))) τ = .ok [.int 2, .int 3] τ := cons_run dc_run (cons_run (callg_run (cons_run dc_run nil_run) rfl) nil_run)
/-- the head's line -/
theorem head_said {x0 x1 : Option O} (ws : List Cs) :
    (∃ j τ, wr ws R0 0 = some j ∧ dSeq h2 (dSeq h3 h4) (H9 x0 x1 (lnO ws 1 ((0 : Nat) : Int)) none none) = .er 104 [.int 1, .int (j : Nat)] τ) ∨
    ∃ (n : Nat) (z : Cs), (n = 2 ∨ n = 3) ∧ (z = [99, 111, 114, 100] ∨ z = [114, 105, 110, 103]) ∧ kindsOf ws = n ∧ wr ws R0 0 = none ∧ dSeq h2 (dSeq h3 h4) (H9 x0 x1 (lnO ws 1 ((0 : Nat) : Int)) none none) = h4 (H9 x0 x1 (lnO ws 1 ((2 : Nat) : Int)) (some (.fz (.str z))) (some (.fz (.int n)))) := by
  rcases wr_case ws wShape 0 with ⟨z, g0, m0⟩ | hno
  case inr =>
    refine .inl ⟨1, _, wr_no hno, seq_er (par2_er1 (of_er (fz_er (methO_er (i := 3) (ts := [c_SHAPES]) (τ1 := H9 x0 x1 (lnO ws 1 ((0 : Nat) : Int)) none none) rfl rfl (cons_run dc_run nil_run) rfl rfl (take_no shape_cont (Nat.zero_le _) hno)))))⟩
  have q0 : (dOf (dFz (dMethO 2 3 isLine m_Line_take (dCons (dC c_SHAPES) (dNil))))) (H9 x0 x1 (lnO ws 1 ((0 : Nat) : Int)) none none) = .ok (.fz (.str z)) (H9 x0 x1 (lnO ws 1 ((1 : Nat) : Int)) none none) := by
    refine of_run ((fz_run (o := .fz (.str z)) ?_).trans rfl)
    exact methO_run (i := 3) (ts := [c_SHAPES]) (τ1 := H9 x0 x1 (lnO ws 1 ((0 : Nat) : Int)) none none) rfl rfl (cons_run dc_run nil_run) rfl rfl (take_ok shape_cont g0 m0)
  have l1 := le_of_get g0
  rcases wr_case ws (digs 2 3) 1 with ⟨w1, g1, m1⟩ | hno
  case inr =>
    refine .inl ⟨2, _, ?_, seq_er (par2_er2 q0 (of_er (fz_er (methO_er (i := 3) (ts := [.int 2, .int 3]) (τ1 := H9 x0 x1 (lnO ws 1 ((1 : Nat) : Int)) none none) rfl rfl hArgs rfl rfl (num_no (lo := 2) (hi := 3) (by decide) l1 hno)))))⟩
    show wr ws (wShape :: [digs 2 3]) 0 = _
    rw [wr_yes g0 m0]
    exact wr_no hno
  obtain ⟨n, n1, n2, rfl⟩ := mem_digs.mp m1
  have q1 : (dOf (dFz (dMethO 3 3 isLine m_Line_number (dCons (dC (.int 2)) (dCons (dCall lenT (dCons (dC c_LETTERS) (dNil))) (dNil)))))) (H9 x0 x1 (lnO ws 1 ((1 : Nat) : Int)) none none) = .ok (.fz (.int n)) (H9 x0 x1 (lnO ws 1 ((2 : Nat) : Int)) none none) := by
    refine of_run ((fz_run (o := .fz (.int n)) ?_).trans rfl)
    exact methO_run (i := 3) (ts := [.int 2, .int 3]) (τ1 := H9 x0 x1 (lnO ws 1 ((1 : Nat) : Int)) none none) rfl rfl hArgs rfl rfl (num_ok (lo := 2) (hi := 3) (by decide) g1 n1 n2 (by omega))
  have e2 : dSeq h2 (dSeq h3 h4) (H9 x0 x1 (lnO ws 1 ((0 : Nat) : Int)) none none) = dSeq h3 h4 (H9 x0 x1 (lnO ws 1 ((2 : Nat) : Int)) (some (.fz (.str z))) (some (.fz (.int n)))) :=
    seq_run ((par2_run q0 q1 (by simp) (by simp)).trans rfl)
  have w2 : wr ws R0 0 = wr ws [] 2 := by
    show wr ws (wShape :: [digs 2 3]) 0 = _
    rw [wr_yes g0 m0, wr_yes g1 m1]
  have l2 := le_of_get g1
  by_cases hl : 2 < ws.length
  · refine .inl ⟨3, H9 x0 x1 (lnO ws 1 ((2 : Nat) : Int)) (some (.fz (.str z))) (some (.fz (.int n))), by rw [w2]; exact wr_end hl, ?_⟩
    rw [e2]
    exact seq_er (drop_er (fz_er (methO_er (i := 3) (ts := []) (τ1 := H9 x0 x1 (lnO ws 1 ((2 : Nat) : Int)) (some (.fz (.str z))) (some (.fz (.int n)))) (o2 := lnO ws 1 ((2 : Nat) : Int)) (rest := []) rfl rfl nil_run rfl rfl (finish_no hl))))
  · have he : ws.length = 2 := by omega
    refine .inr ⟨n, z, by omega, by simpa [wShape] using m0, ?_, by rw [w2]; exact wr_fin (by omega), ?_⟩
    · unfold kindsOf
      rw [g1]
      have : n = 2 ∨ n = 3 := by omega
      rcases this with rfl | rfl <;> rfl
    · rw [e2]
      refine seq_run (drop_run (t := .non) ((fz_run (o := .fz .non) ?_).trans rfl))
      have hfin : m_Line_finish [some (lnO ws 1 ((2 : Nat) : Int))] = .ok (.fz .non) [some (lnO ws 1 ((2 : Nat) : Int))] := by
        have := finish_ok (ws := ws) (k := 1)
        rw [he] at this
        exact this
      exact methO_run (i := 3) (ts := []) (τ1 := H9 x0 x1 (lnO ws 1 ((2 : Nat) : Int)) (some (.fz (.str z))) (some (.fz (.int n)))) (o2 := lnO ws 1 ((2 : Nat) : Int)) (rest := []) rfl rfl nil_run rfl rfl hfin
theorem read_said {hd : Cs} {tl : List Cs} (h : ∀ l ∈ hd :: tl, l.length ≤ 900 ∧ 10 ∉ l) (hlen : (joinL [10] (hd :: tl)).length ≤ 9000) :
    (∃ a b τ, dueA (toks hd) (tl.map toks) = some (a, b) ∧ m_read [some (.fz (.str (joinL [10] (hd :: tl))))] = .er 104 [.int (a : Nat), .int (b : Nat)] τ) ∨ (dueA (toks hd) (tl.map toks) = none ∧ ∃ o τ, m_read [some (.fz (.str (joinL [10] (hd :: tl))))] = .ok o τ) := by
  obtain ⟨ri, ei⟩ := line_init (s := hd) (h hd List.mem_cons_self).1 1
  have hsp : spl [10] 0 [] (joinL [10] (hd :: tl)) = hd :: tl := spl_joinL (by simp) fun w hw => (h w hw).2
  have hs := split_ok (s := joinL [10] (hd :: tl)) (c := 10) (by decide) hlen
  rw [hsp] at hs
  generalize joinL [10] (hd :: tl) = tx at *
  have hD : D_read = dSeq (dPar [1, 2] (dConsO (dOf (dFz (dMethN isStr splitG (dV 0) (dCons (dC (.str [10])) (dNil))))) (dConsO (dLst (dNil)) (dNilO)))) (dSeq (dSetO 3 (dMake 20 3 m_Line___init__ (dCons (dOp ixG (dV 1) (dC (.int 0))) (dCons (dC (.int 1)) (dNil))))) (dSeq h2 (dSeq h3 h4))) := rfl
  have e1 : D_read [some (.fz (.str tx)), none, none, none, none, none, none, none, none] = dSeq h2 (dSeq h3 h4) (H9 (some (.fz (.str tx))) (some (.fz (.lst ((hd :: tl).map .str)))) (lnO (toks hd) 1 ((0 : Nat) : Int)) none none) := by
    rw [hD]
    refine (seq_run (τ1 := [some (.fz (.str tx)), some (.fz (.lst ((hd :: tl).map .str))), some (.lst []), none, none, none, none, none, none]) ?_).trans ?_
    · refine (par2_run (a := .fz (.lst ((hd :: tl).map .str))) (b := .lst []) (τ2 := [some (.fz (.str tx)), none, none, none, none, none, none, none, none]) (of_run (fzl_run (methN_run (s := .str tx) (ts := [.str [10]]) (dv_run rfl) rfl (cons_run dc_run nil_run) hs))) rfl (by simp) (by simp)).trans rfl
    refine seq_run ?_
    refine (setO_run (i := 3) (o := lnO (toks hd) 1 0) (τ1 := [some (.fz (.str tx)), some (.fz (.lst ((hd :: tl).map .str))), some (.lst []), none, none, none, none, none, none]) ?_ (by simp)).trans rfl
    refine make_run (ts := [.str hd, .int 1]) ?_ rfl ei
    refine cons_run (op_run (dv_run rfl) dc_run ?_) (cons_run dc_run nil_run)
    show L2.atI (T.str hd :: tl.map .str) 0 = _
    exact atI_0
  rcases head_said (x0 := some (.fz (.str tx))) (x1 := some (.fz (.lst ((hd :: tl).map .str)))) (toks hd) with ⟨j, τ, w1, w2⟩ | ⟨n, z, hn, hz, hk, w1, w2⟩
  · refine .inl ⟨1, j, τ, ?_, fn_er (d := D_read) (τ0 := [some (.fz (.str tx)), none, none, none, none, none, none, none, none]) rfl (e1.trans w2)⟩
    unfold dueA
    rw [w1]
  · have hA : dueA (toks hd) (tl.map toks) = dueR n (tl.map toks) 1 := by
      unfold dueA
      rw [w1, hk]
    rw [hA]
    have hc : slT (.lst ((hd :: tl).map .str)) (some 1) none = some (.lst (tl.map T.str)) := by
      show some (T.lst (cutL (T.str hd :: tl.map .str) (some 1) none)) = _
      rw [cut_tail]
    have he : dFor (dEn (dCons (dSl (dV 1) (dPart (dC (.int 1))) (dNoP)) (dNil))) rdG rdB (H9 (some (.fz (.str tx))) (some (.fz (.lst ((hd :: tl).map .str)))) (lnO (toks hd) 1 ((2 : Nat) : Int)) (some (.fz (.str z))) (some (.fz (.int n)))) =
        forL rdG rdB ((tl.map T.str).zipIdx.map fun p : T × Nat => T.tup [.int (p.2 : Nat), p.1]) (E9 (some (.fz (.str tx))) (some (.fz (.lst ((hd :: tl).map .str)))) [] (some (lnO (toks hd) 1 ((2 : Nat) : Int))) (some (.fz (.str z))) n none none none) := by
      refine for_run (en_run (cons_run ?_ nil_run))
      unfold dSl
      rw [dv_run (i := 1) (t := .lst ((hd :: tl).map .str)) rfl, R.bind_ok]
      show (match slT (.lst ((hd :: tl).map .str)) (some 1) none with | some u => R.ok u _ | none => .st) = _
      rw [hc]
      rfl
    rcases read_for hn (x0 := some (.fz (.str tx))) (x1 := some (.fz (.lst ((hd :: tl).map .str)))) (x3 := some (lnO (toks hd) 1 ((2 : Nat) : Int))) (x4 := some (.fz (.str z))) tl [] none none none (fun l hl => (h l (List.mem_cons_of_mem _ hl)).1) (by simp) (by simp) with ⟨a, b, τ, v1, v2⟩ | ⟨rs, a, b, c, u1, u2, v1, v2⟩
    · refine .inl ⟨a, b, τ, v1, fn_er (d := D_read) (τ0 := [some (.fz (.str tx)), none, none, none, none, none, none, none, none]) rfl ((e1.trans w2).trans ?_)⟩
      unfold h4
      exact seq_er (he.trans v2)
    · obtain ⟨rb, eb⟩ := book_ok hn hz u1 u2
      refine .inr ⟨v1, .obj 13 [.fz (.int n), .fz (.str z), .fz (.tup (rs.map Ru.t))], [some (.fz (.str tx)), some (.fz (.lst ((hd :: tl).map .str))), some (.fz (.lst (rs.map Ru.t))), some (lnO (toks hd) 1 ((2 : Nat) : Int)), some (.fz (.str z)), some (.fz (.int n)), a, b, c], fn_run (d := D_read) (τ0 := [some (.fz (.str tx)), none, none, none, none, none, none, none, none]) rfl ((e1.trans w2).trans ?_)⟩
      · unfold h4
        refine (seq_run (he.trans v2)).trans (ret_run ?_)
        refine make_run (rest := rb) (ts := [.int n, .str z, .tup (rs.map Ru.t)]) ?_ rfl eb
        refine cons_run (dv_run rfl) (cons_run (dv_run rfl) (cons_run ?_ nil_run))
        refine callg_run (ts := [.lst (rs.map Ru.t)]) (cons_run ?_ nil_run) rfl
        show R.ok (T.lst (ers ((rs.map Ru.t).map .fz))) [some (.fz (.str tx)), some (.fz (.lst ((hd :: tl).map .str))), some (.fz (.lst (ers ((rs.map Ru.t).map .fz)))), some (lnO (toks hd) 1 ((2 : Nat) : Int)), some (.fz (.str z)), some (.fz (.int n)), a, b, c] = _
        rw [ers_fz]
end TL
set_option Elab.async false
set_option linter.all false
set_option maxRecDepth 100000
set_option maxHeartbeats 0
namespace TL
open PySem PySem.Spec L2

theorem try_er {b : DS} {hs : MHs} {τ τ1 : Env} {n : Nat} {fs : List T} (h : b τ = .er n fs τ1) : dTry b hs τ = dHs hs n fs τ1 := by
  unfold dTry
  rw [h]
theorem try_nx {b : DS} {hs : MHs} {τ τ1 : Env} {f : Fl} (h : b τ = .ok f τ1) : dTry b hs τ = .ok f τ1 := by
  unfold dTry
  rw [h]
def ansT : Option (Nat × Nat) → T
  | none => .non
  | some (a, b) => .tup [.int a, .int b]
def ansB : DS := dDrop (dFz (dCallF 1 [] m_read (dCons (dV 0) (dNil))))
def ansH : MHs := [(some 2, (fun n => n == 104), fun n fs => dSet 1 (dIf (dTru (dC (.bl true))) (dTup (dCons (dFx fs 0) (dCons (dFx fs 1) (dNil)))) (dTup (dNil))))]
theorem ans_hit {x : Option O} {a b : Int} : dHs ansH 104 [.int a, .int b] [x, some (.fz .non), none] = .ok .nx [x, some (.fz (.tup [.int a, .int b])), none] := by
  have e : dSet 1 (dIf (dTru (dC (.bl true))) (dTup (dCons (dFx [.int a, .int b] 0) (dCons (dFx [.int a, .int b] 1) (dNil)))) (dTup (dNil))) [x, some (.fz .non), none] = .ok .nx [x, some (.fz (.tup [.int a, .int b])), none] := by
    refine (set_run (t := .tup [.int a, .int b]) (τ1 := [x, some (.fz .non), none]) ?_).trans rfl
    have e2 : dTup (dCons (dFx [.int a, .int b] 0) (dCons (dFx [.int a, .int b] 1) (dNil))) [x, some (.fz .non), none] = .ok (.tup [.int a, .int b]) [x, some (.fz .non), none] := tup_run (ts := [.int a, .int b]) (cons_run rfl (cons_run rfl nil_run)) (by simp)
    exact e2
  show dSu (some 2) (dSet 1 (dIf (dTru (dC (.bl true))) (dTup (dCons (dFx [.int a, .int b] 0) (dCons (dFx [.int a, .int b] 1) (dNil)))) (dTup (dNil)))) [x, some (.fz .non), none] = _
  unfold dSu
  dsimp only
  rw [if_pos (by simp)]
  show (match dSet 1 (dIf (dTru (dC (.bl true))) (dTup (dCons (dFx [.int a, .int b] 0) (dCons (dFx [.int a, .int b] 1) (dNil)))) (dTup (dNil))) [x, some (.fz .non), none] with | R.ok f τ1 => R.ok f (τ1.set 2 none) | _ => R.st) = _
  rw [e]
  rfl
theorem answer_ok {hd : Cs} {tl : List Cs} (h : ∀ l ∈ hd :: tl, l.length ≤ 900 ∧ 10 ∉ l) (hlen : (joinL [10] (hd :: tl)).length ≤ 9000) :
    ∃ τ, m__law_answer [some (.fz (.str (joinL [10] (hd :: tl))))] = .ok (.fz (ansT (dueA (toks hd) (tl.map toks)))) τ := by
  have hs := read_said h hlen
  generalize joinL [10] (hd :: tl) = tx at *
  have hD : D__law_answer = dSeq (dSet 1 (dC .non)) (dSeq (dTry ansB ansH) (dRet (dOf (dV 1)))) := rfl
  rcases hs with ⟨a, b, τ, w1, w2⟩ | ⟨w1, o, τ, w2⟩
  · rw [w1]
    refine ⟨[some (.fz (.str tx)), some (.fz (.tup [.int a, .int b])), none], fn_run (d := D__law_answer) (τ0 := [some (.fz (.str tx)), none, none]) rfl ?_⟩
    rw [hD]
    refine (seq_run (τ1 := [some (.fz (.str tx)), some (.fz .non), none]) rfl).trans ?_
    refine (seq_run (τ1 := [some (.fz (.str tx)), some (.fz (.tup [.int a, .int b])), none]) ?_).trans (ret_run (of_run (dv_run rfl)))
    refine (try_er (τ1 := [some (.fz (.str tx)), some (.fz .non), none]) ?_).trans ans_hit
    exact drop_er (fz_er (call_er (ts := [.str tx]) (cons_run (dv_run rfl) nil_run) rfl w2))
  · rw [w1]
    refine ⟨[some (.fz (.str tx)), some (.fz .non), none], fn_run (d := D__law_answer) (τ0 := [some (.fz (.str tx)), none, none]) rfl ?_⟩
    rw [hD]
    refine (seq_run (τ1 := [some (.fz (.str tx)), some (.fz .non), none]) rfl).trans ?_
    refine (seq_run (τ1 := [some (.fz (.str tx)), some (.fz .non), none]) ?_).trans (ret_run (of_run (dv_run rfl)))
    refine try_nx (drop_run (t := o.er) (fz_run (call_run (ts := [.str tx]) (cons_run (dv_run rfl) nil_run) rfl w2)))
/-! the law's look -/
def wrT : Option Nat → T
  | none => .non
  | some j => .int j
def rowsT (rows : List (List Cs)) : T := .lst (rows.map fun S => .lst (S.map .str))
def wdB : DS := (dIfS (dOr (dBl (dOp geT (dV 2) (dCall lenT (dCons (dV 0) (dNil))))) (dBl (dOp notInV (dOp ixG (dV 0) (dV 2)) (dOp ixG (dV 1) (dV 2))))) (dRet (dOf (dOp addT (dV 2) (dC (.int 1))))) (dNx))
theorem len_strs {ws : List Cs} {τ : Env} {i : Nat} (h : τ[i]? = some (some (.fz (.lst (ws.map .str))))) : dCall lenT (dCons (dV i) dNil) τ = .ok (.int ws.length) τ := by
  refine callg_run (ts := [.lst (ws.map .str)]) (cons_run (dv_run h) nil_run) ?_
  show some (T.int ((ws.map T.str).length : Nat)) = _
  rw [List.length_map]
theorem word_for (ws : List Cs) (rows : List (List Cs)) : ∀ (rest : List (List Cs)) (i : Nat) (x : Option O), rows.drop i = rest →
    (∃ j τ, wr ws rest i = some j ∧ forL (gN 2) wdB ((List.range' i rest.length).map fun k : Nat => T.int k) [some (.fz (.lst (ws.map .str))), some (.fz (rowsT rows)), x] = .ok (.rt (.fz (.int (j : Nat)))) τ) ∨
    (wr ws rest i = wr ws [] (i + rest.length) ∧ ∃ y, forL (gN 2) wdB ((List.range' i rest.length).map fun k : Nat => T.int k) [some (.fz (.lst (ws.map .str))), some (.fz (rowsT rows)), x] = .ok .nx [some (.fz (.lst (ws.map .str))), some (.fz (rowsT rows)), y])
  | [], i, x, _ => .inr ⟨rfl, x, rfl⟩
  | S :: rest, i, x, hr => by
    have hS : rows[i]? = some S := by
      have := congrArg (·[0]?) hr
      simpa using this
    have hr' : rows.drop (i + 1) = rest := by
      rw [← List.tail_drop, hr]
      rfl
    have hrow : L2.atI (rows.map fun S => T.lst (S.map .str)) (i : Int) = some (.lst (S.map .str)) := by
      have hi := (List.getElem?_eq_some_iff.mp hS).1
      unfold L2.atI
      rw [ixN_ok (by omega) (by simp; omega)]
      show (rows.map fun S => T.lst (S.map .str))[i]? = _
      rw [List.getElem?_map, hS]
      rfl
    have hl : (List.range' i (S :: rest).length).map (fun k : Nat => T.int k) = T.int (i : Nat) :: (List.range' (i + 1) rest.length).map fun k : Nat => T.int k := by
      rw [List.length_cons, List.range'_succ, List.map_cons]
    rw [hl]
    have hg : gN 2 (T.int (i : Nat)) [some (.fz (.lst (ws.map .str))), some (.fz (rowsT rows)), x] = some [some (.fz (.lst (ws.map .str))), some (.fz (rowsT rows)), some (.fz (.int i))] := rfl
    have hret : (dRet (dOf (dOp addT (dV 2) (dC (.int 1))))) [some (.fz (.lst (ws.map .str))), some (.fz (rowsT rows)), some (.fz (.int i))] = .ok (.rt (.fz (.int ((i + 1 : Nat) : Int)))) [some (.fz (.lst (ws.map .str))), some (.fz (rowsT rows)), some (.fz (.int i))] := ret_run (of_run (op_run (dv_run rfl) dc_run rfl))
    have hge : dBl (dOp geT (dV 2) (dCall lenT (dCons (dV 0) (dNil)))) [some (.fz (.lst (ws.map .str))), some (.fz (rowsT rows)), some (.fz (.int i))] = .ok (decide ((ws.length : Int) ≤ (i : Int))) [some (.fz (.lst (ws.map .str))), some (.fz (rowsT rows)), some (.fz (.int i))] :=
      bl_run (op_run (dv_run rfl) (len_strs rfl) rfl)
    have hin : ∀ w, ws[i]? = some w → dBl (dOp notInV (dOp ixG (dV 0) (dV 2)) (dOp ixG (dV 1) (dV 2))) [some (.fz (.lst (ws.map .str))), some (.fz (rowsT rows)), some (.fz (.int i))] = .ok (!decide (w ∈ S)) [some (.fz (.lst (ws.map .str))), some (.fz (rowsT rows)), some (.fz (.int i))] := fun w hw =>
      bl_run (op_run (s := .str w) (t := .lst (S.map .str)) (op_run (s := .lst (ws.map .str)) (t := .int i) (dv_run rfl) (dv_run rfl) (at_words hw)) (op_run (s := rowsT rows) (t := .int i) (dv_run rfl) (dv_run rfl) hrow) notIn_lst)
    rcases wr_case ws S i with ⟨w, g, m⟩ | hno
    · have hi := (List.getElem?_eq_some_iff.mp g).1
      rw [wr_yes g m]
      have hb : wdB [some (.fz (.lst (ws.map .str))), some (.fz (rowsT rows)), some (.fz (.int i))] = .ok .nx [some (.fz (.lst (ws.map .str))), some (.fz (rowsT rows)), some (.fz (.int i))] := by
        unfold wdB
        refine if_fn ((or_f (hge.trans (by rw [decide_eq_false (by omega)]))).trans ?_)
        rw [hin w g, decide_eq_true m]
        rfl
      rw [forL_nx hg hb]
      have hadd : i + 1 + rest.length = i + (S :: rest).length := by rw [List.length_cons]; omega
      rw [← hadd]
      exact word_for ws rows rest (i + 1) _ hr'
    · refine .inl ⟨i + 1, _, wr_no hno, forL_rt hg (τ2 := [some (.fz (.lst (ws.map .str))), some (.fz (rowsT rows)), some (.fz (.int i))]) ?_⟩
      unfold wdB
      refine (if_t (τ1 := [some (.fz (.lst (ws.map .str))), some (.fz (rowsT rows)), some (.fz (.int i))]) ?_).trans hret
      by_cases hl : ws.length ≤ i
      · exact or_t (hge.trans (by rw [decide_eq_true (by omega)]))
      · have hw := List.getElem?_eq_getElem (l := ws) (i := i) (by omega)
        refine (or_f (hge.trans (by rw [decide_eq_false (by omega)]))).trans ?_
        rw [hin _ hw, decide_eq_false (hno _ hw)]
        rfl
theorem rng_range (m : Nat) : rngL 0 (m : Int) = (List.range' 0 m).map fun k : Nat => T.int k := by
  unfold rngL
  rw [← List.range_eq_range']
  have : ((m : Int) - 0).toNat = m := by omega
  rw [this]
  refine List.map_congr_left fun k _ => ?_
  rw [Int.zero_add]
theorem inR_nat {m : Nat} (h : m ≤ 1000000) : inR (m : Int) = true := by
  unfold inR
  rw [decide_eq_true (by omega), decide_eq_true (by omega)]
  rfl
theorem word_ok {ws : List Cs} {rows : List (List Cs)} (hr : rows.length ≤ 100) : ∃ τ, m__law_word [some (.fz (.lst (ws.map .str))), some (.fz (rowsT rows))] = .ok (.fz (wrT (wr ws rows 0))) τ := by
  have hlen : ∀ {y : Option O}, dCall lenT (dCons (dV 1) dNil) [some (.fz (.lst (ws.map .str))), some (.fz (rowsT rows)), y] = .ok (.int rows.length) [some (.fz (.lst (ws.map .str))), some (.fz (rowsT rows)), y] := by
    intro y
    refine callg_run (ts := [rowsT rows]) (cons_run (dv_run rfl) nil_run) ?_
    show some (T.int ((rows.map fun S => T.lst (S.map .str)).length : Nat)) = _
    rw [List.length_map]
  have hD : D__law_word = dSeq (dFor (dRng1 (dCons (dCall lenT (dCons (dV 1) (dNil))) (dNil))) (gN 2) wdB) (dRet (dIfO (dBl (dOp gtT (dCall lenT (dCons (dV 0) (dNil))) (dCall lenT (dCons (dV 1) (dNil))))) (dOf (dOp addT (dCall lenT (dCons (dV 1) (dNil))) (dC (.int 1)))) (dOf (dC .non)))) := rfl
  have hf : dFor (dRng1 (dCons (dCall lenT (dCons (dV 1) (dNil))) (dNil))) (gN 2) wdB [some (.fz (.lst (ws.map .str))), some (.fz (rowsT rows)), none] = forL (gN 2) wdB ((List.range' 0 rows.length).map fun k : Nat => T.int k) [some (.fz (.lst (ws.map .str))), some (.fz (rowsT rows)), none] := by
    rw [← rng_range]
    exact for_run (rng1_run hlen (inR_nat (by omega)))
  rcases word_for ws rows rows 0 none (List.drop_zero ..) with ⟨j, τ, w1, w2⟩ | ⟨w1, y, w2⟩
  · refine ⟨τ, fn_run (d := D__law_word) (τ0 := [some (.fz (.lst (ws.map .str))), some (.fz (rowsT rows)), none]) rfl ?_⟩
    rw [hD, w1]
    exact seq_rt (hf.trans w2)
  · refine ⟨[some (.fz (.lst (ws.map .str))), some (.fz (rowsT rows)), y], fn_run (d := D__law_word) (τ0 := [some (.fz (.lst (ws.map .str))), some (.fz (rowsT rows)), none]) rfl ?_⟩
    rw [hD, w1, Nat.zero_add]
    refine (seq_run (hf.trans w2)).trans (ret_run ?_)
    have hgt : dBl (dOp gtT (dCall lenT (dCons (dV 0) (dNil))) (dCall lenT (dCons (dV 1) (dNil)))) [some (.fz (.lst (ws.map .str))), some (.fz (rowsT rows)), y] = .ok (decide ((rows.length : Int) < (ws.length : Int))) [some (.fz (.lst (ws.map .str))), some (.fz (rowsT rows)), y] :=
      bl_run (op_run (len_strs rfl) hlen rfl)
    unfold dIfO
    rw [hgt, R.bind_ok]
    by_cases hl : rows.length < ws.length
    · rw [decide_eq_true (by omega), wr_end hl]
      exact of_run (op_run hlen dc_run rfl)
    · rw [decide_eq_false (by omega), wr_fin (by omega)]
      rfl
end TL
set_option Elab.async false
set_option linter.all false
set_option maxRecDepth 100000
set_option maxHeartbeats 0
namespace TL
open PySem PySem.Spec L2

def optL : Option Cs → List Cs
  | none => []
  | some w => [w]
theorem take_opt {l : List Cs} : ∀ {i : Nat}, (l.drop i).take 1 = optL l[i]? := by
  induction l with
  | nil => intro i; simp [optL]
  | cons x l ih =>
    intro i
    cases i with
    | zero => simp [optL]
    | succ i => simpa using ih (i := i)
theorem sIx_nat (n d i : Nat) : HT.sIx n d (some (i : Int)) = min i n := by
  unfold HT.sIx
  simp
  try omega
theorem cut_opt {l : List Cs} {i : Nat} : cutL l (some (i : Int)) (some ((i + 1 : Nat) : Int)) = optL l[i]? := by
  unfold cutL
  rw [sIx_nat, sIx_nat]
  by_cases h : i < l.length
  · have e1 : min i l.length = i := by omega
    have e2 : min (i + 1) l.length = i + 1 := by omega
    rw [e1, e2, show i + 1 - i = 1 by omega]
    exact take_opt
  · have e1 : min i l.length = l.length := by omega
    have e2 : min (i + 1) l.length = l.length := by omega
    rw [e1, e2, Nat.sub_self, List.take_zero, List.getElem?_eq_none (by omega)]
    rfl
theorem cut_map {α β : Type} {f : α → β} {l : List α} {a b : Option Int} : cutL (l.map f) a b = (cutL l a b).map f := by
  unfold cutL
  rw [List.length_map, List.map_take, List.map_drop]
theorem sl_opt {ws : List Cs} {i : Nat} : slT (.lst (ws.map .str)) (some (i : Int)) (some ((i + 1 : Nat) : Int)) = some (.lst ((optL ws[i]?).map .str)) := by
  show some (T.lst (cutL (ws.map T.str) _ _)) = _
  rw [cut_map, cut_opt]
theorem sl_opt0 {ws : List Cs} : slT (.lst (ws.map .str)) none (some 1) = some (.lst ((optL ws[0]?).map .str)) := by
  have e : cutL (ws.map T.str) none (some 1) = cutL (ws.map T.str) (some ((0 : Nat) : Int)) (some ((0 + 1 : Nat) : Int)) := by
    unfold cutL
    have e1 : HT.sIx (ws.map T.str).length 0 none = 0 := by simp [HT.sIx]
    have e2 : HT.sIx (ws.map T.str).length 0 (some ((0 : Nat) : Int)) = 0 := by rw [sIx_nat]; omega
    rw [e1, e2]
    rfl
  show some (T.lst (cutL (ws.map T.str) _ _)) = _
  rw [e, cut_map, cut_opt]
def asc (w : Cs) : Prop := ∀ c ∈ w, c < 128
theorem strOk_asc {w : Cs} (h : asc w) : PyData.strOk (mkStr w) = true := by
  unfold PyData.strOk mkStr
  simp only [List.all_toArray, List.all_eq_true, decide_eq_true_eq]
  intro c hc
  have := h c hc
  omega
def ascO (x : Option Cs) : Prop := ∀ w, x = some w → asc w
theorem okD_opt {x : Option Cs} (h : ascO x) : okD (.lst ((optL x).map .str)) = true := by
  cases x with
  | none => rfl
  | some w =>
    show (true && ((PyData.strOk (mkStr w) && true) && decide (_ ≤ 64))) = true
    rw [strOk_asc (h w rfl)]
    rfl
theorem eqv_opt {x : Option Cs} {v : Cs} : PyData.eqv (T.lst ((optL x).map .str)).pd (T.lst [.str v]).pd = decide (x = some v) := by
  cases x with
  | none => rfl
  | some w =>
    show ((mkStr w == mkStr v) && true) = _
    by_cases h : w = v
    · subst h
      simp
    · have h1 : ¬ mkStr w = mkStr v := fun z => h (mkStr_inj z)
      rw [decide_eq_false (fun z => h (Option.some.inj z)), beq_eq_false_iff_ne.mpr h1]
      rfl
theorem eqv_comm1 {x : Option Cs} {v : Cs} : PyData.eqv (T.lst [.str v]).pd (T.lst ((optL x).map .str)).pd = decide (x = some v) := by
  cases x with
  | none => rfl
  | some w =>
    show ((mkStr v == mkStr w) && true) = _
    by_cases h : w = v
    · subst h
      simp
    · have h1 : ¬ mkStr v = mkStr w := fun z => h (mkStr_inj z).symm
      rw [decide_eq_false (fun z => h (Option.some.inj z)), beq_eq_false_iff_ne.mpr h1]
      rfl
theorem eqT_opt {x : Option Cs} {v : Cs} (h : ascO x) (hv : okD (.lst [.str v]) = true) : eqT (.lst ((optL x).map .str)) (.lst [.str v]) = some (.bl (decide (x = some v))) := by
  show (if (okD (.lst ((optL x).map .str)) && okD (.lst [.str v])) = true then some (T.bl (PyData.eqv (T.lst ((optL x).map .str)).pd (T.lst [.str v]).pd)) else none) = _
  rw [okD_opt h, hv, eqv_opt]
  rfl
theorem inD_opt {x : Option Cs} (h : ascO x) : inD (.lst ((optL x).map .str)) (.lst [.lst [.str [49]], .lst [.str [50]], .lst [.str [51]]]) = some (.bl (decide (x = some [49]) || (decide (x = some [50]) || decide (x = some [51])))) := by
  have hk : okD (.lst [.lst [.str [49]], .lst [.str [50]], .lst [.str [51]]]) = true := by decide +kernel
  show (if (okD (.lst ((optL x).map .str)) && okD (.lst [.lst [.str [49]], .lst [.str [50]], .lst [.str [51]]])) = true then some (T.bl ((pds [.lst [.str [49]], .lst [.str [50]], .lst [.str [51]]]).any fun z => PyData.eqv z (T.lst ((optL x).map .str)).pd)) else none) = _
  rw [okD_opt h, hk]
  have e : ((pds [.lst [.str [49]], .lst [.str [50]], .lst [.str [51]]]).any fun z => PyData.eqv z (T.lst ((optL x).map .str)).pd) = (PyData.eqv (T.lst [.str [49]]).pd (T.lst ((optL x).map .str)).pd || (PyData.eqv (T.lst [.str [50]]).pd (T.lst ((optL x).map .str)).pd || (PyData.eqv (T.lst [.str [51]]).pd (T.lst ((optL x).map .str)).pd || false))) := rfl
  rw [e, eqv_comm1, eqv_comm1, eqv_comm1, Bool.or_false]
  rfl
theorem str_dig {i : Nat} (h : i ≤ 4) : strT [.int (i : Nat)] = some (.str (dig i)) := by
  have : i = 0 ∨ i = 1 ∨ i = 2 ∨ i = 3 ∨ i = 4 := by omega
  have key : ∀ d : Nat, (match strT [.int (d : Nat)] with | some (.str x) => decide (x = dig d) | _ => false) = true → strT [.int (d : Nat)] = some (.str (dig d)) := by
    intro d h
    split at h
    · rename_i x e
      rw [e, of_decide_eq_true h]
    · cases h
  rcases this with rfl | rfl | rfl | rfl | rfl <;> exact key _ (by decide +kernel)
def gtB : DB := (dBl (dOp gtT (dV 6) (dCall intTS (dCons (dOp ixG (dV 4) (dC (.int 0))) (dNil)))))
theorem lc_gt {d : Nat} (hd : d ≤ 3) {τ : Env} (h4 : τ[4]? = some (some (.fz (.lst [.str (dig d)])))) (h6 : τ[6]? = some none) : ∀ is : List Nat, (∀ i ∈ is, i ≤ 4) → lcL (gN 6) gtB (dCall strT (dCons (dV 6) dNil)) [6] (is.map fun i : Nat => T.int i) τ = .ok (((is.filter fun i => decide (d < i)).map dig).map .str) τ
  | [], _ => rfl
  | i :: is, h => by
    have ih := lc_gt hd h4 h6 is fun j hj => h j (List.mem_cons_of_mem _ hj)
    have hl : (τ.set 6 (some (.fz (.int (i : Nat)))))[4]? = some (some (.fz (.lst [.str (dig d)]))) := by rw [List.getElem?_set_ne (by decide)]; exact h4
    have hp : gtB (τ.set 6 (some (.fz (.int (i : Nat))))) = .ok (decide (d < i)) (τ.set 6 (some (.fz (.int (i : Nat))))) := by
      unfold gtB
      refine bl_run (op_run (s := .int i) (t := .int d) (dv_run (get_set h6)) (callg_run (ts := [.str (dig d)]) (cons_run (op_run (dv_run hl) dc_run ?_) nil_run) (int_dig (by omega))) ?_)
      · show L2.atI [T.str (dig d)] 0 = _
        exact atI_0
      · show some (T.bl (decide ((d : Int) < (i : Int)))) = _
        simp
    have hs : dCall strT (dCons (dV 6) dNil) (τ.set 6 (some (.fz (.int (i : Nat))))) = .ok (.str (dig i)) (τ.set 6 (some (.fz (.int (i : Nat))))) := callg_run (cons_run (dv_run (get_set h6)) nil_run) (str_dig (h i List.mem_cons_self))
    rw [List.map_cons, lcL, gN_ok h6]
    dsimp only
    rw [hp]
    by_cases hc : d < i
    · simp only [R.noX, R.bind_ok, decide_eq_true hc, hs, wipe_same h6, ih, R.map_ok]
      simp [hc]
    · simp only [R.noX, R.bind_ok, decide_eq_false hc, wipe_same h6, ih]
      simp [hc]
abbrev L7 (ws : List Cs) (n : Nat) (a2 a3 a4 a5 : Option O) : Env := [some (.fz (.lst (ws.map .str))), some (.fz (.int n)), a2, a3, a4, a5, none]
def lw1 : DS := (dPar [2, 3] (dConsO (dOf (dFz (dCallN listN2 (dCons (dSl (dC (.str [97, 98, 99])) (dNoP) (dPart (dV 1))) (dNil))))) (dConsO (dOf (dFz (dLst (dCons (dFz (dLst (dCons (dC (.str [98, 101, 115, 105, 100, 101])) (dCons (dC (.str [115, 101, 99, 111, 110, 100])) (dCons (dC (.str [109, 111, 115, 116])) (dNil)))))) (dNil))))) (dNilO))))
theorem abc_lts {n : Nat} (hn : n = 2 ∨ n = 3) {τ : Env} (h1 : τ[1]? = some (some (.fz (.int n)))) : dFz (dCallN listN2 (dCons (dSl (dC (.str [97, 98, 99])) (dNoP) (dPart (dV 1))) (dNil))) τ = .ok (cL n) τ := by
  refine fzl_run (callN_run (ts := [.str (([97, 98, 99] : Cs).take n)]) (us := (lts n).map T.str) (cons_run ?_ nil_run) ?_)
  · unfold dSl dPart
    rw [dc_run, R.bind_ok]
    show (((dV 1 τ).bind _).bind _) = _
    rw [dv_run h1]
    rcases hn with rfl | rfl <;> rfl
  · rcases hn with rfl | rfl <;> rfl
theorem fzst_run {d : DL} {τ τ1 : Env} {ts : List T} (h : d τ = .ok ts τ1) (hn : ts.length ≤ 1000) : dFz (dLst d) τ = .ok (.lst ts) τ1 := fzl_run (lst_run h hn)
theorem lw1_run {n : Nat} (hn : n = 2 ∨ n = 3) {ws : List Cs} : lw1 (L7 ws n none none none none) = .ok .nx (L7 ws n (some (.fz (cL n))) (some (.fz (rowsT [W3]))) none none) := by
  unfold lw1
  refine (par2_run (a := .fz (cL n)) (b := .fz (rowsT [W3])) (τ1 := L7 ws n none none none none) (τ2 := L7 ws n none none none none) (of_run (abc_lts hn rfl)) (of_run ?_) (by simp) (by simp)).trans rfl
  exact fzst_run (ts := [.lst (W3.map .str)]) (cons_run (fzst_run (ts := W3.map .str) (cons_run dc_run (cons_run dc_run (cons_run dc_run nil_run))) (by decide)) nil_run) (by simp)
def lwI : DB := (dBl (dOp eqT (dSl (dV 0) (dNoP) (dPart (dC (.int 1)))) (dFz (dLst (dCons (dC (.str [109, 111, 115, 116])) (dNil))))))
def lwK : DS := (dSet 4 (dIf (dBl (dOp inD (dSl (dV 0) (dPart (dC (.int 2))) (dPart (dC (.int 3)))) (dFz (dLst (dCons (dFz (dLst (dCons (dC (.str [49])) (dNil)))) (dCons (dFz (dLst (dCons (dC (.str [50])) (dNil)))) (dCons (dFz (dLst (dCons (dC (.str [51])) (dNil)))) (dNil)))))))) (dSl (dV 0) (dPart (dC (.int 2))) (dPart (dC (.int 3)))) (dFz (dLst (dCons (dC (.str [48])) (dNil))))))
def lwL : DS := (dSetO 5 (dLc (dItems (dFz (dLst (dCons (dC (.int 2)) (dCons (dC (.int 3)) (dCons (dC (.int 4)) (dNil))))))) (gN 6) gtB (dCall strT (dCons (dV 6) (dNil))) [6]))
def lwR : DS := (dRet (dOf (dOp addT (dV 3) (dFz (dLst (dCons (dV 2) (dCons (dFz (dLst (dCons (dC (.str [48])) (dCons (dC (.str [49])) (dCons (dC (.str [50])) (dCons (dC (.str [51])) (dNil))))))) (dCons (dV 5) (dNil)))))))))
def lwR2 : DS := (dRet (dOf (dOp addT (dV 3) (dFz (dLst (dCons (dV 2) (dCons (dV 2) (dNil))))))))
theorem D_rows_eq : D__law_rows = dSeq lw1 (dSeq (dIfS lwI (dSeq lwK (dSeq lwL lwR)) dNx) lwR2) := rfl
theorem sl23 {ws : List Cs} {n : Nat} {a2 a3 a4 a5 : Option O} : dSl (dV 0) (dPart (dC (.int 2))) (dPart (dC (.int 3))) (L7 ws n a2 a3 a4 a5) = .ok (.lst ((optL ws[2]?).map .str)) (L7 ws n a2 a3 a4 a5) := by
  unfold dSl
  rw [dv_run (i := 0) (t := .lst (ws.map .str)) rfl, R.bind_ok]
  show (match slT (.lst (ws.map .str)) (some ((2 : Nat) : Int)) (some ((2 + 1 : Nat) : Int)) with | some u => R.ok u (L7 ws n a2 a3 a4 a5) | none => R.st) = _
  rw [sl_opt]
theorem add_rows {A B : List (List Cs)} (h : A.length + B.length ≤ 100) : addT (rowsT A) (rowsT B) = some (rowsT (A ++ B)) := by
  show (if _ then _ else _) = _
  rw [if_pos (le_SZ (by simp; omega))]
  show some (T.lst _) = some (T.lst _)
  rw [List.map_append]
theorem rows_ok {n : Nat} (hn : n = 2 ∨ n = 3) {ws : List Cs} (ha : ∀ w ∈ ws, asc w) : ∃ τ, m__law_rows [some (.fz (.lst (ws.map .str))), some (.fz (.int n))] = .ok (.fz (rowsT (rowsOf n ws))) τ := by
  have hget : ∀ i : Nat, ascO ws[i]? := fun i w h => ha w (List.mem_of_getElem? h)
  have hI : lwI (L7 ws n (some (.fz (cL n))) (some (.fz (rowsT [W3]))) none none) = .ok (decide (ws[0]? = some wMost)) (L7 ws n (some (.fz (cL n))) (some (.fz (rowsT [W3]))) none none) := by
    unfold lwI
    refine bl_run (op_run (s := .lst ((optL ws[0]?).map .str)) (t := .lst [.str wMost]) (τ1 := L7 ws n (some (.fz (cL n))) (some (.fz (rowsT [W3]))) none none) ?_ (fzst_run (ts := [.str wMost]) (cons_run dc_run nil_run) (by simp)) (eqT_opt (hget 0) (by decide +kernel)))
    unfold dSl
    rw [dv_run (i := 0) (t := .lst (ws.map .str)) rfl, R.bind_ok]
    show (match slT (.lst (ws.map .str)) none (some 1) with | some u => R.ok u (L7 ws n (some (.fz (cL n))) (some (.fz (rowsT [W3]))) none none) | none => R.st) = _
    rw [sl_opt0]
  have h1 : D__law_rows (L7 ws n none none none none) = dSeq (dIfS lwI (dSeq lwK (dSeq lwL lwR)) dNx) lwR2 (L7 ws n (some (.fz (cL n))) (some (.fz (rowsT [W3]))) none none) := by
    rw [D_rows_eq]
    exact seq_run (lw1_run hn)
  by_cases hm : ws[0]? = some wMost
  · have hr : rowsOf n ws = [W3] ++ [lts n, digs 0 3, lastD ws[2]?] := if_pos hm
    obtain ⟨d, hd3, hk, hld⟩ : ∃ d : Nat, d ≤ 3 ∧ lwK (L7 ws n (some (.fz (cL n))) (some (.fz (rowsT [W3]))) none none) = .ok .nx (L7 ws n (some (.fz (cL n))) (some (.fz (rowsT [W3]))) (some (.fz (.lst [.str (dig d)]))) none) ∧ lastD ws[2]? = (([2, 3, 4].filter fun i => decide (d < i)).map dig) := by
      have hin : (dBl (dOp inD (dSl (dV 0) (dPart (dC (.int 2))) (dPart (dC (.int 3)))) (dFz (dLst (dCons (dFz (dLst (dCons (dC (.str [49])) (dNil)))) (dCons (dFz (dLst (dCons (dC (.str [50])) (dNil)))) (dCons (dFz (dLst (dCons (dC (.str [51])) (dNil)))) (dNil)))))))) (L7 ws n (some (.fz (cL n))) (some (.fz (rowsT [W3]))) none none) = .ok (decide (ws[2]? = some [49]) || (decide (ws[2]? = some [50]) || decide (ws[2]? = some [51]))) (L7 ws n (some (.fz (cL n))) (some (.fz (rowsT [W3]))) none none) := by
        refine bl_run (op_run sl23 (fzst_run (ts := [.lst [.str [49]], .lst [.str [50]], .lst [.str [51]]]) (cons_run (fzst_run (ts := [.str [49]]) (cons_run dc_run nil_run) (by simp)) (cons_run (fzst_run (ts := [.str [50]]) (cons_run dc_run nil_run) (by simp)) (cons_run (fzst_run (ts := [.str [51]]) (cons_run dc_run nil_run) (by simp)) nil_run))) (by simp)) (inD_opt (hget 2)))
      have yes : ∀ d : Nat, ws[2]? = some (dig d) → (decide (ws[2]? = some [49]) || (decide (ws[2]? = some [50]) || decide (ws[2]? = some [51]))) = true → lwK (L7 ws n (some (.fz (cL n))) (some (.fz (rowsT [W3]))) none none) = .ok .nx (L7 ws n (some (.fz (cL n))) (some (.fz (rowsT [W3]))) (some (.fz (.lst [.str (dig d)]))) none) := by
        intro d h h'
        unfold lwK
        refine (set_run (t := .lst [.str (dig d)]) (τ1 := L7 ws n (some (.fz (cL n))) (some (.fz (rowsT [W3]))) none none) ?_).trans rfl
        unfold dIf
        rw [hin, h', R.bind_ok]
        dsimp only
        rw [sl23, h]
        rfl
      by_cases c1 : ws[2]? = some [49]
      · exact ⟨1, by omega, yes 1 c1 (by rw [decide_eq_true c1]; rfl), by rw [c1]; rfl⟩
      by_cases c2 : ws[2]? = some [50]
      · exact ⟨2, by omega, yes 2 c2 (by rw [decide_eq_true c2, Bool.true_or, Bool.or_true]), by rw [c2]; rfl⟩
      by_cases c3 : ws[2]? = some [51]
      · exact ⟨3, by omega, yes 3 c3 (by rw [decide_eq_true c3, Bool.or_true, Bool.or_true]), by rw [c3]; rfl⟩
      refine ⟨0, by omega, ?_, ?_⟩
      · unfold lwK
        refine (set_run (t := .lst [.str (dig 0)]) (τ1 := L7 ws n (some (.fz (cL n))) (some (.fz (rowsT [W3]))) none none) ?_).trans rfl
        unfold dIf
        rw [hin, decide_eq_false c1, decide_eq_false c2, decide_eq_false c3, R.bind_ok]
        exact fzst_run (ts := [.str (dig 0)]) (cons_run dc_run nil_run) (by simp)
      · have : lastD ws[2]? = digs 2 4 := by
          unfold lastD
          split
          · rename_i h; exact absurd h c2
          · rename_i h; exact absurd h c3
          · rfl
        rw [this]
        rfl
    rw [hr]
    refine ⟨_, fn_run (d := D__law_rows) (τ0 := L7 ws n none none none none) (τ1 := L7 ws n (some (.fz (cL n))) (some (.fz (rowsT [W3]))) (some (.fz (.lst [.str (dig d)]))) (some (.fz (.lst ((lastD ws[2]?).map .str))))) rfl (h1.trans (seq_rt ?_))⟩
    refine (if_t (hI.trans (by rw [decide_eq_true hm]))).trans ?_
    refine (seq_run hk).trans ?_
    refine (seq_run (τ1 := L7 ws n (some (.fz (cL n))) (some (.fz (rowsT [W3]))) (some (.fz (.lst [.str (dig d)]))) (some (.lst (((lastD ws[2]?).map .str).map .fz)))) ?_).trans ?_
    · unfold lwL
      refine (setO_run (i := 5) (o := .lst (((lastD ws[2]?).map .str).map .fz)) (τ1 := L7 ws n (some (.fz (cL n))) (some (.fz (rowsT [W3]))) (some (.fz (.lst [.str (dig d)]))) none) ?_ (by simp)).trans rfl
      refine lc_run (ts := ([2, 3, 4] : List Nat).map fun i : Nat => T.int i) (τ1 := L7 ws n (some (.fz (cL n))) (some (.fz (rowsT [W3]))) (some (.fz (.lst [.str (dig d)]))) none) ?_ (by simp) ?_
      · exact items_run (t := .lst [.int 2, .int 3, .int 4]) (fzst_run (ts := [.int 2, .int 3, .int 4]) (cons_run dc_run (cons_run dc_run (cons_run dc_run nil_run))) (by simp)) rfl
      · rw [hld]
        exact lc_gt hd3 rfl rfl [2, 3, 4] (by simp)
    · unfold lwR
      refine ret_run (of_run (op_run (s := rowsT [W3]) (t := rowsT [lts n, digs 0 3, lastD ws[2]?]) (dv_run rfl) (fzst_run (ts := [cL n, .lst ((digs 0 3).map .str), .lst ((lastD ws[2]?).map .str)]) (cons_run (dv_run rfl) (cons_run (fzst_run (ts := (digs 0 3).map .str) (cons_run dc_run (cons_run dc_run (cons_run dc_run (cons_run dc_run nil_run)))) (by decide)) (cons_run ?_ nil_run))) (by simp)) (add_rows (by simp))))
      show R.ok (T.lst (ers (((lastD ws[2]?).map .str).map .fz))) (L7 ws n (some (.fz (cL n))) (some (.fz (rowsT [W3]))) (some (.fz (.lst [.str (dig d)]))) (some (.fz (.lst (ers (((lastD ws[2]?).map .str).map .fz)))))) = _
      rw [ers_fz]
  · have hr : rowsOf n ws = [W3] ++ [lts n, lts n] := if_neg hm
    rw [hr]
    refine ⟨_, fn_run (d := D__law_rows) (τ0 := L7 ws n none none none none) (τ1 := L7 ws n (some (.fz (cL n))) (some (.fz (rowsT [W3]))) none none) rfl (h1.trans ?_)⟩
    refine (seqif_f (hI.trans (by rw [decide_eq_false hm]))).trans ?_
    unfold lwR2
    exact ret_run (of_run (op_run (s := rowsT [W3]) (t := rowsT [lts n, lts n]) (dv_run rfl) (fzst_run (ts := [cL n, cL n]) (cons_run (dv_run rfl) (cons_run (dv_run rfl) nil_run)) (by simp)) (add_rows (by simp))))
end TL
set_option Elab.async false
set_option linter.all false
set_option maxRecDepth 100000
set_option maxHeartbeats 0
namespace TL
open PySem PySem.Spec L2

/-! alike -/
def alB (rec : Env → R O) : DB := dNot (dTru (dFz (dCallF 2 [] rec (dCons (dOp ixG (dV 0) (dV 2)) (dCons (dOp ixG (dV 1) (dV 2)) (dNil))))))
theorem lc_alike {rec : Env → R O} {ts : List T} (h : ∀ t ∈ ts, ∃ τ, rec [some (.fz t), some (.fz t)] = .ok (.fz (.bl true)) τ) : ∀ (is : List T), (∀ x ∈ is, ∃ k : Nat, k < ts.length ∧ x = .int k) →
    lcL (gN 2) (alB rec) (dV 2) [2] is [some (.fz (.tup ts)), some (.fz (.tup ts)), none] = .ok [] [some (.fz (.tup ts)), some (.fz (.tup ts)), none]
  | [], _ => rfl
  | x :: is, hi => by
    obtain ⟨k, hk, rfl⟩ := hi x List.mem_cons_self
    have ih := lc_alike h is fun y hy => hi y (List.mem_cons_of_mem _ hy)
    obtain ⟨t, e1, e2⟩ := atI_ok (l := ts) (i := (k : Int)) (by omega) (by omega)
    obtain ⟨τ, er⟩ := h t (List.mem_iff_getElem?.mpr ⟨_, e1⟩)
    have hp : alB rec [some (.fz (.tup ts)), some (.fz (.tup ts)), some (.fz (.int k))] = .ok false [some (.fz (.tup ts)), some (.fz (.tup ts)), some (.fz (.int k))] := by
      unfold alB
      refine not_t (tru_run (t := .bl true) ?_ rfl)
      refine (fz_run (o := .fz (.bl true)) ?_).trans rfl
      refine call_run (ts := [t, t]) (n := 2) ?_ rfl er
      refine cons_run (op_run (s := .tup ts) (t := .int k) (dv_run rfl) (dv_run rfl) e2) (cons_run (op_run (s := .tup ts) (t := .int k) (dv_run rfl) (dv_run rfl) e2) nil_run)
    have hg : gN 2 (.int (k : Nat)) [some (.fz (.tup ts)), some (.fz (.tup ts)), none] = some [some (.fz (.tup ts)), some (.fz (.tup ts)), some (.fz (.int k))] := rfl
    have hw : wipeE [some (.fz (.tup ts)), some (.fz (.tup ts)), some (.fz (.int k))] [2] = [some (.fz (.tup ts)), some (.fz (.tup ts)), none] := rfl
    rw [lcL, hg]
    dsimp only
    rw [hp]
    simp only [R.noX, R.bind_ok, hw, ih]
theorem alike_tup {rec : Env → R O} {ts : List T} (h : ∀ t ∈ ts, ∃ τ, rec [some (.fz t), some (.fz t)] = .ok (.fz (.bl true)) τ) (hl : ts.length ≤ 4) : ∃ τ, dFn 3 (D__law_alike rec) [some (.fz (.tup ts)), some (.fz (.tup ts))] = .ok (.fz (.bl true)) τ := by
  refine ⟨[some (.fz (.tup ts)), some (.fz (.tup ts)), none], fn_run (d := D__law_alike rec) (τ0 := [some (.fz (.tup ts)), some (.fz (.tup ts)), none]) rfl ?_⟩
  unfold D__law_alike
  refine (seqif_f (τ1 := [some (.fz (.tup ts)), some (.fz (.tup ts)), none]) ?_).trans ?_
  · refine tru_run (t := .bl false) ?_ rfl
    exact callg_run (cons_run (dv_run rfl) (cons_run dc_run nil_run)) rfl
  refine seq_rt ?_
  refine (if_t (τ1 := [some (.fz (.tup ts)), some (.fz (.tup ts)), none]) ?_).trans ?_
  · refine tru_run (t := .bl true) ?_ rfl
    exact callg_run (ts := [.tup ts, .tup [.ty "tuple", .ty "list"]]) (cons_run (dv_run rfl) (cons_run (tup_run (cons_run dc_run (cons_run dc_run nil_run)) (by simp)) nil_run)) rfl
  refine (seqif_f (τ1 := [some (.fz (.tup ts)), some (.fz (.tup ts)), none]) ?_).trans ?_
  · refine (or_f (τ1 := [some (.fz (.tup ts)), some (.fz (.tup ts)), none]) ?_).trans ?_
    · refine not_t (tru_run (t := .bl true) ?_ rfl)
      exact callg_run (ts := [.tup ts, .tup [.ty "tuple", .ty "list"]]) (cons_run (dv_run rfl) (cons_run (tup_run (cons_run dc_run (cons_run dc_run nil_run)) (by simp)) nil_run)) rfl
    · exact bl_run (op_run (callg_run (u := .bl false) (cons_run (dv_run rfl) (cons_run dc_run nil_run)) rfl) (callg_run (u := .bl false) (cons_run (dv_run rfl) (cons_run dc_run nil_run)) rfl) rfl)
  refine (seqif_f (τ1 := [some (.fz (.tup ts)), some (.fz (.tup ts)), none]) ?_).trans ?_
  · refine bl_run (op_run (callg_run (u := .int ts.length) (cons_run (dv_run rfl) nil_run) rfl) (callg_run (u := .int ts.length) (cons_run (dv_run rfl) nil_run) rfl) ?_)
    show some (T.bl (!decide ((ts.length : Int) = ts.length))) = _
    rw [decide_eq_true rfl]
    rfl
  refine ret_run (of_run (op_run (s := .lst []) (t := .lst []) (τ1 := [some (.fz (.tup ts)), some (.fz (.tup ts)), none]) ?_ rfl nil_eq))
  refine fzl_run (ts := []) ?_
  refine lc_run (ys := []) (ts := rngL 0 (ts.length : Int)) (τ1 := [some (.fz (.tup ts)), some (.fz (.tup ts)), none]) ?_ (by rw [int_len]; omega) ?_
  · exact rng1_run (callg_run (u := .int ts.length) (cons_run (dv_run rfl) nil_run) rfl) (inR_le hl)
  · exact lc_alike h _ rng_mem
theorem alike_rule {n : Nat} (hn : n = 2 ∨ n = 3) {r : Ru} (h : r.ok n) : ∃ τ, m__law_alike 19 [some (.fz r.t), some (.fz r.t)] = .ok (.fz (.bl true)) τ :=
  isT_ok (fin_check (P := fun n r => isT (m__law_alike 19 [some (.fz r.t), some (.fz r.t)])) (by decide +kernel) (by decide +kernel) hn h)
theorem alike_ok {n : Nat} (hn : n = 2 ∨ n = 3) {rs : List Ru} (h : ∀ r ∈ rs, r.ok n) (hl : rs.length ≤ 4) : ∃ τ, m__law_alike 20 [some (.fz (.tup (rs.map Ru.t))), some (.fz (.tup (rs.map Ru.t)))] = .ok (.fz (.bl true)) τ := by
  show ∃ τ, dFn 3 (D__law_alike (m__law_alike 19)) _ = _
  refine alike_tup (fun t ht => ?_) (by simpa using hl)
  obtain ⟨r, hr, rfl⟩ := List.mem_map.mp ht
  exact alike_rule hn (h r hr)
end TL
set_option Elab.async false
set_option linter.all false
set_option maxRecDepth 100000
set_option maxHeartbeats 0
namespace TL
open PySem PySem.Spec L2

theorem lc_tok {i : Nat} {τ : Env} (hi : τ[i]? = some none) : ∀ l : List Cs, lcL (gN i) (dBl (dOp neT (dV i) (dC (.str [])))) (dV i) [i] (l.map .str) τ = .ok ((l.filter (· ≠ [])).map .str) τ
  | [] => rfl
  | w :: l => by
    have ih := lc_tok hi l
    have hp : dBl (dOp neT (dV i) (dC (.str []))) (τ.set i (some (.fz (.str w)))) = .ok (!decide (w = [])) (τ.set i (some (.fz (.str w)))) := bl_run (op_run (dv_run (get_set hi)) dc_run rfl)
    have hd : dV i (τ.set i (some (.fz (.str w)))) = .ok (.str w) (τ.set i (some (.fz (.str w)))) := dv_run (get_set hi)
    rw [List.map_cons, lcL, gN_ok hi]
    dsimp only
    rw [hp]
    by_cases h : w = []
    · subst h
      simp only [R.noX, R.bind_ok, decide_true, Bool.not_true, wipe_same hi, ih]
      simp
    · simp only [R.noX, R.bind_ok, decide_eq_false h, Bool.not_false, hd, wipe_same hi, ih, R.map_ok]
      simp [h]
theorem spl_sub {c x : Nat} : ∀ {l acc w : List Nat}, w ∈ spl [c] 0 acc l → x ∈ w → x ∈ acc ∨ (x ∈ l ∧ x ≠ c)
  | [], acc, w, h, hx => by
    have : spl [c] 0 acc [] = [acc] := rfl
    rw [this, List.mem_singleton] at h
    subst h
    exact .inl hx
  | y :: l, acc, w, h, hx => by
    by_cases e : y = c
    · subst e
      rw [spl_hit1] at h
      rcases List.mem_cons.mp h with rfl | h
      · exact .inl hx
      · rcases spl_sub h hx with z | ⟨z, z2⟩
        · cases z
        · exact .inr ⟨List.mem_cons_of_mem _ z, z2⟩
    · rw [spl_miss1 e] at h
      rcases spl_sub h hx with z | ⟨z, z2⟩
      · rcases List.mem_append.mp z with z | z
        · exact .inl z
        · rw [List.mem_singleton] at z
          subst z
          exact .inr ⟨List.mem_cons_self, e⟩
      · exact .inr ⟨List.mem_cons_of_mem _ z, z2⟩
theorem toks_asc {l : Cs} (h : asc l) : ∀ w ∈ toks l, asc w := by
  intro w hw c hc
  rcases spl_sub (List.mem_filter.mp hw).1 hc with z | ⟨z, _⟩
  · cases z
  · exact h c z
/-- a line that can be split -/
def okLn (l : Cs) : Prop := l.length ≤ 900 ∧ (asc l ∧ 10 ∉ l)
abbrev U6 (L : List Cs) (n : Nat) (a b c d : Option O) : Env := [some (.fz (.lst (L.map .str))), some (.fz (.int n)), a, b, c, d]
def du1 : DS := (dSetO 3 (dLc (dItems (dFz (dMethN isStr splitG (dOp ixG (dV 0) (dV 2)) (dCons (dC (.str [32])) (dNil))))) (gN 4) (dBl (dOp neT (dV 4) (dC (.str [])))) (dV 4) [4]))
def du2 : DS := (dIfS (dBl (dOp eqT (dV 2) (dC (.int 0)))) (dSeq (dSet 5 (dFz (dCallF 2 [] m__law_word (dCons (dV 3) (dCons (dFz (dLst (dCons (dFz (dLst (dCons (dC (.str [99, 111, 114, 100])) (dCons (dC (.str [114, 105, 110, 103])) (dNil))))) (dCons (dFz (dLst (dCons (dC (.str [50])) (dCons (dC (.str [51])) (dNil))))) (dNil))))) (dNil)))))) (dSet 1 (dIf (dBl (dOp eqT (dSl (dV 3) (dPart (dC (.int 1))) (dPart (dC (.int 2)))) (dFz (dLst (dCons (dC (.str [51])) (dNil)))))) (dC (.int 3)) (dC (.int 2))))) (dSet 5 (dIf (dBl (dOp gtT (dV 2) (dC (.int 4)))) (dC (.int 1)) (dFz (dCallF 2 [] m__law_word (dCons (dV 3) (dCons (dFz (dCallF 2 [] m__law_rows (dCons (dV 3) (dCons (dV 1) (dNil))))) (dNil))))))))
def du3 : DS := (dIfS (dBl (dOp notNT (dV 5) (dC .non))) (dRet (dOf (dTup (dCons (dOp addT (dV 2) (dC (.int 1))) (dCons (dV 5) (dNil)))))) (dNx))
def duB : DS := dSeq du1 (dSeq du2 du3)
theorem D_due_eq : D__law_due = dSeq (dSet 1 (dC (.int 2))) (dSeq (dFor (dRng1 (dCons (dCall lenT (dCons (dV 0) (dNil))) (dNil))) (gN 2) duB) (dRet (dOf (dC .non)))) := rfl
theorem du1_run {L : List Cs} {n i : Nat} {b d : Option O} {l : Cs} (h : L[i]? = some l) (hl : okLn l) : du1 (U6 L n (some (.fz (.int i))) b none d) = .ok .nx (U6 L n (some (.fz (.int i))) (some (.lst (((toks l).map .str).map .fz))) none d) := by
  unfold du1
  refine (setO_run (i := 3) (o := .lst (((toks l).map .str).map .fz)) (τ1 := U6 L n (some (.fz (.int i))) b none d) ?_ (by simp)).trans rfl
  refine lc_run (ts := (spl [32] 0 [] l).map .str) (τ1 := U6 L n (some (.fz (.int i))) b none d) ?_ ?_ (lc_tok (i := 4) rfl _)
  · refine items_run (t := .lst ((spl [32] 0 [] l).map .str)) (fzl_run (methN_run (s := .str l) (ts := [.str [32]]) (op_run (s := .lst (L.map .str)) (t := .int i) (dv_run rfl) (dv_run rfl) (at_words h)) rfl (cons_run dc_run nil_run) (split_ok (by decide) (by have := hl.1; omega)))) rfl
  · rw [List.length_map, spl_len]
    have := List.count_le_length (a := 32) (l := l)
    have := hl.1
    omega
theorem dvO_run {i : Nat} {τ : Env} {l : List T} (h : τ[i]? = some (some (.lst (l.map .fz)))) : dV i τ = .ok (.lst l) (τ.set i (some (.fz (.lst l)))) := by
  unfold dV
  rw [h]
  show R.ok (T.lst (ers (l.map .fz))) (τ.set i (some (.fz (.lst (ers (l.map .fz)))))) = _
  rw [ers_fz]
theorem du3_no {L : List Cs} {n i : Nat} {b c : Option O} : du3 (U6 L n (some (.fz (.int i))) b c (some (.fz .non))) = .ok .nx (U6 L n (some (.fz (.int i))) b c (some (.fz .non))) :=
  if_fn (bl_run (op_run (dv_run rfl) dc_run rfl))
theorem du3_yes {L : List Cs} {n i j : Nat} {b c : Option O} : du3 (U6 L n (some (.fz (.int i))) b c (some (.fz (.int j)))) = .ok (.rt (.fz (.tup [.int ((i + 1 : Nat) : Int), .int j]))) (U6 L n (some (.fz (.int i))) b c (some (.fz (.int j)))) := by
  unfold du3
  refine (if_t (τ1 := U6 L n (some (.fz (.int i))) b c (some (.fz (.int j)))) ?_).trans ?_
  · exact bl_run (op_run (s := .int (j : Nat)) (t := .non) (dv_run rfl) dc_run rfl)
  · exact ret_run (of_run (tup_run (cons_run (op_run (dv_run rfl) dc_run rfl) (cons_run (dv_run rfl) nil_run)) (by simp)))
theorem du2_head {L : List Cs} {n : Nat} {d : Option O} {ws : List Cs} (ha : ∀ w ∈ ws, asc w) : du2 (U6 L n (some (.fz (.int ((0 : Nat) : Int)))) (some (.lst ((ws.map .str).map .fz))) none d) = .ok .nx (U6 L (kindsOf ws) (some (.fz (.int ((0 : Nat) : Int)))) (some (.fz (.lst (ws.map .str)))) none (some (.fz (wrT (wr ws R0 0))))) := by
  obtain ⟨τ, e⟩ := word_ok (ws := ws) (rows := R0) (by decide)
  unfold du2
  refine (if_t (τ1 := U6 L n (some (.fz (.int ((0 : Nat) : Int)))) (some (.lst ((ws.map .str).map .fz))) none d) ?_).trans ?_
  · exact bl_run (op_run (dv_run rfl) dc_run rfl)
  refine (seq_run (τ1 := U6 L n (some (.fz (.int ((0 : Nat) : Int)))) (some (.fz (.lst (ws.map .str)))) none (some (.fz (wrT (wr ws R0 0))))) ?_).trans ?_
  · refine (set_run (t := wrT (wr ws R0 0)) (τ1 := U6 L n (some (.fz (.int ((0 : Nat) : Int)))) (some (.fz (.lst (ws.map .str)))) none d) ((fz_run (o := .fz (wrT (wr ws R0 0))) ?_).trans rfl)).trans rfl
    refine call_run (n := 2) (ts := [.lst (ws.map .str), rowsT R0]) (cons_run ((dvO_run rfl).trans rfl) (cons_run ?_ nil_run)) rfl e
    exact fzst_run (ts := [.lst (wShape.map .str), .lst ((digs 2 3).map .str)]) (cons_run (fzst_run (ts := wShape.map .str) (cons_run dc_run (cons_run dc_run nil_run)) (by decide)) (cons_run (fzst_run (ts := (digs 2 3).map .str) (cons_run dc_run (cons_run dc_run nil_run)) (by decide)) nil_run)) (by simp)
  · refine (set_run (t := .int (kindsOf ws)) (τ1 := U6 L n (some (.fz (.int ((0 : Nat) : Int)))) (some (.fz (.lst (ws.map .str)))) none (some (.fz (wrT (wr ws R0 0))))) ?_).trans rfl
    have hb : dBl (dOp eqT (dSl (dV 3) (dPart (dC (.int 1))) (dPart (dC (.int 2)))) (dFz (dLst (dCons (dC (.str [51])) (dNil))))) (U6 L n (some (.fz (.int ((0 : Nat) : Int)))) (some (.fz (.lst (ws.map .str)))) none (some (.fz (wrT (wr ws R0 0))))) = .ok (decide (ws[1]? = some [51])) (U6 L n (some (.fz (.int ((0 : Nat) : Int)))) (some (.fz (.lst (ws.map .str)))) none (some (.fz (wrT (wr ws R0 0))))) := by
      refine bl_run (op_run (s := .lst ((optL ws[1]?).map .str)) (t := .lst [.str [51]]) (τ1 := U6 L n (some (.fz (.int ((0 : Nat) : Int)))) (some (.fz (.lst (ws.map .str)))) none (some (.fz (wrT (wr ws R0 0))))) ?_ (fzst_run (ts := [.str [51]]) (cons_run dc_run nil_run) (by simp)) (eqT_opt (fun w h => ha w (List.mem_of_getElem? h)) (by decide +kernel)))
      unfold dSl
      rw [dv_run (i := 3) (t := .lst (ws.map .str)) rfl, R.bind_ok]
      show (match slT (.lst (ws.map .str)) (some ((1 : Nat) : Int)) (some ((1 + 1 : Nat) : Int)) with | some u => R.ok u (U6 L n (some (.fz (.int ((0 : Nat) : Int)))) (some (.fz (.lst (ws.map .str)))) none (some (.fz (wrT (wr ws R0 0))))) | none => R.st) = _
      rw [sl_opt]
    unfold dIf
    rw [hb, R.bind_ok]
    unfold kindsOf
    by_cases h : ws[1]? = some [51]
    · rw [decide_eq_true h, if_pos h]
      rfl
    · rw [decide_eq_false h, if_neg h]
      rfl
theorem du2_tail {L : List Cs} {n i : Nat} {d : Option O} {ws : List Cs} (hn : n = 2 ∨ n = 3) (hi : 0 < i) (ha : ∀ w ∈ ws, asc w) :
    ∃ b, du2 (U6 L n (some (.fz (.int i))) (some (.lst ((ws.map .str).map .fz))) none d) = .ok .nx (U6 L n (some (.fz (.int i))) b none (some (.fz (wrT (if 4 < i then some 1 else wr ws (rowsOf n ws) 0))))) := by
  unfold du2
  have h0 : dBl (dOp eqT (dV 2) (dC (.int 0))) (U6 L n (some (.fz (.int i))) (some (.lst ((ws.map .str).map .fz))) none d) = .ok false (U6 L n (some (.fz (.int i))) (some (.lst ((ws.map .str).map .fz))) none d) := by
    refine bl_run (op_run (dv_run rfl) dc_run ?_)
    show some (T.bl (decide ((i : Int) = 0))) = _
    rw [decide_eq_false (by omega)]
  have h4 : dBl (dOp gtT (dV 2) (dC (.int 4))) (U6 L n (some (.fz (.int i))) (some (.lst ((ws.map .str).map .fz))) none d) = .ok (decide (4 < i)) (U6 L n (some (.fz (.int i))) (some (.lst ((ws.map .str).map .fz))) none d) := by
    refine bl_run (op_run (dv_run rfl) dc_run ?_)
    show some (T.bl (decide ((4 : Int) < (i : Int)))) = _
    simp
    omega
  by_cases h : 4 < i
  · refine ⟨some (.lst ((ws.map .str).map .fz)), (if_f h0).trans ?_⟩
    refine (set_run (t := .int 1) (τ1 := U6 L n (some (.fz (.int i))) (some (.lst ((ws.map .str).map .fz))) none d) ?_).trans (by rw [if_pos h]; rfl)
    unfold dIf
    rw [h4, decide_eq_true h, R.bind_ok]
    rfl
  · obtain ⟨τ1, e1⟩ := rows_ok hn ha
    obtain ⟨τ2, e2⟩ := word_ok (ws := ws) (rows := rowsOf n ws) (by
      unfold rowsOf
      split <;> simp)
    refine ⟨some (.fz (.lst (ws.map .str))), (if_f h0).trans ?_⟩
    refine (set_run (t := wrT (wr ws (rowsOf n ws) 0)) (τ1 := U6 L n (some (.fz (.int i))) (some (.fz (.lst (ws.map .str)))) none d) ?_).trans (by rw [if_neg h]; rfl)
    unfold dIf
    rw [h4, decide_eq_false h, R.bind_ok]
    refine (fz_run (o := .fz (wrT (wr ws (rowsOf n ws) 0))) ?_).trans rfl
    refine call_run (n := 2) (ts := [.lst (ws.map .str), rowsT (rowsOf n ws)]) (cons_run ((dvO_run rfl).trans rfl) (cons_run ?_ nil_run)) rfl e2
    refine (fz_run (o := .fz (rowsT (rowsOf n ws))) ?_).trans rfl
    exact call_run (n := 2) (ts := [.lst (ws.map .str), .int n]) (cons_run (dv_run rfl) (cons_run (dv_run rfl) nil_run)) rfl e1
theorem due_for (L : List Cs) {n : Nat} (hn : n = 2 ∨ n = 3) : ∀ (rest : List Cs) (i : Nat) (a b d : Option O), L.drop i = rest → 0 < i → (∀ l ∈ rest, okLn l) →
    (∃ x y τ, dueR n (rest.map toks) i = some (x, y) ∧ forL (gN 2) duB ((List.range' i rest.length).map fun k : Nat => T.int k) (U6 L n a b none d) = .ok (.rt (.fz (.tup [.int (x : Nat), .int (y : Nat)]))) τ) ∨
    (dueR n (rest.map toks) i = none ∧ ∃ τ, forL (gN 2) duB ((List.range' i rest.length).map fun k : Nat => T.int k) (U6 L n a b none d) = .ok .nx τ)
  | [], i, a, b, d, _, _, _ => .inr ⟨rfl, _, rfl⟩
  | l :: rest, i, a, b, d, hr, hi, h => by
    have hl : L[i]? = some l := by
      have := congrArg (·[0]?) hr
      simpa using this
    have hr' : L.drop (i + 1) = rest := by
      rw [← List.tail_drop, hr]
      rfl
    have hlist : (List.range' i (l :: rest).length).map (fun k : Nat => T.int k) = T.int (i : Nat) :: (List.range' (i + 1) rest.length).map fun k : Nat => T.int k := by
      rw [List.length_cons, List.range'_succ, List.map_cons]
    rw [hlist]
    have hg : gN 2 (T.int (i : Nat)) (U6 L n a b none d) = some (U6 L n (some (.fz (.int i))) b none d) := rfl
    have ok := h l List.mem_cons_self
    have s1 := du1_run (n := n) (b := b) (d := d) hl ok
    obtain ⟨b2, s2⟩ := du2_tail (L := L) (d := d) hn hi (toks_asc ok.2.1)
    have e0 : duB (U6 L n (some (.fz (.int i))) b none d) = du3 (U6 L n (some (.fz (.int i))) b2 none (some (.fz (wrT (if 4 < i then some 1 else wr (toks l) (rowsOf n (toks l)) 0))))) := by
      unfold duB
      rw [seq_run s1, seq_run s2]
    have hd : dueR n ((l :: rest).map toks) i = (if 4 < i then some (i + 1, 1) else match wr (toks l) (rowsOf n (toks l)) 0 with | some j => some (i + 1, j) | none => dueR n (rest.map toks) (i + 1)) := rfl
    rw [hd]
    by_cases h4 : 4 < i
    · rw [if_pos h4] at e0 ⊢
      exact .inl ⟨i + 1, 1, _, rfl, forL_rt hg (e0.trans du3_yes)⟩
    · rw [if_neg h4] at e0 ⊢
      cases hw : wr (toks l) (rowsOf n (toks l)) 0 with
      | some j =>
        rw [hw] at e0
        exact .inl ⟨i + 1, j, _, rfl, forL_rt hg (e0.trans du3_yes)⟩
      | none =>
        rw [hw] at e0
        rw [forL_nx hg (e0.trans du3_no)]
        exact due_for L hn rest (i + 1) _ _ _ hr' (by omega) fun v hv => h v (List.mem_cons_of_mem _ hv)
theorem kinds_23 (ws : List Cs) : kindsOf ws = 2 ∨ kindsOf ws = 3 := by
  unfold kindsOf
  split
  · exact .inr rfl
  · exact .inl rfl
theorem due_ok {hd : Cs} {tl : List Cs} (h : ∀ l ∈ hd :: tl, okLn l) (hl : tl.length ≤ 900) : ∃ τ, m__law_due [some (.fz (.lst ((hd :: tl).map .str)))] = .ok (.fz (ansT (dueA (toks hd) (tl.map toks)))) τ := by
  have hlen : dCall lenT (dCons (dV 0) dNil) (U6 (hd :: tl) 2 none none none none) = .ok (.int (hd :: tl).length) (U6 (hd :: tl) 2 none none none none) := len_strs rfl
  have hf : dFor (dRng1 (dCons (dCall lenT (dCons (dV 0) (dNil))) (dNil))) (gN 2) duB (U6 (hd :: tl) 2 none none none none) = forL (gN 2) duB ((List.range' 0 (hd :: tl).length).map fun k : Nat => T.int k) (U6 (hd :: tl) 2 none none none none) := by
    rw [← rng_range]
    exact for_run (rng1_run hlen (inR_nat (by simp; omega)))
  have hlist : (List.range' 0 (hd :: tl).length).map (fun k : Nat => T.int k) = T.int ((0 : Nat) : Int) :: (List.range' 1 tl.length).map fun k : Nat => T.int k := by
    rw [List.length_cons, List.range'_succ, List.map_cons]
  rw [hlist] at hf
  have ok := h hd List.mem_cons_self
  have hg : gN 2 (T.int ((0 : Nat) : Int)) (U6 (hd :: tl) 2 none none none none) = some (U6 (hd :: tl) 2 (some (.fz (.int ((0 : Nat) : Int)))) none none none) := rfl
  have e0 : duB (U6 (hd :: tl) 2 (some (.fz (.int ((0 : Nat) : Int)))) none none none) = du3 (U6 (hd :: tl) (kindsOf (toks hd)) (some (.fz (.int ((0 : Nat) : Int)))) (some (.fz (.lst ((toks hd).map .str)))) none (some (.fz (wrT (wr (toks hd) R0 0))))) := by
    unfold duB
    rw [seq_run (du1_run (L := hd :: tl) (i := 0) rfl ok), seq_run (du2_head (toks_asc ok.2.1))]
  have hs : dSet 1 (dC (.int 2)) [some (.fz (.lst ((hd :: tl).map .str))), none, none, none, none, none] = .ok .nx (U6 (hd :: tl) 2 none none none none) := rfl
  unfold dueA
  cases hw : wr (toks hd) R0 0 with
  | some j =>
    rw [hw] at e0
    refine ⟨U6 (hd :: tl) (kindsOf (toks hd)) (some (.fz (.int ((0 : Nat) : Int)))) (some (.fz (.lst ((toks hd).map .str)))) none (some (.fz (.int j))), fn_run (d := D__law_due) (τ0 := [some (.fz (.lst ((hd :: tl).map .str))), none, none, none, none, none]) rfl ?_⟩
    rw [D_due_eq, seq_run hs]
    exact seq_rt (hf.trans (forL_rt hg (e0.trans du3_yes)))
  | none =>
    rw [hw] at e0
    dsimp only
    have hf2 := hf.trans (forL_nx hg (e0.trans du3_no))
    rcases due_for (hd :: tl) (kinds_23 (toks hd)) tl 1 (some (.fz (.int ((0 : Nat) : Int)))) (some (.fz (.lst ((toks hd).map .str)))) (some (.fz (wrT none))) rfl (by omega) (fun l hl => h l (List.mem_cons_of_mem _ hl)) with ⟨x, y, τ, w1, w2⟩ | ⟨w1, τ, w2⟩
    · rw [w1]
      refine ⟨τ, fn_run (d := D__law_due) (τ0 := [some (.fz (.lst ((hd :: tl).map .str))), none, none, none, none, none]) rfl ?_⟩
      rw [D_due_eq, seq_run hs]
      exact seq_rt (hf2.trans w2)
    · rw [w1]
      refine ⟨τ, fn_run (d := D__law_due) (τ0 := [some (.fz (.lst ((hd :: tl).map .str))), none, none, none, none, none]) rfl ?_⟩
      rw [D_due_eq, seq_run hs, seq_run (hf2.trans w2)]
      rfl
/-! alike -/
theorem alike_non : ∃ τ, m__law_alike 20 [some (.fz .non), some (.fz .non)] = .ok (.fz (.bl true)) τ := isT_ok (by decide +kernel)
theorem alike_int (i : Int) : ∃ τ, m__law_alike 19 [some (.fz (.int i)), some (.fz (.int i))] = .ok (.fz (.bl true)) τ := by
  refine ⟨[some (.fz (.int i)), some (.fz (.int i)), none], fn_run (d := D__law_alike (m__law_alike 18)) (τ0 := [some (.fz (.int i)), some (.fz (.int i)), none]) rfl ?_⟩
  unfold D__law_alike
  refine (seqif_f (τ1 := [some (.fz (.int i)), some (.fz (.int i)), none]) (tru_run (t := .bl false) (callg_run (cons_run (dv_run rfl) (cons_run dc_run nil_run)) rfl) rfl)).trans ?_
  refine (seqif_f (τ1 := [some (.fz (.int i)), some (.fz (.int i)), none]) (tru_run (t := .bl false) (callg_run (ts := [.int i, .tup [.ty "tuple", .ty "list"]]) (cons_run (dv_run rfl) (cons_run (tup_run (cons_run dc_run (cons_run dc_run nil_run)) (by simp)) nil_run)) rfl) rfl)).trans ?_
  refine (seqif_f (τ1 := [some (.fz (.int i)), some (.fz (.int i)), none]) ?_).trans ?_
  · refine (or_f (τ1 := [some (.fz (.int i)), some (.fz (.int i)), none]) (bl_run (op_run (dv_run rfl) dc_run rfl))).trans ?_
    exact tru_run (t := .bl false) (callg_run (ts := [.int i, .ty "str"]) (cons_run (dv_run rfl) (cons_run dc_run nil_run)) rfl) rfl
  refine ret_run (of_run ?_)
  have ty : ∀ {k : Nat} {s : String} {b : Bool}, ([some (.fz (.int i)), some (.fz (.int i)), none] : Env)[k]? = some (some (.fz (.int i))) → isiTT [.int i, .ty s] = some (.bl b) → dCall isiTT (dCons (dV k) (dCons (dC (.ty s)) dNil)) [some (.fz (.int i)), some (.fz (.int i)), none] = .ok (.bl b) [some (.fz (.int i)), some (.fz (.int i)), none] := fun h1 h2 =>
    callg_run (ts := [.int i, .ty _]) (cons_run (dv_run h1) (cons_run dc_run nil_run)) h2
  refine (and_t (ty rfl rfl)).trans ((and_t (τ1 := [some (.fz (.int i)), some (.fz (.int i)), none]) ?_).trans ?_)
  · exact op_run (ty rfl rfl) (ty rfl rfl) rfl
  · refine op_run (dv_run rfl) (dv_run rfl) ?_
    show some (T.bl (decide (i = i))) = _
    rw [decide_eq_true rfl]
theorem alike_ans (x : Option (Nat × Nat)) : ∃ τ, m__law_alike 20 [some (.fz (ansT x)), some (.fz (ansT x))] = .ok (.fz (.bl true)) τ := by
  cases x with
  | none => exact alike_non
  | some p =>
    obtain ⟨a, b⟩ := p
    show ∃ τ, dFn 3 (D__law_alike (m__law_alike 19)) [some (.fz (.tup [.int a, .int b])), some (.fz (.tup [.int a, .int b]))] = _
    refine alike_tup (fun t ht => ?_) (by simp)
    rcases List.mem_cons.mp ht with rfl | ht
    · exact alike_int a
    · rw [List.mem_singleton.mp ht]
      exact alike_int b
end TL
set_option Elab.async false
set_option linter.all false
set_option maxRecDepth 100000
set_option maxHeartbeats 0
namespace TL
open PySem PySem.Spec L2

/-! texts cut and put together again -/
def fsum (l : List Cs) : Nat := (l.map fun w => w.length + 1).sum
theorem fsum_app (a b : List Cs) : fsum (a ++ b) = fsum a + fsum b := by simp [fsum]
theorem fsum_one (w : Cs) : fsum [w] = w.length + 1 := by simp [fsum]
theorem join_fsum {c : Nat} : ∀ l : List Cs, (joinL [c] l).length ≤ fsum l - 1
  | [] => by simp [joinL]
  | [w] => by simp [joinL, fsum]
  | w :: v :: l => by
    have e : joinL [c] (w :: v :: l) = w ++ (c :: joinL [c] (v :: l)) := by simp [joinL]
    have ih := join_fsum (c := c) (v :: l)
    have h1 : fsum (w :: v :: l) = w.length + 1 + fsum (v :: l) := by simp [fsum]
    have h2 : 0 < fsum (v :: l) := by simp [fsum]; omega
    rw [e, List.length_append, List.length_cons, h1]
    omega
theorem spl_fsum {c : Nat} : ∀ (l acc : List Nat), fsum (spl [c] 0 acc l) = acc.length + l.length + 1
  | [], acc => by
    have : spl [c] 0 acc [] = [acc] := rfl
    rw [this, fsum_one]
    simp
  | x :: l, acc => by
    by_cases e : x = c
    · subst e
      rw [spl_hit1]
      have h1 : fsum (acc :: spl [x] 0 [] l) = acc.length + 1 + fsum (spl [x] 0 [] l) := by simp [fsum]
      rw [h1, spl_fsum l []]
      simp
      omega
    · rw [spl_miss1 e, spl_fsum l (acc ++ [x])]
      simp
      omega
theorem fsum_cut (l : List Cs) (k j : Nat) : fsum (l.take k) + fsum (l.drop (k + j)) ≤ fsum l := by
  have h1 := congrArg fsum (List.take_append_drop k l)
  have h2 := congrArg fsum (List.take_append_drop j (l.drop k))
  rw [fsum_app] at h1 h2
  rw [List.drop_drop] at h2
  omega
theorem mem_fsum {l : List Cs} {w : Cs} (h : w ∈ l) : w.length + 1 ≤ fsum l := by
  induction l with
  | nil => cases h
  | cons v l ih =>
    have e : fsum (v :: l) = v.length + 1 + fsum l := by simp [fsum]
    rcases List.mem_cons.mp h with rfl | h
    · omega
    · have := ih h
      omega
theorem len_fsum (l : List Cs) : l.length ≤ fsum l := by
  induction l with
  | nil => simp
  | cons v l ih =>
    have e : fsum (v :: l) = v.length + 1 + fsum l := by simp [fsum]
    rw [List.length_cons]
    omega
/-- letters that a line may hold -/
def fine (w : Cs) : Prop := asc w ∧ 10 ∉ w
theorem fine_iff {w : Cs} : fine w ↔ ∀ c ∈ w, c < 128 ∧ c ≠ 10 :=
  ⟨fun h c hc => ⟨h.1 c hc, fun e => h.2 (e ▸ hc)⟩, fun h => ⟨fun c hc => (h c hc).1, fun hc => (h 10 hc).2 rfl⟩⟩
theorem fine_spl {l : Cs} (h : fine l) : ∀ w ∈ spl [32] 0 [] l, fine w := by
  intro w hw
  rw [fine_iff] at h ⊢
  intro c hc
  rcases spl_sub hw hc with z | ⟨z, _⟩
  · cases z
  · exact h c z
theorem fine_join {l : List Cs} (h : ∀ w ∈ l, fine w) : fine (joinL [32] l) := by
  rw [fine_iff]
  intro c hc
  rcases join_mem hc with rfl | ⟨w, hw, hcw⟩
  · decide
  · exact (fine_iff.mp (h w hw)) c hcw
theorem mem_take {α : Type} {l : List α} {k : Nat} {x : α} (h : x ∈ l.take k) : x ∈ l := List.mem_of_mem_take h
theorem mem_drop {α : Type} {l : List α} {k : Nat} {x : α} (h : x ∈ l.drop k) : x ∈ l := List.mem_of_mem_drop h
/-! slices -/
theorem sl_run {d : DE} {lo hi : DP} {τ τ1 τ2 τ3 : Env} {t u : T} {l h : Option Int} (h1 : d τ = .ok t τ1) (h2 : lo τ1 = .ok l τ2) (h3 : hi τ2 = .ok h τ3) (h4 : slT t l h = some u) : dSl d lo hi τ = .ok u τ3 := by
  unfold dSl
  rw [h1, R.bind_ok, h2, R.bind_ok, h3, R.bind_ok, h4]
theorem part_run {d : DE} {τ τ1 : Env} {i : Int} (h : d τ = .ok (.int i) τ1) : dPart d τ = .ok (some i) τ1 := by
  unfold dPart
  rw [h, R.bind_ok]
theorem slT_pre {l : List T} {k : Nat} : slT (.lst l) none (some (k : Int)) = some (.lst (l.take k)) := by
  have e1 : HT.sIx l.length 0 none = 0 := by simp [HT.sIx]
  have e2 : l.take (min k l.length) = l.take k := by
    by_cases h : k ≤ l.length
    · rw [Nat.min_eq_left h]
    · rw [Nat.min_eq_right (by omega), List.take_of_length_le (Nat.le_refl _), List.take_of_length_le (by omega)]
  show some (T.lst (cutL l none (some (k : Int)))) = _
  unfold cutL
  rw [e1, sIx_nat, List.drop_zero, Nat.sub_zero, e2]
theorem slT_suf {l : List T} {k : Nat} : slT (.lst l) (some (k : Int)) none = some (.lst (l.drop k)) := by
  have e1 : HT.sIx l.length l.length none = l.length := by simp [HT.sIx]
  have e2 : (l.drop (min k l.length)).take (l.length - min k l.length) = l.drop k := by
    by_cases h : k ≤ l.length
    · rw [Nat.min_eq_left h, List.take_of_length_le (by simp)]
    · rw [Nat.min_eq_right (by omega), Nat.sub_self, List.take_zero, List.drop_eq_nil_of_le (by omega)]
  show some (T.lst (cutL l (some (k : Int)) none)) = _
  unfold cutL
  rw [e1, sIx_nat, e2]
def TS' (l : List Cs) : T := .lst (l.map .str)
theorem addTS {a b : List Cs} (h : a.length + b.length ≤ 1000) : addT (TS' a) (TS' b) = some (TS' (a ++ b)) := by
  show (if _ then _ else _) = _
  rw [if_pos (le_SZ (by simp; omega))]
  show some (T.lst _) = some (T.lst _)
  rw [List.map_append]
theorem preTS {l : List Cs} {k : Nat} : slT (TS' l) none (some (k : Int)) = some (TS' (l.take k)) := by
  unfold TS'
  rw [slT_pre, List.map_take]
theorem sufTS {l : List Cs} {k : Nat} : slT (TS' l) (some (k : Int)) none = some (TS' (l.drop k)) := by
  unfold TS'
  rw [slT_suf, List.map_drop]
theorem joinTS {l : List Cs} (h : fsum l ≤ 9000) : joinG (.str [32]) [TS' l] = some (.str (joinL [32] l)) := by
  show (strsT (l.map .str)).bind _ = _
  have e : (l.map List.length).sum + l.length * ([32] : Cs).length = fsum l := by
    induction l with
    | nil => rfl
    | cons w l ih =>
      have e1 : fsum (w :: l) = w.length + 1 + fsum l := by simp [fsum]
      have := ih (by omega)
      rw [e1, ← this]
      simp
      omega
  rw [strsT_ok, Option.bind_some, if_pos (le_SZ4 (by rw [e]; omega))]
theorem joinTS10 {l : List Cs} (h : fsum l ≤ 9000) : joinG (.str [10]) [TS' l] = some (.str (joinL [10] l)) := by
  show (strsT (l.map .str)).bind _ = _
  have e : (l.map List.length).sum + l.length * ([10] : Cs).length = fsum l := by
    induction l with
    | nil => rfl
    | cons w l ih =>
      have e1 : fsum (w :: l) = w.length + 1 + fsum l := by simp [fsum]
      have := ih (by omega)
      rw [e1, ← this]
      simp
      omega
  rw [strsT_ok, Option.bind_some, if_pos (le_SZ4 (by rw [e]; omega))]
/-! draws -/
def nxE (d : DE) : DE := dFz (dCallF 2 [1] m__law_next (dCons d dNil))
theorem nxE_run {d : DE} {cap : Int} {τ : Env} {o : O} (h : τ[1]? = some (some o)) (hd : d τ = .ok (.int cap) τ) (ho : IsH o) (h0 : 0 < cap) (h1 : cap < 2 ^ 60) : ∃ (v : Nat) (o' : O), nxE d τ = .ok (.int v) (τ.set 1 (some o')) ∧ (v : Int) < cap ∧ IsH o' := by
  obtain ⟨v, o', x, y, e, g1, g2, g3⟩ := next_ok (cap := cap) ho h0 h1
  refine ⟨v.toNat, o', ?_, by omega, g3⟩
  unfold nxE
  have hv : ((v.toNat : Nat) : Int) = v := by omega
  rw [hv]
  exact (fz_run (o := .fz (.int v)) (call_run1 (ts := [.int cap]) h (cons_run hd nil_run) h rfl e)).trans rfl
def pkE (d : DE) : DE := dFz (dCallF 2 [1] m__law_pick (dCons d dNil))
theorem pkE_run {d : DE} {S : List Cs} {τ : Env} {o : O} (h : τ[1]? = some (some o)) (hd : d τ = .ok (TS' S) τ) (ho : IsH o) (h0 : 0 < S.length) (h1 : S.length < 1000) : ∃ (w : Cs) (o' : O), pkE d τ = .ok (.str w) (τ.set 1 (some o')) ∧ w ∈ S ∧ IsH o' := by
  obtain ⟨t, o', x, e, ht, g⟩ := pick_ok (ts := S.map .str) ho (by simpa using h0) (by simpa using h1)
  obtain ⟨w, hw, rfl⟩ := List.mem_map.mp ht
  refine ⟨w, o', ?_, hw, g⟩
  unfold pkE
  exact (fz_run (o := .fz (.str w)) (call_run1 (ts := [TS' S]) h (cons_run hd nil_run) h rfl e)).trans rfl
end TL
set_option Elab.async false
set_option linter.all false
set_option maxRecDepth 100000
set_option maxHeartbeats 0
namespace TL
open PySem PySem.Spec L2

def okC (c : Nat) (L : List Cs) : Prop := L ≠ [] ∧ L.length ≤ 4 + 3 * c ∧ ∀ l ∈ L, l.length ≤ 28 + 7 * c ∧ fine l
theorem okC_rep {c s : Nat} {L : List Cs} {l' : Cs} (h : okC c L) (h1 : l'.length ≤ 28 + 7 * (c + 1)) (h2 : fine l') (hs : s < L.length) : okC (c + 1) (L.take s ++ [l'] ++ L.drop (s + 1)) := by
  obtain ⟨g1, g2, g3⟩ := h
  refine ⟨by simp, by simp; omega, fun l hl => ?_⟩
  rcases List.mem_append.mp hl with hl | hl
  · rcases List.mem_append.mp hl with hl | hl
    · exact ⟨by have := (g3 l (mem_take hl)).1; omega, (g3 l (mem_take hl)).2⟩
    · rw [List.mem_singleton.mp hl]
      exact ⟨h1, h2⟩
  · exact ⟨by have := (g3 l (mem_drop hl)).1; omega, (g3 l (mem_drop hl)).2⟩
theorem okC_ins {c s : Nat} {L M : List Cs} (h : okC c L) (hm : M.length ≤ 3) (h2 : ∀ l ∈ M, l.length ≤ 28 ∧ fine l) : okC (c + 1) (L.take (s + 1) ++ M ++ L.drop (s + 1)) := by
  obtain ⟨g1, g2, g3⟩ := h
  have hl : 0 < L.length := List.length_pos_iff.mpr g1
  refine ⟨fun z => ?_, by simp; omega, fun l hl => ?_⟩
  · have := congrArg List.length z
    rw [List.length_append, List.length_append, List.length_take, List.length_drop, List.length_nil] at this
    omega
  · rcases List.mem_append.mp hl with hl | hl
    · rcases List.mem_append.mp hl with hl | hl
      · exact ⟨by have := (g3 l (mem_take hl)).1; omega, (g3 l (mem_take hl)).2⟩
      · exact ⟨by have := (h2 l hl).1; omega, (h2 l hl).2⟩
    · exact ⟨by have := (g3 l (mem_drop hl)).1; omega, (g3 l (mem_drop hl)).2⟩
theorem okC_rev {c : Nat} {L : List Cs} (h : okC c L) : okC (c + 1) L.reverse := by
  obtain ⟨g1, g2, g3⟩ := h
  refine ⟨by simpa using g1, by simp; omega, fun l hl => ?_⟩
  have := g3 l (List.mem_reverse.mp hl)
  exact ⟨by omega, this.2⟩
def oddL : List Cs := [[], [48], [49], [50], [51], [52], [48, 50], [97], [98], [99], [100], [99, 111, 114, 100], [114, 105, 110, 103], [109, 111, 115, 116], [98, 101, 115, 105, 100, 101], [97, 98]]
theorem odd_fine : ∀ w ∈ oddL, w.length ≤ 6 ∧ fine w := by
  have : oddL.all (fun w => decide (w.length ≤ 6) && w.all fun c => decide (c < 128) && decide (c ≠ 10)) = true := by decide +kernel
  intro w hw
  have h := List.all_eq_true.mp this w hw
  rw [Bool.and_eq_true, List.all_eq_true] at h
  refine ⟨of_decide_eq_true h.1, fine_iff.mpr fun c hc => ?_⟩
  have := h.2 c hc
  rw [Bool.and_eq_true] at this
  exact ⟨of_decide_eq_true this.1, of_decide_eq_true this.2⟩
def moreL : List Cs := [[], [98, 101, 115, 105, 100, 101, 32, 97, 32, 97], [109, 111, 115, 116, 32, 98, 32, 49, 32, 52], [114, 105, 110, 103, 32, 50]]
theorem more_fine : ∀ w ∈ moreL, w.length ≤ 28 ∧ fine w := by
  have : moreL.all (fun w => decide (w.length ≤ 28) && w.all fun c => decide (c < 128) && decide (c ≠ 10)) = true := by decide +kernel
  intro w hw
  have h := List.all_eq_true.mp this w hw
  rw [Bool.and_eq_true, List.all_eq_true] at h
  refine ⟨of_decide_eq_true h.1, fine_iff.mpr fun c hc => ?_⟩
  have := h.2 c hc
  rw [Bool.and_eq_true] at this
  exact ⟨of_decide_eq_true this.1, of_decide_eq_true this.2⟩
abbrev G (x0 : Option O) (o : O) (x2 x3 x4 : Option O) (L : List Cs) (x6 x7 x8 x9 x10 x11 x12 x13 x14 x15 x16 : Option O) : Env := [x0, some o, x2, x3, x4, some (.fz (TS' L)), x6, x7, x8, x9, x10, x11, x12, x13, x14, x15, x16]
abbrev sI (n : Nat) : Option O := some (.fz (.int n))
abbrev sL (l : List Cs) : Option O := some (.fz (TS' l))
abbrev sS (l : Cs) : Option O := some (.fz (.str l))
theorem lenTS {l : List Cs} {i : Nat} {τ : Env} (h : τ[i]? = some (sL l)) : dCall lenT (dCons (dV i) dNil) τ = .ok (.int l.length) τ := len_strs h
def c1 : DS := (dPar [7, 8] (dConsO (dOf (nxE (dCall lenT (dCons (dV 5) (dNil))))) (dConsO (dOf (nxE (dC (.int 5)))) (dNilO))))
def c2 : DS := (dSet 9 (dFz (dMethN isStr splitG (dOp ixG (dV 5) (dV 7)) (dCons (dC (.str [32])) (dNil)))))
def c3 : DS := (dSet 10 (nxE (dOp addT (dCall lenT (dCons (dV 9) (dNil))) (dC (.int 1)))))
def cRep : DS := (dSet 5 (dOp addT (dOp addT (dSl (dV 5) (dNoP) (dPart (dV 7))) (dFz (dLst (dCons (dV 13) (dNil))))) (dSl (dV 5) (dPart (dOp addT (dV 7) (dC (.int 1)))) (dNoP))))
def k01 : DS := (dSeq (dPar [11, 12] (dConsO (dOf (pkE (dV 2))) (dConsO (dOf (dSl (dV 9) (dPart (dOp addT (dV 10) (dV 8))) (dNoP))) (dNilO)))) (dSeq (dSet 13 (dMeth isStr joinG (dC (.str [32])) (dCons (dOp addT (dOp addT (dSl (dV 9) (dNoP) (dPart (dV 10))) (dFz (dLst (dCons (dV 11) (dNil))))) (dV 12)) (dNil)))) cRep))
def k2 : DS := (dSeq (dSet 13 (dMeth isStr joinG (dC (.str [32])) (dCons (dSl (dV 9) (dNoP) (dPart (dV 10))) (dNil)))) cRep)
def k3 : DS := (dSeq (dSet 14 (pkE (dFz (dLst (dCons (dC (.str [])) (dCons (dC (.str [98, 101, 115, 105, 100, 101, 32, 97, 32, 97])) (dCons (dC (.str [109, 111, 115, 116, 32, 98, 32, 49, 32, 52])) (dCons (dC (.str [114, 105, 110, 103, 32, 50])) (dNil))))))))) (dSeq (dSet 15 (dOp mulT (dFz (dLst (dCons (dV 14) (dNil)))) (dOp addT (dC (.int 1)) (nxE (dC (.int 3)))))) (dSet 5 (dOp addT (dOp addT (dSl (dV 5) (dNoP) (dPart (dOp addT (dV 7) (dC (.int 1))))) (dV 15)) (dSl (dV 5) (dPart (dOp addT (dV 7) (dC (.int 1)))) (dNoP))))))
def cB : DS := dSeq c1 (dSeq c2 (dSeq c3 (dIfS (dBl (dOp ltT (dV 8) (dC (.int 2)))) k01 (dIfS (dBl (dOp eqT (dV 8) (dC (.int 2)))) k2 (dIfS (dBl (dOp eqT (dV 8) (dC (.int 3)))) k3 (dSet 5 (dUn revG (dV 5))))))))
theorem cRep_run {x0 x2 x3 x4 x6 x8 x9 x10 x11 x12 x14 x15 x16 : Option O} {o : O} {L : List Cs} {s : Nat} {l' : Cs} (hl : L.length ≤ 100) (hs : s < L.length) :
    cRep (G x0 o x2 x3 x4 L x6 (sI s) x8 x9 x10 x11 x12 (sS l') x14 x15 x16) = .ok .nx (G x0 o x2 x3 x4 (L.take s ++ [l'] ++ L.drop (s + 1)) x6 (sI s) x8 x9 x10 x11 x12 (sS l') x14 x15 x16) := by
  unfold cRep
  refine (set_run (t := TS' (L.take s ++ [l'] ++ L.drop (s + 1))) (τ1 := G x0 o x2 x3 x4 L x6 (sI s) x8 x9 x10 x11 x12 (sS l') x14 x15 x16) ?_).trans rfl
  refine op_run (op_run (sl_run (dv_run rfl) rfl (part_run (dv_run rfl)) preTS) (fzst_run (ts := [.str l']) (cons_run (dv_run rfl) nil_run) (by simp)) (addTS (b := [l']) (by simp; omega))) (sl_run (l := some ((s + 1 : Nat) : Int)) (dv_run rfl) (part_run (op_run (dv_run rfl) dc_run rfl)) rfl sufTS) (addTS (by simp; omega))
theorem k2_run {x0 x2 x3 x4 x6 x8 x11 x12 x13 x14 x15 x16 : Option O} {o : O} {L ps : List Cs} {s k : Nat} (hl : L.length ≤ 100) (hs : s < L.length) (hp : fsum ps ≤ 1000) :
    k2 (G x0 o x2 x3 x4 L x6 (sI s) x8 (sL ps) (sI k) x11 x12 x13 x14 x15 x16) = .ok .nx (G x0 o x2 x3 x4 (L.take s ++ [joinL [32] (ps.take k)] ++ L.drop (s + 1)) x6 (sI s) x8 (sL ps) (sI k) x11 x12 (sS (joinL [32] (ps.take k))) x14 x15 x16) := by
  have hf : fsum (ps.take k) ≤ 9000 := by have := fsum_cut ps k 0; omega
  unfold k2
  refine (seq_run (τ1 := G x0 o x2 x3 x4 L x6 (sI s) x8 (sL ps) (sI k) x11 x12 (sS (joinL [32] (ps.take k))) x14 x15 x16) ?_).trans (cRep_run hl hs)
  refine (set_run (t := .str (joinL [32] (ps.take k))) (τ1 := G x0 o x2 x3 x4 L x6 (sI s) x8 (sL ps) (sI k) x11 x12 x13 x14 x15 x16) ?_).trans rfl
  exact meth_run (s := .str [32]) dc_run rfl (cons_run (sl_run (dv_run rfl) rfl (part_run (dv_run rfl)) preTS) nil_run) (joinTS hf)
theorem k01_run {x0 x3 x4 x6 x11 x12 x13 x14 x15 x16 : Option O} {o : O} {L ps : List Cs} {s k j : Nat} (ho : IsH o) (hl : L.length ≤ 100) (hs : s < L.length) (hp : fsum ps ≤ 1000) (hpl : ps.length ≤ 100) :
    ∃ (w : Cs) (o' : O) (y12 : Option O), w ∈ oddL ∧ IsH o' ∧ k01 (G x0 o (sL oddL) x3 x4 L x6 (sI s) (sI j) (sL ps) (sI k) x11 x12 x13 x14 x15 x16) = .ok .nx (G x0 o' (sL oddL) x3 x4 (L.take s ++ [joinL [32] (ps.take k ++ [w] ++ ps.drop (k + j))] ++ L.drop (s + 1)) x6 (sI s) (sI j) (sL ps) (sI k) (sS w) y12 (sS (joinL [32] (ps.take k ++ [w] ++ ps.drop (k + j)))) x14 x15 x16) := by
  obtain ⟨w, o', e, hw, g⟩ := pkE_run (d := dV 2) (τ := G x0 o (sL oddL) x3 x4 L x6 (sI s) (sI j) (sL ps) (sI k) x11 x12 x13 x14 x15 x16) (S := oddL) rfl (dv_run rfl) ho (by decide) (by decide)
  refine ⟨w, o', sL (ps.drop (k + j)), hw, g, ?_⟩
  have hwl := (odd_fine w hw).1
  have hf : fsum (ps.take k ++ [w] ++ ps.drop (k + j)) ≤ 9000 := by
    have := fsum_cut ps k j
    rw [fsum_app, fsum_app, fsum_one]
    omega
  unfold k01
  refine (seq_run (τ1 := G x0 o' (sL oddL) x3 x4 L x6 (sI s) (sI j) (sL ps) (sI k) (sS w) (sL (ps.drop (k + j))) x13 x14 x15 x16) ?_).trans ?_
  · refine (par2_run (a := .fz (.str w)) (b := .fz (TS' (ps.drop (k + j)))) (τ1 := G x0 o' (sL oddL) x3 x4 L x6 (sI s) (sI j) (sL ps) (sI k) x11 x12 x13 x14 x15 x16) (τ2 := G x0 o' (sL oddL) x3 x4 L x6 (sI s) (sI j) (sL ps) (sI k) x11 x12 x13 x14 x15 x16) (of_run (e.trans rfl)) (of_run ?_) (by simp) (by simp)).trans rfl
    exact sl_run (l := some ((k + j : Nat) : Int)) (dv_run rfl) (part_run (op_run (dv_run rfl) (dv_run rfl) rfl)) rfl sufTS
  refine (seq_run (τ1 := G x0 o' (sL oddL) x3 x4 L x6 (sI s) (sI j) (sL ps) (sI k) (sS w) (sL (ps.drop (k + j))) (sS (joinL [32] (ps.take k ++ [w] ++ ps.drop (k + j)))) x14 x15 x16) ?_).trans (cRep_run hl hs)
  refine (set_run (t := .str (joinL [32] (ps.take k ++ [w] ++ ps.drop (k + j)))) (τ1 := G x0 o' (sL oddL) x3 x4 L x6 (sI s) (sI j) (sL ps) (sI k) (sS w) (sL (ps.drop (k + j))) x13 x14 x15 x16) ?_).trans rfl
  refine meth_run (s := .str [32]) dc_run rfl (cons_run ?_ nil_run) (joinTS hf)
  exact op_run (op_run (sl_run (dv_run rfl) rfl (part_run (dv_run rfl)) preTS) (fzst_run (ts := [.str w]) (cons_run (dv_run rfl) nil_run) (by simp)) (addTS (b := [w]) (by simp; omega))) (dv_run rfl) (addTS (by simp; omega))
theorem reps_len {α : Type} (n : Nat) (x : α) : (reps n [x]).length = n := by simp [reps]
theorem reps_mem {α : Type} {n : Nat} {x y : α} (h : y ∈ reps n [x]) : y = x := by
  simp [reps] at h
  exact h.2
theorem reps_map {α β : Type} {f : α → β} {n : Nat} {x : α} : reps n [f x] = (reps n [x]).map f := by simp [reps]
theorem k3_run {x0 x2 x3 x4 x6 x8 x9 x10 x11 x12 x13 x14 x15 x16 : Option O} {o : O} {L : List Cs} {s : Nat} (ho : IsH o) (hl : L.length ≤ 100) :
    ∃ (w : Cs) (m : Nat) (o' : O), w ∈ moreL ∧ m ≤ 3 ∧ IsH o' ∧ k3 (G x0 o x2 x3 x4 L x6 (sI s) x8 x9 x10 x11 x12 x13 x14 x15 x16) = .ok .nx (G x0 o' x2 x3 x4 (L.take (s + 1) ++ reps m [w] ++ L.drop (s + 1)) x6 (sI s) x8 x9 x10 x11 x12 x13 (sS w) (sL (reps m [w])) x16) := by
  obtain ⟨w, o1, e1, hw, g1⟩ := pkE_run (d := (dFz (dLst (dCons (dC (.str [])) (dCons (dC (.str [98, 101, 115, 105, 100, 101, 32, 97, 32, 97])) (dCons (dC (.str [109, 111, 115, 116, 32, 98, 32, 49, 32, 52])) (dCons (dC (.str [114, 105, 110, 103, 32, 50])) (dNil)))))))) (τ := G x0 o x2 x3 x4 L x6 (sI s) x8 x9 x10 x11 x12 x13 x14 x15 x16) (S := moreL) rfl (fzst_run (ts := moreL.map .str) (cons_run dc_run (cons_run dc_run (cons_run dc_run (cons_run dc_run nil_run)))) (by decide)) ho (by decide) (by decide)
  obtain ⟨v, o2, e2, v1, g2⟩ := nxE_run (d := dC (.int 3)) (cap := 3) (τ := G x0 o1 x2 x3 x4 L x6 (sI s) x8 x9 x10 x11 x12 x13 (sS w) x15 x16) rfl dc_run g1 (by decide) (by decide)
  refine ⟨w, 1 + v, o2, hw, by omega, g2, ?_⟩
  unfold k3
  refine (seq_run (τ1 := G x0 o1 x2 x3 x4 L x6 (sI s) x8 x9 x10 x11 x12 x13 (sS w) x15 x16) ?_).trans ?_
  · exact (set_run (t := .str w) (τ1 := G x0 o1 x2 x3 x4 L x6 (sI s) x8 x9 x10 x11 x12 x13 x14 x15 x16) (e1.trans rfl)).trans rfl
  have hm : mulT (.lst [.str w]) (.int ((1 + v : Nat) : Int)) = some (TS' (reps (1 + v) [w])) := by
    have hz : ((1 + v : Nat) : Int).toNat = 1 + v := by omega
    unfold mulT
    dsimp only
    rw [if_pos ⟨by omega, by omega, le_SZ (by rw [hz]; simp; omega)⟩, hz, reps_map]
    rfl
  refine (seq_run (τ1 := G x0 o2 x2 x3 x4 L x6 (sI s) x8 x9 x10 x11 x12 x13 (sS w) (sL (reps (1 + v) [w])) x16) ?_).trans ?_
  · refine (set_run (t := TS' (reps (1 + v) [w])) (τ1 := G x0 o2 x2 x3 x4 L x6 (sI s) x8 x9 x10 x11 x12 x13 (sS w) x15 x16) ?_).trans rfl
    refine op_run (fzst_run (ts := [.str w]) (cons_run (dv_run rfl) nil_run) (by simp)) (op_run (u := .int ((1 + v : Nat) : Int)) dc_run (e2.trans rfl) ?_) hm
    show some (T.int (1 + (v : Int))) = some (T.int ((1 + v : Nat) : Int))
    congr 2
  refine (set_run (t := TS' (L.take (s + 1) ++ reps (1 + v) [w] ++ L.drop (s + 1))) (τ1 := G x0 o2 x2 x3 x4 L x6 (sI s) x8 x9 x10 x11 x12 x13 (sS w) (sL (reps (1 + v) [w])) x16) ?_).trans rfl
  have hlen := reps_len (1 + v) w
  have hs1 : ∀ {τ : Env}, τ[7]? = some (sI s) → dPart (dOp addT (dV 7) (dC (.int 1))) τ = .ok (some ((s + 1 : Nat) : Int)) τ := fun h => part_run (op_run (dv_run h) dc_run rfl)
  exact op_run (op_run (sl_run (dv_run rfl) rfl (hs1 rfl) preTS) (dv_run rfl) (addTS (by simp [hlen]; omega))) (sl_run (dv_run rfl) (hs1 rfl) rfl sufTS) (addTS (by simp [hlen]; omega))
theorem change_ok {x0 x3 x4 x6 x7 x8 x9 x10 x11 x12 x13 x14 x15 x16 : Option O} {o : O} {L : List Cs} {c : Nat} (ho : IsH o) (h : okC c L) (hc : c ≤ 1) :
    ∃ (L' : List Cs) (o' : O) (y7 y8 y9 y10 y11 y12 y13 y14 y15 : Option O), okC (c + 1) L' ∧ IsH o' ∧ cB (G x0 o (sL oddL) x3 x4 L x6 x7 x8 x9 x10 x11 x12 x13 x14 x15 x16) = .ok .nx (G x0 o' (sL oddL) x3 x4 L' x6 y7 y8 y9 y10 y11 y12 y13 y14 y15 x16) := by
  have hL := h.2.1
  have hpos : 0 < L.length := List.length_pos_iff.mpr h.1
  obtain ⟨s, o1, e1, s1, g1⟩ := nxE_run (d := dCall lenT (dCons (dV 5) (dNil))) (cap := (L.length : Nat)) (τ := G x0 o (sL oddL) x3 x4 L x6 x7 x8 x9 x10 x11 x12 x13 x14 x15 x16) rfl (lenTS rfl) ho (by omega) (by omega)
  obtain ⟨j, o2, e2, j1, g2⟩ := nxE_run (d := dC (.int 5)) (cap := 5) (τ := G x0 o1 (sL oddL) x3 x4 L x6 x7 x8 x9 x10 x11 x12 x13 x14 x15 x16) rfl dc_run g1 (by decide) (by decide)
  have hs : s < L.length := by omega
  have ls := List.getElem?_eq_getElem hs
  obtain ⟨l, hl⟩ : ∃ l, L[s]? = some l := ⟨_, ls⟩
  obtain ⟨l1, l2⟩ := h.2.2 l (List.mem_of_getElem? hl)
  have hps : fsum (spl [32] 0 [] l) = l.length + 1 := by rw [spl_fsum]; simp
  have hpl : (spl [32] 0 [] l).length ≤ l.length + 1 := by have := len_fsum (spl [32] 0 [] l); omega
  have hfp := fine_spl l2
  generalize hgp : spl [32] 0 [] l = ps at hps hpl hfp
  obtain ⟨k, o3, e3, k1, g3⟩ := nxE_run (d := dOp addT (dCall lenT (dCons (dV 9) (dNil))) (dC (.int 1))) (cap := (ps.length : Int) + 1) (τ := G x0 o2 (sL oddL) x3 x4 L x6 (sI s) (sI j) (sL ps) x10 x11 x12 x13 x14 x15 x16) rfl (op_run (lenTS rfl) dc_run rfl) g2 (by omega) (by omega)
  have r1 : c1 (G x0 o (sL oddL) x3 x4 L x6 x7 x8 x9 x10 x11 x12 x13 x14 x15 x16) = .ok .nx (G x0 o2 (sL oddL) x3 x4 L x6 (sI s) (sI j) x9 x10 x11 x12 x13 x14 x15 x16) := by
    unfold c1
    exact (par2_run (τ1 := G x0 o1 (sL oddL) x3 x4 L x6 x7 x8 x9 x10 x11 x12 x13 x14 x15 x16) (τ2 := G x0 o2 (sL oddL) x3 x4 L x6 x7 x8 x9 x10 x11 x12 x13 x14 x15 x16) (of_run (e1.trans rfl)) (of_run (e2.trans rfl)) (by simp) (by simp)).trans rfl
  have r2 : c2 (G x0 o2 (sL oddL) x3 x4 L x6 (sI s) (sI j) x9 x10 x11 x12 x13 x14 x15 x16) = .ok .nx (G x0 o2 (sL oddL) x3 x4 L x6 (sI s) (sI j) (sL ps) x10 x11 x12 x13 x14 x15 x16) := by
    unfold c2
    refine (set_run (t := TS' ps) (τ1 := G x0 o2 (sL oddL) x3 x4 L x6 (sI s) (sI j) x9 x10 x11 x12 x13 x14 x15 x16) (fzl_run ?_)).trans rfl
    rw [← hgp]
    exact methN_run (s := .str l) (ts := [.str [32]]) (op_run (s := TS' L) (t := .int s) (dv_run rfl) (dv_run rfl) (at_words hl)) rfl (cons_run dc_run nil_run) (split_ok (by decide) (by omega))
  have r3 : c3 (G x0 o2 (sL oddL) x3 x4 L x6 (sI s) (sI j) (sL ps) x10 x11 x12 x13 x14 x15 x16) = .ok .nx (G x0 o3 (sL oddL) x3 x4 L x6 (sI s) (sI j) (sL ps) (sI k) x11 x12 x13 x14 x15 x16) := by
    unfold c3
    exact (set_run (t := .int k) (τ1 := G x0 o3 (sL oddL) x3 x4 L x6 (sI s) (sI j) (sL ps) x10 x11 x12 x13 x14 x15 x16) (e3.trans rfl)).trans rfl
  have e0 : cB (G x0 o (sL oddL) x3 x4 L x6 x7 x8 x9 x10 x11 x12 x13 x14 x15 x16) = (dIfS (dBl (dOp ltT (dV 8) (dC (.int 2)))) k01 (dIfS (dBl (dOp eqT (dV 8) (dC (.int 2)))) k2 (dIfS (dBl (dOp eqT (dV 8) (dC (.int 3)))) k3 (dSet 5 (dUn revG (dV 5)))))) (G x0 o3 (sL oddL) x3 x4 L x6 (sI s) (sI j) (sL ps) (sI k) x11 x12 x13 x14 x15 x16) := by
    unfold cB
    rw [seq_run r1, seq_run r2, seq_run r3]
  generalize hτ : G x0 o3 (sL oddL) x3 x4 L x6 (sI s) (sI j) (sL ps) (sI k) x11 x12 x13 x14 x15 x16 = τ at e0
  have h8 : τ[8]? = some (sI j) := by rw [← hτ]; rfl
  have b1 : dBl (dOp ltT (dV 8) (dC (.int 2))) τ = .ok (decide (j < 2)) τ := by
    refine bl_run (op_run (dv_run h8) dc_run ?_)
    show some (T.bl (decide ((j : Int) < 2))) = _
    congr 2
    simp
    omega
  have b2 : dBl (dOp eqT (dV 8) (dC (.int 2))) τ = .ok (decide (j = 2)) τ := by
    refine bl_run (op_run (dv_run h8) dc_run ?_)
    show some (T.bl (decide ((j : Int) = 2))) = _
    congr 2
    simp
    omega
  have b3 : dBl (dOp eqT (dV 8) (dC (.int 3))) τ = .ok (decide (j = 3)) τ := by
    refine bl_run (op_run (dv_run h8) dc_run ?_)
    show some (T.bl (decide ((j : Int) = 3))) = _
    congr 2
    simp
    omega
  by_cases q1 : j < 2
  · obtain ⟨w, o4, y12, hw, g4, e4⟩ := k01_run (x0 := x0) (x3 := x3) (x4 := x4) (x6 := x6) (x11 := x11) (x12 := x12) (x13 := x13) (x14 := x14) (x15 := x15) (x16 := x16) (L := L) (ps := ps) (s := s) (k := k) (j := j) g3 (by omega) hs (by omega) (by omega)
    have hf := fsum_cut ps k j
    obtain ⟨w1, w2⟩ := odd_fine w hw
    refine ⟨_, o4, _, _, _, _, _, _, _, _, _, okC_rep h ?_ ?_ hs, g4, e0.trans ((if_t (b1.trans (by rw [decide_eq_true q1]))).trans (by rw [← hτ]; exact e4))⟩
    · have := join_fsum (c := 32) (ps.take k ++ [w] ++ ps.drop (k + j))
      rw [fsum_app, fsum_app, fsum_one] at this
      omega
    · refine fine_join fun v hv => ?_
      rcases List.mem_append.mp hv with hv | hv
      · rcases List.mem_append.mp hv with hv | hv
        · exact hfp v (mem_take hv)
        · rw [List.mem_singleton.mp hv]
          exact w2
      · exact hfp v (mem_drop hv)
  · have e5 := e0.trans (if_f (b1.trans (by rw [decide_eq_false q1])))
    by_cases q2 : j = 2
    · have e4 := k2_run (x0 := x0) (x2 := sL oddL) (x3 := x3) (x4 := x4) (x6 := x6) (x8 := sI j) (x11 := x11) (x12 := x12) (x13 := x13) (x14 := x14) (x15 := x15) (x16 := x16) (o := o3) (L := L) (ps := ps) (s := s) (k := k) (by omega) hs (by omega)
      have hf := fsum_cut ps k 0
      refine ⟨_, o3, _, _, _, _, _, _, _, _, _, okC_rep h ?_ ?_ hs, g3, e5.trans ((if_t (b2.trans (by rw [decide_eq_true q2]))).trans (by rw [← hτ]; exact e4))⟩
      · have := join_fsum (c := 32) (ps.take k)
        omega
      · exact fine_join fun v hv => hfp v (mem_take hv)
    · have e6 := e5.trans (if_f (b2.trans (by rw [decide_eq_false q2])))
      by_cases q3 : j = 3
      · obtain ⟨w, m, o4, hw, hm, g4, e4⟩ := k3_run (x0 := x0) (x2 := sL oddL) (x3 := x3) (x4 := x4) (x6 := x6) (x8 := sI j) (x9 := sL ps) (x10 := sI k) (x11 := x11) (x12 := x12) (x13 := x13) (x14 := x14) (x15 := x15) (x16 := x16) (L := L) (s := s) g3 (by omega)
        refine ⟨_, o4, _, _, _, _, _, _, _, _, _, okC_ins (M := reps m [w]) (s := s) h (by rw [reps_len m w]; exact hm) (fun v hv => ?_), g4, e6.trans ((if_t (b3.trans (by rw [decide_eq_true q3]))).trans (by rw [← hτ]; exact e4))⟩
        rw [reps_mem hv]
        exact more_fine w hw
      · refine ⟨L.reverse, o3, sI s, sI j, sL ps, sI k, x11, x12, x13, x14, x15, okC_rev h, g3, (e6.trans (if_f (b3.trans (by rw [decide_eq_false q3])))).trans ?_⟩
        rw [← hτ]
        refine (set_run (t := TS' L.reverse) (τ1 := G x0 o3 (sL oddL) x3 x4 L x6 (sI s) (sI j) (sL ps) (sI k) x11 x12 x13 x14 x15 x16) (un_run (dv_run rfl) ?_)).trans rfl
        show some (T.lst (L.map T.str).reverse) = some (T.lst (L.reverse.map T.str))
        rw [List.map_reverse]
end TL
set_option Elab.async false
set_option linter.all false
set_option maxRecDepth 100000
set_option maxHeartbeats 0
namespace TL
open PySem PySem.Spec L2

theorem okC_mono {c d : Nat} {L : List Cs} (h : okC c L) (hd : c ≤ d) : okC d L := ⟨h.1, by have := h.2.1; omega, fun l hl => ⟨by have := (h.2.2 l hl).1; omega, (h.2.2 l hl).2⟩⟩
theorem changes_ok {x0 x3 x4 x16 : Option O} : ∀ (ts : List T) {x6 x7 x8 x9 x10 x11 x12 x13 x14 x15 : Option O} {o : O} {L : List Cs} {c : Nat}, IsH o → okC c L → c + ts.length ≤ 2 →
    ∃ (L' : List Cs) (o' : O) (y6 y7 y8 y9 y10 y11 y12 y13 y14 y15 : Option O), okC 2 L' ∧ IsH o' ∧ forL (gN 6) cB ts (G x0 o (sL oddL) x3 x4 L x6 x7 x8 x9 x10 x11 x12 x13 x14 x15 x16) = .ok .nx (G x0 o' (sL oddL) x3 x4 L' y6 y7 y8 y9 y10 y11 y12 y13 y14 y15 x16)
  | [], x6, x7, x8, x9, x10, x11, x12, x13, x14, x15, o, L, c, ho, h, hc => ⟨L, o, x6, x7, x8, x9, x10, x11, x12, x13, x14, x15, okC_mono h (by simp at hc; omega), ho, rfl⟩
  | t :: ts, x6, x7, x8, x9, x10, x11, x12, x13, x14, x15, o, L, c, ho, h, hc => by
    rw [List.length_cons] at hc
    obtain ⟨L1, o1, y7, y8, y9, y10, y11, y12, y13, y14, y15, h1, g1, e1⟩ := change_ok (x0 := x0) (x3 := x3) (x4 := x4) (x6 := some (.fz t)) (x7 := x7) (x8 := x8) (x9 := x9) (x10 := x10) (x11 := x11) (x12 := x12) (x13 := x13) (x14 := x14) (x15 := x15) (x16 := x16) ho h (by omega)
    obtain ⟨L2, o2, z6, z7, z8, z9, z10, z11, z12, z13, z14, z15, h2, g2, e2⟩ := changes_ok ts (x6 := some (.fz t)) (x7 := y7) (x8 := y8) (x9 := y9) (x10 := y10) (x11 := y11) (x12 := y12) (x13 := y13) (x14 := y14) (x15 := y15) g1 h1 (by omega)
    have hg : gN 6 t (G x0 o (sL oddL) x3 x4 L x6 x7 x8 x9 x10 x11 x12 x13 x14 x15 x16) = some (G x0 o (sL oddL) x3 x4 L (some (.fz t)) x7 x8 x9 x10 x11 x12 x13 x14 x15 x16) := rfl
    exact ⟨L2, o2, z6, z7, z8, z9, z10, z11, z12, z13, z14, z15, h2, g2, (forL_nx hg e1).trans e2⟩
theorem fsum_le {k : Nat} : ∀ {l : List Cs}, (∀ w ∈ l, w.length ≤ k) → fsum l ≤ l.length * (k + 1)
  | [], _ => by simp [fsum]
  | w :: l, h => by
    have h1 := h w List.mem_cons_self
    have h2 := fsum_le (l := l) fun v hv => h v (List.mem_cons_of_mem _ hv)
    have e : fsum (w :: l) = w.length + 1 + fsum l := by simp [fsum]
    rw [e, List.length_cons, Nat.add_mul, Nat.one_mul]
    omega
theorem words_fine {n : Nat} (hn : n = 2 ∨ n = 3) {r : Ru} (h : r.ok n) : ∀ w ∈ r.ws, fine w := by
  have := fin_check (P := fun n r => r.ws.all fun w => w.all fun c => decide (c < 128) && decide (c ≠ 10)) (by decide +kernel) (by decide +kernel) hn h
  intro w hw
  have h1 := List.all_eq_true.mp (List.all_eq_true.mp this w hw)
  refine fine_iff.mpr fun c hc => ?_
  have := h1 c hc
  rw [Bool.and_eq_true] at this
  exact ⟨of_decide_eq_true this.1, of_decide_eq_true this.2⟩
theorem head_fine {n : Nat} (hn : n = 2 ∨ n = 3) {z : Cs} (hz : z = [99, 111, 114, 100] ∨ z = [114, 105, 110, 103]) : ∀ w ∈ [z, dig n], fine w := by
  intro w hw
  refine fine_iff.mpr fun c hc => ?_
  rcases List.mem_cons.mp hw with rfl | hw
  · rcases hz with rfl | rfl <;> simp at hc <;> omega
  · rw [List.mem_singleton.mp hw] at hc
    simp [dig] at hc
    omega
theorem start_ok {n : Nat} (hn : n = 2 ∨ n = 3) {z : Cs} (hz : z = [99, 111, 114, 100] ∨ z = [114, 105, 110, 103]) {rs : List Ru} (h : ∀ r ∈ rs, r.ok n) (hl : rs.length ≤ 3) : okC 0 ((bkW n z rs).map (joinL [32])) := by
  refine ⟨by simp [bkW], by simp [bkW]; omega, fun l hm => ⟨by have := row_len hn hz h l hm; omega, ?_⟩⟩
  obtain ⟨ws, hws, rfl⟩ := List.mem_map.mp hm
  refine fine_join ?_
  rcases List.mem_cons.mp hws with rfl | hws
  · exact head_fine hn hz
  · obtain ⟨r, hr, rfl⟩ := List.mem_map.mp hws
    exact words_fine hn (h r hr)
def q4 : DS := (dSet 4 (dOp addT (dC (.int 2)) (nxE (dC (.int 2)))))
def q5 : DS := (dSet 5 (dFz (dCallF 3 [] m__law_lines (dCons (dV 4) (dCons (dFz (dCallF 1 [1] m__law_shape (dNil))) (dCons (dFz (dCallF 2 [1] m__law_rules (dCons (dV 4) (dNil)))) (dNil)))))))
def q6 : DS := (dFor (dRng1 (dCons (dOp addT (dC (.int 1)) (nxE (dC (.int 2)))) (dNil))) (gN 6) cB)
def q7 : DS := (dIfS (dNot (dTru (dFz (dCallF 2 [] (m__law_alike 20) (dCons (dFz (dCallF 1 [] m__law_answer (dCons (dMeth isStr joinG (dC (.str [10])) (dCons (dV 5) (dNil))) (dNil)))) (dCons (dFz (dCallF 1 [] m__law_due (dCons (dV 5) (dNil)))) (dNil))))))) (dRet (dOf (dC (.bl false)))) (dNx))
def qB : DS := dSeq q4 (dSeq q5 (dSeq q6 q7))
abbrev Gx (x0 : Option O) (o : O) (x2 x3 x4 x5 x6 x7 x8 x9 x10 x11 x12 x13 x14 x15 x16 : Option O) : Env := [x0, some o, x2, x3, x4, x5, x6, x7, x8, x9, x10, x11, x12, x13, x14, x15, x16]
theorem q7_run {τ : Env} {L : List Cs} (h5 : τ[5]? = some (sL L)) (h : okC 2 L) : q7 τ = .ok .nx τ := by
  obtain ⟨h1, h2, h3⟩ := h
  have hj := fsum_le (l := L) (k := 42) fun w hw => by have := (h3 w hw).1; omega
  have hjl : L.length * 43 ≤ 10 * 43 := Nat.mul_le_mul_right _ (by omega)
  have hjs := join_fsum (c := 10) L
  cases L with
  | nil => exact absurd rfl h1
  | cons hd tl =>
    obtain ⟨τ1, e1⟩ := answer_ok (hd := hd) (tl := tl) (fun l hl => ⟨by have := (h3 l hl).1; omega, (h3 l hl).2.2⟩) (by omega)
    obtain ⟨τ2, e2⟩ := due_ok (hd := hd) (tl := tl) (fun l hl => ⟨by have := (h3 l hl).1; omega, (h3 l hl).2⟩) (by simp at h2; omega)
    obtain ⟨τ3, e3⟩ := alike_ans (dueA (toks hd) (tl.map toks))
    unfold q7
    refine if_fn (not_t (tru_run (t := .bl true) ?_ rfl))
    refine (fz_run (o := .fz (.bl true)) ?_).trans rfl
    refine call_run (n := 2) (ts := [ansT (dueA (toks hd) (tl.map toks)), ansT (dueA (toks hd) (tl.map toks))]) (τ1 := τ) (cons_run (τ1 := τ) ?_ (cons_run (τ1 := τ) ?_ nil_run)) rfl e3
    · refine (fz_run (o := .fz (ansT (dueA (toks hd) (tl.map toks)))) ?_).trans rfl
      refine call_run (n := 1) (ts := [.str (joinL [10] (hd :: tl))]) (cons_run ?_ nil_run) rfl e1
      exact meth_run (s := .str [10]) dc_run rfl (cons_run (dv_run h5) nil_run) (joinTS10 (by omega))
    · refine (fz_run (o := .fz (ansT (dueA (toks hd) (tl.map toks)))) ?_).trans rfl
      exact call_run (n := 1) (ts := [TS' (hd :: tl)]) (cons_run (dv_run h5) nil_run) rfl e2
theorem turn_ok {x0 x3 x4 x5 x6 x7 x8 x9 x10 x11 x12 x13 x14 x15 x16 : Option O} {o : O} (ho : IsH o) : ∃ (o' : O) (y4 y5 y6 y7 y8 y9 y10 y11 y12 y13 y14 y15 : Option O), IsH o' ∧ qB (Gx x0 o (sL oddL) x3 x4 x5 x6 x7 x8 x9 x10 x11 x12 x13 x14 x15 x16) = .ok .nx (Gx x0 o' (sL oddL) x3 y4 y5 y6 y7 y8 y9 y10 y11 y12 y13 y14 y15 x16) := by
  obtain ⟨v, o1, e1, v1, g1⟩ := nxE_run (d := dC (.int 2)) (cap := 2) (τ := Gx x0 o (sL oddL) x3 x4 x5 x6 x7 x8 x9 x10 x11 x12 x13 x14 x15 x16) rfl dc_run ho (by decide) (by decide)
  have hn : 2 + v = 2 ∨ 2 + v = 3 := by omega
  obtain ⟨z, o2, e2, hz, g2⟩ := shape_ok g1
  obtain ⟨rs, o3, rest, e3, l3, h3, g3⟩ := rules_ok g2 hn
  obtain ⟨τl, e4⟩ := lines_ok hn hz h3 (by omega)
  obtain ⟨u, o4, e5, u1, g4⟩ := nxE_run (d := dC (.int 2)) (cap := 2) (τ := G x0 o3 (sL oddL) x3 (sI (2 + v)) ((bkW (2 + v) z rs).map (joinL [32])) x6 x7 x8 x9 x10 x11 x12 x13 x14 x15 x16) rfl dc_run g3 (by decide) (by decide)
  obtain ⟨L', o5, y6, y7, y8, y9, y10, y11, y12, y13, y14, y15, h6, g5, e6⟩ := changes_ok (x0 := x0) (x3 := x3) (x4 := sI (2 + v)) (x16 := x16) (rngL 0 ((1 + u : Nat) : Int)) (x6 := x6) (x7 := x7) (x8 := x8) (x9 := x9) (x10 := x10) (x11 := x11) (x12 := x12) (x13 := x13) (x14 := x14) (x15 := x15) g4 (start_ok hn hz h3 l3) (by rw [int_len]; omega)
  refine ⟨o5, sI (2 + v), sL L', y6, y7, y8, y9, y10, y11, y12, y13, y14, y15, g5, ?_⟩
  unfold qB
  refine (seq_run (τ1 := Gx x0 o1 (sL oddL) x3 (sI (2 + v)) x5 x6 x7 x8 x9 x10 x11 x12 x13 x14 x15 x16) ?_).trans ?_
  · unfold q4
    refine (set_run (t := .int ((2 + v : Nat) : Int)) (τ1 := Gx x0 o1 (sL oddL) x3 x4 x5 x6 x7 x8 x9 x10 x11 x12 x13 x14 x15 x16) (op_run dc_run (e1.trans rfl) ?_)).trans rfl
    show some (T.int (2 + (v : Int))) = some (T.int ((2 + v : Nat) : Int))
    congr 2
  refine (seq_run (τ1 := G x0 o3 (sL oddL) x3 (sI (2 + v)) ((bkW (2 + v) z rs).map (joinL [32])) x6 x7 x8 x9 x10 x11 x12 x13 x14 x15 x16) ?_).trans ?_
  · unfold q5
    refine (set_run (t := TS' ((bkW (2 + v) z rs).map (joinL [32]))) (τ1 := Gx x0 o3 (sL oddL) x3 (sI (2 + v)) x5 x6 x7 x8 x9 x10 x11 x12 x13 x14 x15 x16) (fzl_run ?_)).trans rfl
    refine call_run (n := 3) (ts := [.int ((2 + v : Nat) : Int), .str z, .tup (rs.map Ru.t)]) (cons_run (dv_run rfl) (cons_run (τ1 := Gx x0 o2 (sL oddL) x3 (sI (2 + v)) x5 x6 x7 x8 x9 x10 x11 x12 x13 x14 x15 x16) ?_ (cons_run ?_ nil_run))) rfl e4
    · refine ((fz_run (o := .fz (.str z)) ?_).trans rfl)
      exact call_run1 (i := 1) (ts := []) (o2 := o2) (τ1 := Gx x0 o1 (sL oddL) x3 (sI (2 + v)) x5 x6 x7 x8 x9 x10 x11 x12 x13 x14 x15 x16) rfl nil_run rfl rfl e2
    · refine ((fz_run (o := .fz (.tup (rs.map Ru.t))) ?_).trans rfl)
      exact call_run1 (i := 1) (ts := [.int ((2 + v : Nat) : Int)]) (o2 := o3) (τ1 := Gx x0 o2 (sL oddL) x3 (sI (2 + v)) x5 x6 x7 x8 x9 x10 x11 x12 x13 x14 x15 x16) rfl (cons_run (dv_run rfl) nil_run) rfl rfl e3
  refine (seq_run (τ1 := G x0 o5 (sL oddL) x3 (sI (2 + v)) L' y6 y7 y8 y9 y10 y11 y12 y13 y14 y15 x16) ?_).trans (q7_run rfl h6)
  unfold q6
  refine (for_run (ts := rngL 0 ((1 + u : Nat) : Int)) (τ1 := G x0 o4 (sL oddL) x3 (sI (2 + v)) ((bkW (2 + v) z rs).map (joinL [32])) x6 x7 x8 x9 x10 x11 x12 x13 x14 x15 x16) (rng1_run (op_run dc_run (e5.trans rfl) ?_) (inR_nat (by omega)))).trans e6
  show some (T.int (1 + (u : Int))) = some (T.int ((1 + u : Nat) : Int))
  congr 2
theorem turns_ok {x0 x16 : Option O} : ∀ (ts : List T) {x3 x4 x5 x6 x7 x8 x9 x10 x11 x12 x13 x14 x15 : Option O} {o : O}, IsH o → ∃ (o' : O) (y3 y4 y5 y6 y7 y8 y9 y10 y11 y12 y13 y14 y15 : Option O), forL (gN 3) qB ts (Gx x0 o (sL oddL) x3 x4 x5 x6 x7 x8 x9 x10 x11 x12 x13 x14 x15 x16) = .ok .nx (Gx x0 o' (sL oddL) y3 y4 y5 y6 y7 y8 y9 y10 y11 y12 y13 y14 y15 x16)
  | [], x3, x4, x5, x6, x7, x8, x9, x10, x11, x12, x13, x14, x15, o, _ => ⟨o, x3, x4, x5, x6, x7, x8, x9, x10, x11, x12, x13, x14, x15, rfl⟩
  | t :: ts, x3, x4, x5, x6, x7, x8, x9, x10, x11, x12, x13, x14, x15, o, ho => by
    obtain ⟨o1, y4, y5, y6, y7, y8, y9, y10, y11, y12, y13, y14, y15, g1, e1⟩ := turn_ok (x0 := x0) (x3 := some (.fz t)) (x4 := x4) (x5 := x5) (x6 := x6) (x7 := x7) (x8 := x8) (x9 := x9) (x10 := x10) (x11 := x11) (x12 := x12) (x13 := x13) (x14 := x14) (x15 := x15) (x16 := x16) ho
    obtain ⟨o2, z3, z4, z5, z6, z7, z8, z9, z10, z11, z12, z13, z14, z15, e2⟩ := turns_ok ts (x3 := some (.fz t)) (x4 := y4) (x5 := y5) (x6 := y6) (x7 := y7) (x8 := y8) (x9 := y9) (x10 := y10) (x11 := y11) (x12 := y12) (x13 := y13) (x14 := y14) (x15 := y15) g1
    have hg : gN 3 t (Gx x0 o (sL oddL) x3 x4 x5 x6 x7 x8 x9 x10 x11 x12 x13 x14 x15 x16) = some (Gx x0 o (sL oddL) (some (.fz t)) x4 x5 x6 x7 x8 x9 x10 x11 x12 x13 x14 x15 x16) := rfl
    exact ⟨o2, z3, z4, z5, z6, z7, z8, z9, z10, z11, z12, z13, z14, z15, (forL_nx hg e1).trans e2⟩
/-! the three texts at the end -/
theorem lc_ans {τ : Env} (hi : τ[16]? = some none) : ∀ ps : List (Cs × T), (∀ p ∈ ps, ∃ τ', m__law_answer [some (.fz (.str p.1))] = .ok (.fz p.2) τ') → lcL (gN 16) dYes (dFz (dCallF 1 [] m__law_answer (dCons (dV 16) (dNil)))) [16] (ps.map fun p : Cs × T => T.str p.1) τ = .ok (ps.map fun p : Cs × T => p.2) τ
  | [], _ => rfl
  | (s, t) :: ps, h => by
    obtain ⟨τ', e⟩ := h (s, t) List.mem_cons_self
    have ih := lc_ans hi ps fun p hp => h p (List.mem_cons_of_mem _ hp)
    have hd : dFz (dCallF 1 [] m__law_answer (dCons (dV 16) (dNil))) (τ.set 16 (some (.fz (.str s)))) = .ok t (τ.set 16 (some (.fz (.str s)))) := (fz_run (o := .fz t) (call_run (n := 1) (ts := [.str s]) (cons_run (dv_run (get_set hi)) nil_run) rfl e)).trans rfl
    rw [List.map_cons, lcL, gN_ok hi]
    simp only [dYes, R.noX, R.bind_ok, hd, wipe_same hi, ih, R.map_ok, List.map_cons]
def endP : List (Cs × T) := [([], .tup [.int 1, .int 1]), ([114, 105, 110, 103, 32, 50, 10], .tup [.int 2, .int 1]), ([114, 105, 110, 103, 32, 50, 32, 50], .tup [.int 1, .int 3])]
theorem end_ans : ∀ p ∈ endP, ∃ τ', m__law_answer [some (.fz (.str p.1))] = .ok (.fz p.2) τ' := by
  intro p hp
  have hm : p = ([], .tup [.int 1, .int 1]) ∨ p = ([114, 105, 110, 103, 32, 50, 10], .tup [.int 2, .int 1]) ∨ p = ([114, 105, 110, 103, 32, 50, 32, 50], .tup [.int 1, .int 3]) := by simpa [endP] using hp
  rcases hm with rfl | rfl | rfl
  · exact answer_ok (hd := []) (tl := []) (by simp) (by decide)
  · exact answer_ok (hd := [114, 105, 110, 103, 32, 50]) (tl := [[]]) (by simp) (by decide)
  · exact answer_ok (hd := [114, 105, 110, 103, 32, 50, 32, 50]) (tl := []) (by simp) (by decide)
theorem end_eq : eqT (.lst (endP.map fun p : Cs × T => p.2)) (.lst (endP.map fun p : Cs × T => p.2)) = some (.bl true) := isBl_ok (by decide +kernel)
def eE : DE := dOp eqT (dFz (dLc (dItems (dFz (dLst (dCons (dC (.str [])) (dCons (dC (.str [114, 105, 110, 103, 32, 50, 10])) (dCons (dC (.str [114, 105, 110, 103, 32, 50, 32, 50])) (dNil))))))) (gN 16) (dYes) (dFz (dCallF 1 [] m__law_answer (dCons (dV 16) (dNil)))) [16])) (dFz (dLst (dCons (dTup (dCons (dC (.int 1)) (dCons (dC (.int 1)) (dNil)))) (dCons (dTup (dCons (dC (.int 2)) (dCons (dC (.int 1)) (dNil)))) (dCons (dTup (dCons (dC (.int 1)) (dCons (dC (.int 3)) (dNil)))) (dNil))))))
theorem eE_run {τ : Env} (hi : τ[16]? = some none) : eE τ = .ok (.bl true) τ := by
  refine op_run (s := .lst (endP.map fun p : Cs × T => p.2)) (t := .lst (endP.map fun p : Cs × T => p.2)) (τ1 := τ) (fzl_run ?_) ?_ end_eq
  · refine lc_run (ts := endP.map fun p : Cs × T => T.str p.1) (τ1 := τ) (items_run (t := .lst (endP.map fun p : Cs × T => T.str p.1)) (fzst_run (cons_run dc_run (cons_run dc_run (cons_run dc_run nil_run))) (by simp [endP])) rfl) (by simp [endP]) ?_
    have : wipeE τ [16] = τ := set_none hi
    rw [this]
    exact lc_ans hi endP end_ans
  · exact fzst_run (ts := endP.map fun p : Cs × T => p.2) (cons_run (tup_run (cons_run dc_run (cons_run dc_run nil_run)) (by simp)) (cons_run (tup_run (cons_run dc_run (cons_run dc_run nil_run)) (by simp)) (cons_run (tup_run (cons_run dc_run (cons_run dc_run nil_run)) (by simp)) nil_run))) (by simp [endP])
def o1D : DE := (dFz (dLst (dCons (dC (.str [])) (dCons (dC (.str [48])) (dCons (dC (.str [49])) (dCons (dC (.str [50])) (dCons (dC (.str [51])) (dCons (dC (.str [52])) (dCons (dC (.str [48, 50])) (dCons (dC (.str [97])) (dCons (dC (.str [98])) (dCons (dC (.str [99])) (dCons (dC (.str [100])) (dCons (dC (.str [99, 111, 114, 100])) (dCons (dC (.str [114, 105, 110, 103])) (dNil))))))))))))))))
def o2D : DE := (dOp addT (dV 2) (dFz (dLst (dCons (dC (.str [109, 111, 115, 116])) (dCons (dC (.str [98, 101, 115, 105, 100, 101])) (dCons (dC (.str [97, 98])) (dNil)))))))
theorem law_true (ns : List Int) (h : ns.length ≤ 63) : ∃ τ, m_law [some (.fz (.scr ns))] = .ok (.fz (.bl true)) τ := by
  obtain ⟨o, τm, em, ho⟩ := mix_ok (seed := 18) h
  obtain ⟨o', y3, y4, y5, y6, y7, y8, y9, y10, y11, y12, y13, y14, y15, et⟩ := turns_ok (x0 := some (.fz (.scr ns))) (x16 := none) (rngL 0 6) (x3 := none) (x4 := none) (x5 := none) (x6 := none) (x7 := none) (x8 := none) (x9 := none) (x10 := none) (x11 := none) (x12 := none) (x13 := none) (x14 := none) (x15 := none) ho
  refine ⟨Gx (some (.fz (.scr ns))) o' (sL oddL) y3 y4 y5 y6 y7 y8 y9 y10 y11 y12 y13 y14 y15 none, fn_run (d := D_law) (τ0 := [some (.fz (.scr ns)), none, none, none, none, none, none, none, none, none, none, none, none, none, none, none, none]) rfl ?_⟩
  have hD : D_law = dSeq (dSetO 1 (dCallF 2 [] m__law_mix (dCons (dV 0) (dCons (dC (.int 18)) (dNil))))) (dSeq (dSet 2 o1D) (dSeq (dSet 2 o2D) (dSeq (dFor (dRng1 (dCons (dC (.int 6)) (dNil))) (gN 3) qB) (dRet (dOf eE))))) := rfl
  rw [hD]
  refine (seq_run (τ1 := Gx (some (.fz (.scr ns))) o none none none none none none none none none none none none none none none) ?_).trans ?_
  · refine (setO_run (τ1 := [some (.fz (.scr ns)), none, none, none, none, none, none, none, none, none, none, none, none, none, none, none, none]) (call_run (n := 2) (ts := [.scr ns, .int 18]) (cons_run (dv_run rfl) (cons_run dc_run nil_run)) rfl em) (by simp)).trans rfl
  refine (seq_run (τ1 := Gx (some (.fz (.scr ns))) o (sL (oddL.take 13)) none none none none none none none none none none none none none none) ?_).trans ?_
  · refine (set_run (t := TS' (oddL.take 13)) (τ1 := Gx (some (.fz (.scr ns))) o none none none none none none none none none none none none none none none) ?_).trans rfl
    exact fzst_run (ts := (oddL.take 13).map .str) (cons_run dc_run (cons_run dc_run (cons_run dc_run (cons_run dc_run (cons_run dc_run (cons_run dc_run (cons_run dc_run (cons_run dc_run (cons_run dc_run (cons_run dc_run (cons_run dc_run (cons_run dc_run (cons_run dc_run nil_run))))))))))))) (by decide)
  refine (seq_run (τ1 := Gx (some (.fz (.scr ns))) o (sL oddL) none none none none none none none none none none none none none none) ?_).trans ?_
  · refine (set_run (t := TS' oddL) (τ1 := Gx (some (.fz (.scr ns))) o (sL (oddL.take 13)) none none none none none none none none none none none none none none) ?_).trans rfl
    exact op_run (s := TS' (oddL.take 13)) (t := TS' (oddL.drop 13)) (dv_run rfl) (fzst_run (ts := (oddL.drop 13).map .str) (cons_run dc_run (cons_run dc_run (cons_run dc_run nil_run))) (by decide)) ((addTS (by decide)).trans rfl)
  refine (seq_run (τ1 := Gx (some (.fz (.scr ns))) o' (sL oddL) y3 y4 y5 y6 y7 y8 y9 y10 y11 y12 y13 y14 y15 none) ?_).trans (ret_run (of_run (eE_run rfl)))
  exact (for_run (ts := rngL 0 6) (rng1_run dc_run rfl)).trans et
end TL
set_option maxHeartbeats 0
namespace TL
open PySem PySem.Spec L2
theorem end_law {P : Program} {w : World} {K : PySem.W.Frag} {h : Heap} {mg : Str → Option Value} {fa : Addr} (X : K.In h) (G : h.Ns mainGlobals mg) (hfa : mg ("law" : Str) = some (.ref fa)) (c : SaysP exL fnL K) (hP1 : ((P.main.file : Str) == "/claim/cut.py") = true) (hP2 : (P.main.scope.names.lookup ("super" : Str)).isSome = false) :
    ∃ (fd : FuncData) (sp : Sp), (∀ (s : Shared) (u : Value), BindsTo s fd ⟨[u], []⟩ [("_law_script", u)]) ∧ (∀ (H : Hp) (a : Addr) (ns : List Int), ns.length ≤ 63 → L2.Only H → SqL K H a (ns.map V.int) → sp [.ref a] H (fun v _ => v = .bl true) fun _ _ _ => False) ∧
      ∀ base : Heap, K.In base → base.Ns mainGlobals mg → FnOk P w K mg base L2.CX0 22 fa fd ["_law_script"] sp := by
  have e := hfa.symm.trans (He.glo_ok X G (c.fact 61 (b := fun K => (He.Fa.glo "law").ok K)))
  cases e
  obtain ⟨fd, F⟩ := c.def_ 24 (d := ⟨fun K => He.ga K "law", "law", "law", S_law, []⟩)
  have b := FunD.bindsA (ps := ["_law_script"]) F fun _ _ _ _ _ _ us hl => match us, hl with | [_], _ => rfl
  refine ⟨fd, fun vs H Q _ => spM (gam K (clK K)) 1 [] m_law vs H Q fun _ _ _ => False, fun s v => b s [v] rfl, fun H a ns hn _ hS => ?_, fun base _ _ => ?_⟩
  · exact sp_law hS (law_true ns hn)
  · obtain ⟨fd', F', C⟩ := ok_all (P := P) (w := w) (base := base) X G c hP1 hP2
    rw [funD_eq F F']
    exact fnOk_0 C


end TL
open PySem PySem.W PySem.Calls PyProof.Rows
theorem PySem.Challenge.cw_beadrules_k18_texts_refused_holds : PySem.Challenge.rw_beadrules_k18_texts_refused.Holds := by
  w_on; o_law
  refine HandSHeadRun.head_any (r := OpenLaw.row PySem.Challenge.rw_beadrules_k18_texts_refused) (q := view (OpenLaw.row PySem.Challenge.rw_beadrules_k18_texts_refused).prog [32]) (H := TL.hk) (ob := TL.ob) (M := 6000) (loose := TL.names0) (d := HandSHeadRun.topDef (OpenLaw.row PySem.Challenge.rw_beadrules_k18_texts_refused).prog 32) (kwd := []) TL.ob_eq
    (by kernel_rfl) (fun s => by kernel_rfl) TL.run (by kernel_rfl) (by kernel_rfl) (by kernel_rfl) (by rfl) (by first | assumption | decide +kernel) (by decide +kernel) ⟨rfl, rfl, rfl, rfl, rfl, by decide +kernel⟩ ?hw ?hc
  case hw => w_witness2
  case hc =>
    refine L2.walk_ofE (l := PySem.Challenge.rw_beadrules_k18_texts_refused) (n := 63) (k := 22) (x := "_law_script") (CX := L2.CX0) rfl (by decide) (by kernel_rfl) ⟨rfl, by decide, by decide⟩ ?F (fun _ _ _ _ z => z)
    intro w mg fa h Y G hmg0
    obtain ⟨K, KX, c⟩ := Y
    have hmg : mg ("law" : PySem.Str) = some (.ref fa) := by
      have e : (HandSHeadRun.topDef (OpenLaw.row PySem.Challenge.rw_beadrules_k18_texts_refused).prog 32).name = ("law" : PySem.Str) := by kernel_rfl
      rw [← e]
      exact hmg0
    obtain ⟨fd, sp, h1, h2, h3⟩ := TL.end_law (P := (PySem.Challenge.rw_beadrules_k18_texts_refused).prog) (w := w) KX G hmg c (by kernel_rfl) (by kernel_rfl)
    exact ⟨K, fd, sp, KX, h1, h2, h3⟩

