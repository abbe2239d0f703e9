import PyProof.Rows.All
import HandS.ForMost
import HandS.Exc
import HandS.WordsExc
import HandS.TupAny
import HandS.Deep
import HandS.Flow
import HandS.Style
import PyProof.P3In
import HandS.Defaults
import HandS.ExcOwn
import HandS.Zip
import HandS.Iter
import HandS.SortInts
import HandS.SortRule
import HandS.SortKw
import HandS.More
import HandS.WordsDict
import KE.KDictList
import PyProof.ReprRoads
import PyProof.CallFns
import HandS.MakeKw
import HandS.MakeKwOnly
import KE.DataMinKey
import HandS.HeadEnd
import HandS.HeadHook2
import HandS.Head2
import PySem.Challenge.RW_nonearer_k77_whole_everything_near
set_option Elab.async false
set_option linter.all false
set_option maxHeartbeats 4000000
set_option maxRecDepth 100000
set_option exponentiation.threshold 4000
namespace Fw
open PySem L2

inductive D where
  | non | bl (b : Bool) | int (i : Int) | str (s : Str)
  | lst (xs : List D) | tup (xs : List D) | dic (kvs : List (Key × D)) | obj (n : Nat) | val (v : V) | scr (ns : List Int) | bdic (kvs : List (Key × D))
  deriving Inhabited
def ScrAt (K : PySem.W.Frag) (F : Hp) (a : Addr) (o : Obj) (vs : List V) : Prop := F a = some (.frz o (.lst vs)) ∨ SqL K (fun _ => none) a vs
abbrev TupAt (_ : PySem.W.Frag) (F : Hp) (a : Addr) (vs : List V) : Prop := F a = some (.tup vs)
mutual
def Rp (K : PySem.W.Frag) (ρ : List Addr) (F : Hp) : D → V → Prop
  | .non, v => v = .non
  | .bl b, v => v = .bl b
  | .int i, v => v = .int i
  | .str s, v => v = .str s
  | .lst ds, v => ∃ a vs, v = .ref a ∧ F a = some (.lst vs) ∧ RpL K ρ F ds vs
  | .tup ds, v => ∃ a vs, v = .ref a ∧ TupAt K F a vs ∧ RpL K ρ F ds vs
  | .dic ds, v => ∃ a vs od, v = .ref a ∧ F a = some (.frz od (.dK vs)) ∧ RpK K ρ F ds vs
  | .bdic ds, v => ∃ a vs, v = .ref a ∧ F a = some (.dK vs) ∧ RpK K ρ F ds vs
  | .obj n, v => ∃ a, v = .ref a ∧ ρ[n]? = some a
  | .val u, v => v = u
  | .scr ns, v => ∃ a o, v = .ref a ∧ ScrAt K F a o (ns.map V.int)
def RpL (K : PySem.W.Frag) (ρ : List Addr) (F : Hp) : List D → List V → Prop
  | [], vs => vs = []
  | d :: ds, vs => ∃ v r, vs = v :: r ∧ Rp K ρ F d v ∧ RpL K ρ F ds r
def RpK (K : PySem.W.Frag) (ρ : List Addr) (F : Hp) : List (Key × D) → List (Key × V) → Prop
  | [], vs => vs = []
  | (k, d) :: ds, vs => ∃ v r, vs = (k, v) :: r ∧ Rp K ρ F d v ∧ RpK K ρ F ds r
end
/-- attributes -/
def RpF (K : PySem.W.Frag) (ρ : List Addr) (F : Hp) : List (Str × D) → List (Str × V) → Prop
  | [], vs => vs = []
  | (k, d) :: ds, vs => ∃ v r, vs = (k, v) :: r ∧ Rp K ρ F d v ∧ RpF K ρ F ds r
mutual
def D.imm : D → Bool
  | .lst _ => false
  | .dic _ => false
  | .bdic _ => false
  | .scr _ => false
  | .tup ds => immL ds
  | _ => true
def immL : List D → Bool
  | [] => true
  | d :: ds => D.imm d && immL ds
end
def immK (ks : List (Key × D)) : Bool := ks.all fun p => p.2.imm
def immF (ks : List (Str × D)) : Bool := ks.all fun p => p.2.imm

/-- what holds of F and ρ stays when both grow -/
structure Gro (ρ ρ' : List Addr) (F F' : Hp) : Prop where
  f : ∀ a u, F a = some u → F' a = some u
  r : ∀ (n : Nat) a, ρ[n]? = some a → ρ'[n]? = some a
theorem ScrAt.mono {K : PySem.W.Frag} {ρ ρ' : List Addr} {F F' : Hp} {a : Addr} {o : Obj} {vs : List V} (g : Gro ρ ρ' F F') (h : ScrAt K F a o vs) : ScrAt K F' a o vs := h.elim (fun h => .inl (g.f _ _ h)) .inr
theorem Gro.refl (ρ : List Addr) (F : Hp) : Gro ρ ρ F F := ⟨fun _ _ h => h, fun _ _ h => h⟩
mutual
theorem Rp.mono {K : PySem.W.Frag} {ρ ρ' : List Addr} {F F' : Hp} (g : Gro ρ ρ' F F') : ∀ (d : D) (v : V), Rp K ρ F d v → Rp K ρ' F' d v
  | .non, v, h => by simpa only [Rp] using h
  | .bl b, v, h => by simpa only [Rp] using h
  | .int i, v, h => by simpa only [Rp] using h
  | .str s, v, h => by simpa only [Rp] using h
  | .lst ds, v, h => by
    simp only [Rp] at h ⊢
    obtain ⟨a, vs, e, h1, h2⟩ := h
    exact ⟨a, vs, e, g.f _ _ h1, RpL.mono g ds vs h2⟩
  | .tup ds, v, h => by
    simp only [Rp] at h ⊢
    obtain ⟨a, vs, e, h1, h2⟩ := h
    exact ⟨a, vs, e, g.f _ _ h1, RpL.mono g ds vs h2⟩
  | .dic ds, v, h => by
    simp only [Rp] at h ⊢
    obtain ⟨a, vs, od, e, h1, h2⟩ := h
    exact ⟨a, vs, od, e, g.f _ _ h1, RpK.mono g ds vs h2⟩
  | .bdic ds, v, h => by
    simp only [Rp] at h ⊢
    obtain ⟨a, vs, e, h1, h2⟩ := h
    exact ⟨a, vs, e, g.f _ _ h1, RpK.mono g ds vs h2⟩
  | .obj n, v, h => by
    simp only [Rp] at h ⊢
    obtain ⟨a, e, h1⟩ := h
    exact ⟨a, e, g.r _ _ h1⟩
  | .val u, v, h => by simpa only [Rp] using h
  | .scr ns, v, h => by
    simp only [Rp] at h ⊢
    obtain ⟨a, o, e, h1⟩ := h
    exact ⟨a, o, e, ScrAt.mono g h1⟩
theorem RpL.mono {K : PySem.W.Frag} {ρ ρ' : List Addr} {F F' : Hp} (g : Gro ρ ρ' F F') : ∀ (ds : List D) (vs : List V), RpL K ρ F ds vs → RpL K ρ' F' ds vs
  | [], vs, h => by simpa only [RpL] using h
  | d :: ds, vs, h => by
    simp only [RpL] at h ⊢
    obtain ⟨v, r, e, h1, h2⟩ := h
    exact ⟨v, r, e, Rp.mono g d v h1, RpL.mono g ds r h2⟩
theorem RpK.mono {K : PySem.W.Frag} {ρ ρ' : List Addr} {F F' : Hp} (g : Gro ρ ρ' F F') : ∀ (ds : List (Key × D)) (vs : List (Key × V)), RpK K ρ F ds vs → RpK K ρ' F' ds vs
  | [], vs, h => by simpa only [RpK] using h
  | (k, d) :: ds, vs, h => by
    simp only [RpK] at h ⊢
    obtain ⟨v, r, e, h1, h2⟩ := h
    exact ⟨v, r, e, Rp.mono g d v h1, RpK.mono g ds r h2⟩
end
theorem RpF.mono {K : PySem.W.Frag} {ρ ρ' : List Addr} {F F' : Hp} (g : Gro ρ ρ' F F') : ∀ (ds : List (Str × D)) (vs : List (Str × V)), RpF K ρ F ds vs → RpF K ρ' F' ds vs
  | [], vs, h => by simpa only [RpF] using h
  | (k, d) :: ds, vs, h => by
    simp only [RpF] at h ⊢
    obtain ⟨v, r, e, h1, h2⟩ := h
    exact ⟨v, r, e, Rp.mono g d v h1, RpF.mono g ds r h2⟩
/-- data without lists and dicts lean on tuples alone -/
structure GroT (ρ ρ' : List Addr) (F F' : Hp) : Prop where
  f : ∀ a u, F a = some (.tup u) → F' a = some (.tup u)
  r : ∀ (n : Nat) a, ρ[n]? = some a → ρ'[n]? = some a
mutual
theorem Rp.monoT {K : PySem.W.Frag} {ρ ρ' : List Addr} {F F' : Hp} (g : GroT ρ ρ' F F') : ∀ (d : D) (v : V), d.imm = true → Rp K ρ F d v → Rp K ρ' F' d v
  | .non, v, _, h => by simpa only [Rp] using h
  | .bl b, v, _, h => by simpa only [Rp] using h
  | .int i, v, _, h => by simpa only [Rp] using h
  | .str s, v, _, h => by simpa only [Rp] using h
  | .lst ds, v, i, h => by simp only [D.imm] at i; cases i
  | .tup ds, v, i, h => by
    simp only [Rp] at h ⊢
    obtain ⟨a, vs, e, h1, h2⟩ := h
    exact ⟨a, vs, e, g.f _ _ h1, RpL.monoT g ds vs (by simpa only [D.imm] using i) h2⟩
  | .dic ds, v, i, h => by simp only [D.imm] at i; cases i
  | .bdic ds, v, i, h => by simp only [D.imm] at i; cases i
  | .obj n, v, _, h => by
    simp only [Rp] at h ⊢
    obtain ⟨a, e, h1⟩ := h
    exact ⟨a, e, g.r _ _ h1⟩
  | .val u, v, _, h => by simpa only [Rp] using h
  | .scr ns, v, i, h => by simp only [D.imm] at i; cases i
theorem RpL.monoT {K : PySem.W.Frag} {ρ ρ' : List Addr} {F F' : Hp} (g : GroT ρ ρ' F F') : ∀ (ds : List D) (vs : List V), immL ds = true → RpL K ρ F ds vs → RpL K ρ' F' ds vs
  | [], vs, _, h => by simpa only [RpL] using h
  | d :: ds, vs, i, h => by
    simp only [RpL] at h ⊢
    simp only [immL, Bool.and_eq_true] at i
    obtain ⟨v, r, e, h1, h2⟩ := h
    exact ⟨v, r, e, Rp.monoT g d v i.1 h1, RpL.monoT g ds r i.2 h2⟩
end
theorem RpK.monoT {K : PySem.W.Frag} {ρ ρ' : List Addr} {F F' : Hp} (g : GroT ρ ρ' F F') : ∀ (ds : List (Key × D)) (vs : List (Key × V)), immK ds = true → RpK K ρ F ds vs → RpK K ρ' F' ds vs
  | [], vs, _, h => by simpa only [RpK] using h
  | (k, d) :: ds, vs, i, h => by
    simp only [RpK] at h ⊢
    simp only [immK, List.all_cons, Bool.and_eq_true] at i
    obtain ⟨v, r, e, h1, h2⟩ := h
    exact ⟨v, r, e, Rp.monoT g d v i.1 h1, RpK.monoT g ds r i.2 h2⟩
theorem RpF.monoT {K : PySem.W.Frag} {ρ ρ' : List Addr} {F F' : Hp} (g : GroT ρ ρ' F F') : ∀ (ds : List (Str × D)) (vs : List (Str × V)), immF ds = true → RpF K ρ F ds vs → RpF K ρ' F' ds vs
  | [], vs, _, h => by simpa only [RpF] using h
  | (k, d) :: ds, vs, i, h => by
    simp only [RpF] at h ⊢
    simp only [immF, List.all_cons, Bool.and_eq_true] at i
    obtain ⟨v, r, e, h1, h2⟩ := h
    exact ⟨v, r, e, Rp.monoT g d v i.1 h1, RpF.monoT g ds r i.2 h2⟩

/-! ### RpL and lists -/
section
variable {K : PySem.W.Frag} {ρ : List Addr} {F : Hp}
theorem RpL.length : ∀ {ds : List D} {vs : List V}, RpL K ρ F ds vs → vs.length = ds.length
  | [], vs, h => by simp only [RpL] at h; subst h; rfl
  | d :: ds, vs, h => by
    simp only [RpL] at h
    obtain ⟨v, r, rfl, _, h2⟩ := h
    simp [RpL.length h2]
theorem RpL.nil : RpL K ρ F [] [] := by simp only [RpL]
theorem RpL.cons {d : D} {v : V} {ds : List D} {vs : List V} (h : Rp K ρ F d v) (hs : RpL K ρ F ds vs) : RpL K ρ F (d :: ds) (v :: vs) := by
  simp only [RpL]
  exact ⟨v, vs, rfl, h, hs⟩
theorem RpL.inv {d : D} {ds : List D} {vs : List V} (h : RpL K ρ F (d :: ds) vs) : ∃ v r, vs = v :: r ∧ Rp K ρ F d v ∧ RpL K ρ F ds r := by
  simpa only [RpL] using h
theorem RpL.inv0 {vs : List V} (h : RpL K ρ F [] vs) : vs = [] := by simpa only [RpL] using h
theorem RpL.get : ∀ {ds : List D} {vs : List V} {i : Nat} {d : D}, RpL K ρ F ds vs → ds[i]? = some d → ∃ v, vs[i]? = some v ∧ Rp K ρ F d v
  | [], vs, i, d, h, e => by simp at e
  | d0 :: ds, vs, 0, d, h, e => by
    obtain ⟨v, r, rfl, h1, _⟩ := h.inv
    simp at e; subst e
    exact ⟨v, rfl, h1⟩
  | d0 :: ds, vs, i + 1, d, h, e => by
    obtain ⟨v, r, rfl, _, h2⟩ := h.inv
    obtain ⟨w, e1, e2⟩ := RpL.get (i := i) h2 (by simpa using e)
    exact ⟨w, by simpa using e1, e2⟩
theorem RpL.back : ∀ {ds : List D} {vs : List V} {i : Nat} {v : V}, RpL K ρ F ds vs → vs[i]? = some v → ∃ d, ds[i]? = some d ∧ Rp K ρ F d v
  | [], vs, i, v, h, e => by obtain rfl := h.inv0; simp at e
  | d0 :: ds, vs, 0, v, h, e => by
    obtain ⟨v', r, rfl, h1, _⟩ := h.inv
    simp at e; subst e
    exact ⟨d0, rfl, h1⟩
  | d0 :: ds, vs, i + 1, v, h, e => by
    obtain ⟨v', r, rfl, _, h2⟩ := h.inv
    obtain ⟨w, e1, e2⟩ := RpL.back (i := i) h2 (by simpa using e)
    exact ⟨w, by simpa using e1, e2⟩
theorem RpL.append : ∀ {ds es : List D} {vs us : List V}, RpL K ρ F ds vs → RpL K ρ F es us → RpL K ρ F (ds ++ es) (vs ++ us)
  | [], es, vs, us, h, q => by obtain rfl := h.inv0; simpa using q
  | d :: ds, es, vs, us, h, q => by
    obtain ⟨v, r, rfl, h1, h2⟩ := h.inv
    exact .cons h1 (RpL.append h2 q)
theorem RpL.take : ∀ {ds : List D} {vs : List V} (n : Nat), RpL K ρ F ds vs → RpL K ρ F (ds.take n) (vs.take n)
  | ds, vs, 0, h => by simpa using RpL.nil
  | [], vs, n + 1, h => by obtain rfl := h.inv0; simpa using RpL.nil
  | d :: ds, vs, n + 1, h => by
    obtain ⟨v, r, rfl, h1, h2⟩ := h.inv
    exact .cons h1 (RpL.take n h2)
theorem RpL.drop : ∀ {ds : List D} {vs : List V} (n : Nat), RpL K ρ F ds vs → RpL K ρ F (ds.drop n) (vs.drop n)
  | ds, vs, 0, h => by simpa using h
  | [], vs, n + 1, h => by obtain rfl := h.inv0; simpa using RpL.nil
  | d :: ds, vs, n + 1, h => by
    obtain ⟨v, r, rfl, h1, h2⟩ := h.inv
    simpa using RpL.drop n h2
theorem RpL.set : ∀ {ds : List D} {vs : List V} (n : Nat) {d : D} {v : V}, RpL K ρ F ds vs → Rp K ρ F d v → RpL K ρ F (ds.set n d) (vs.set n v)
  | [], vs, n, d, v, h, q => by obtain rfl := h.inv0; simpa using RpL.nil
  | d0 :: ds, vs, 0, d, v, h, q => by
    obtain ⟨v', r, rfl, h1, h2⟩ := h.inv
    exact .cons q h2
  | d0 :: ds, vs, n + 1, d, v, h, q => by
    obtain ⟨v', r, rfl, h1, h2⟩ := h.inv
    exact .cons h1 (RpL.set n h2 q)
theorem RpL.reverse : ∀ {ds : List D} {vs : List V}, RpL K ρ F ds vs → RpL K ρ F ds.reverse vs.reverse
  | [], vs, h => by obtain rfl := h.inv0; simpa using RpL.nil
  | d :: ds, vs, h => by
    obtain ⟨v, r, rfl, h1, h2⟩ := h.inv
    rw [List.reverse_cons, List.reverse_cons]
    exact (RpL.reverse h2).append (.cons h1 .nil)
theorem RpK.inv {k : Key} {d : D} {ds : List (Key × D)} {vs : List (Key × V)} (h : RpK K ρ F ((k, d) :: ds) vs) : ∃ v r, vs = (k, v) :: r ∧ Rp K ρ F d v ∧ RpK K ρ F ds r := by
  simpa only [RpK] using h
theorem RpK.inv0 {vs : List (Key × V)} (h : RpK K ρ F [] vs) : vs = [] := by simpa only [RpK] using h
theorem RpK.nil : RpK K ρ F [] [] := by simp only [RpK]
theorem RpK.cons {k : Key} {d : D} {v : V} {ds : List (Key × D)} {vs : List (Key × V)} (h : Rp K ρ F d v) (hs : RpK K ρ F ds vs) : RpK K ρ F ((k, d) :: ds) ((k, v) :: vs) := by
  simp only [RpK]
  exact ⟨v, vs, rfl, h, hs⟩
theorem RpK.length : ∀ {ds : List (Key × D)} {vs : List (Key × V)}, RpK K ρ F ds vs → vs.length = ds.length
  | [], vs, h => by obtain rfl := h.inv0; rfl
  | (k, d) :: ds, vs, h => by
    obtain ⟨v, r, rfl, _, h2⟩ := h.inv
    simp [RpK.length h2]
theorem RpK.keys : ∀ {ds : List (Key × D)} {vs : List (Key × V)}, RpK K ρ F ds vs → vs.map (·.1) = ds.map (·.1)
  | [], vs, h => by obtain rfl := h.inv0; rfl
  | (k, d) :: ds, vs, h => by
    obtain ⟨v, r, rfl, _, h2⟩ := h.inv
    simp [RpK.keys h2]
theorem RpK.vals : ∀ {ds : List (Key × D)} {vs : List (Key × V)}, RpK K ρ F ds vs → RpL K ρ F (ds.map (·.2)) (vs.map (·.2))
  | [], vs, h => by obtain rfl := h.inv0; exact .nil
  | (k, d) :: ds, vs, h => by
    obtain ⟨v, r, rfl, h1, h2⟩ := h.inv
    exact .cons h1 (RpK.vals h2)
theorem RpF.inv {k : Str} {d : D} {ds : List (Str × D)} {vs : List (Str × V)} (h : RpF K ρ F ((k, d) :: ds) vs) : ∃ v r, vs = (k, v) :: r ∧ Rp K ρ F d v ∧ RpF K ρ F ds r := by
  simpa only [RpF] using h
theorem RpF.inv0 {vs : List (Str × V)} (h : RpF K ρ F [] vs) : vs = [] := by simpa only [RpF] using h
theorem RpF.nil : RpF K ρ F [] [] := by simp only [RpF]
theorem RpF.cons {k : Str} {d : D} {v : V} {ds : List (Str × D)} {vs : List (Str × V)} (h : Rp K ρ F d v) (hs : RpF K ρ F ds vs) : RpF K ρ F ((k, d) :: ds) ((k, v) :: vs) := by
  simp only [RpF]
  exact ⟨v, vs, rfl, h, hs⟩
theorem RpF.length : ∀ {ds : List (Str × D)} {vs : List (Str × V)}, RpF K ρ F ds vs → vs.length = ds.length
  | [], vs, h => by obtain rfl := h.inv0; rfl
  | (k, d) :: ds, vs, h => by
    obtain ⟨v, r, rfl, _, h2⟩ := h.inv
    simp [RpF.length h2]
theorem RpF.look : ∀ {ds : List (Str × D)} {vs : List (Str × V)} {f : Str} {d : D}, RpF K ρ F ds vs → ds.lookup f = some d → ∃ v, vs.lookup f = some v ∧ Rp K ρ F d v
  | [], vs, f, d, h, e => by simp at e
  | (k, d0) :: ds, vs, f, d, h, e => by
    obtain ⟨v, r, rfl, h1, h2⟩ := h.inv
    rw [List.lookup_cons] at e ⊢
    cases hk : f == k with
    | true => rw [hk] at e; simp at e; subst e; exact ⟨v, rfl, h1⟩
    | false => rw [hk] at e; exact RpF.look h2 e
theorem RpF.look0 : ∀ {ds : List (Str × D)} {vs : List (Str × V)} {f : Str}, RpF K ρ F ds vs → ds.lookup f = none → vs.lookup f = none
  | [], vs, f, h, e => by obtain rfl := h.inv0; rfl
  | (k, d0) :: ds, vs, f, h, e => by
    obtain ⟨v, r, rfl, h1, h2⟩ := h.inv
    rw [List.lookup_cons] at e ⊢
    cases hk : f == k with
    | true => rw [hk] at e; simp at e
    | false => rw [hk] at e; exact RpF.look0 h2 e
/-- an attribute stored, as L2.putF does -/
def putD (f : Str) (d : D) : List (Str × D) → List (Str × D)
  | [] => [(f, d)]
  | (k, v) :: r => if k = f then (k, d) :: r else (k, v) :: putD f d r
end
end Fw

namespace Fw
open PySem L2

inductive SO where
  | lst (ds : List D) | dic (kvs : List (Key × D)) | ins (c : Str) (fs : List (Str × D))
abbrev Sto := List SO
inductive Rs (α : Type) where
  | ok (a : α) (S : Sto) | exc (c : Str) (fs : List (Str × D)) (S : Sto) | stuck
def M (α : Type) := Sto → Rs α
namespace M
def ret {α : Type} (a : α) : M α := fun S => .ok a S
def bnd {α β : Type} (m : M α) (f : α → M β) : M β := fun S => match m S with
  | .ok a S' => f a S'
  | .exc c fs S' => .exc c fs S'
  | .stuck => .stuck
def stk {α : Type} : M α := fun _ => .stuck
def rais {α : Type} (c : Str) (fs : List (Str × D)) : M α := fun S => .exc c fs S
instance : Monad M where
  pure := ret
  bind := bnd
theorem pure_eq {α : Type} (a : α) : (pure a : M α) = ret a := rfl
theorem bind_eq {α β : Type} (m : M α) (f : α → M β) : m >>= f = bnd m f := rfl
@[simp] theorem ret_bnd {α β : Type} (a : α) (f : α → M β) : bnd (ret a) f = f a := rfl
@[simp] theorem stk_bnd {α β : Type} (f : α → M β) : bnd stk f = stk := rfl
@[simp] theorem rais_bnd {α β : Type} (c : Str) (fs : List (Str × D)) (f : α → M β) : bnd (rais c fs : M α) f = rais c fs := rfl
@[simp] theorem bnd_ret {α : Type} (m : M α) : bnd m ret = m := by
  funext S; unfold bnd ret; cases m S <;> rfl
@[simp] theorem bnd_bnd {α β γ : Type} (m : M α) (f : α → M β) (g : β → M γ) : bnd (bnd m f) g = bnd m fun a => bnd (f a) g := by
  funext S; unfold bnd; cases m S <;> rfl
theorem bnd_app {α β : Type} (m : M α) (f : α → M β) (S : Sto) : bnd m f S = match m S with
  | .ok a S' => f a S'
  | .exc c fs S' => .exc c fs S'
  | .stuck => .stuck := rfl
@[simp] theorem ret_app {α : Type} (a : α) (S : Sto) : ret a S = .ok a S := rfl
@[simp] theorem bnd_ite {α β : Type} (c : Prop) [Decidable c] (a b : M α) (f : α → M β) : bnd (if c then a else b) f = if c then bnd a f else bnd b f := by split <;> rfl
/-- no exception within -/
def calm {α : Type} (m : M α) : M α := fun S => match m S with
  | .exc _ _ _ => .stuck
  | r => r
@[simp] theorem calm_ret {α : Type} (a : α) : calm (ret a) = ret a := rfl
/-- a condition -/
def ass (b : Bool) : M Unit := if b = true then ret () else stk
@[simp] theorem ass_t : ass true = ret () := rfl
def opt {α : Type} : Option α → M α
  | some a => ret a
  | none => stk
@[simp] theorem opt_some {α : Type} (a : α) : opt (some a) = ret a := rfl
def mapL {α β : Type} (f : α → M β) : List α → M (List β)
  | [] => ret []
  | a :: r => bnd (f a) fun b => bnd (mapL f r) fun bs => ret (b :: bs)
@[simp] theorem mapL_nil {α β : Type} (f : α → M β) : mapL f [] = ret [] := rfl
end M

/-- what stands behind the top -/
structure Gm where
  P : Program
  w : World
  K : PySem.W.Frag
  mg : Str → Option Value
/-- the objects of the store, what never changes (F), what is there (H) -/
structure Wd where
  ρ : List Addr
  F : Hp
  H : Hp
def FrO : HO → Prop
  | .lst _ => True
  | .tup _ => True
  | .dK _ => True
  | .frz _ (.lst _) => True
  | .frz _ (.dK _) => True
  | _ => False
def SoOk (Γ : Gm) (W : Wd) (a : Addr) : SO → Prop
  | .lst ds => immL ds = true ∧ ∃ vs, W.H a = some (.lst vs) ∧ RpL Γ.K W.ρ W.F ds vs
  | .dic ds => immK ds = true ∧ ∃ vs, W.H a = some (.dK vs) ∧ RpK Γ.K W.ρ W.F ds vs
  | .ins c fs => immF fs = true ∧ ∃ C dx vs, Γ.mg c = some (.ref C) ∧ W.H a = some (.ins C dx vs) ∧ RpF Γ.K W.ρ W.F fs vs
structure Ok (Γ : Gm) (W : Wd) (S : Sto) : Prop where
  fh : ∀ a u, W.F a = some u → W.H a = some u
  fk : ∀ a u, W.F a = some u → FrO u
  len : W.ρ.length = S.length
  nd : W.ρ.Nodup
  rf : ∀ a, a ∈ W.ρ → W.F a = none
  so : ∀ (n : Nat) a o, W.ρ[n]? = some a → S[n]? = some o → SoOk Γ W a o
/-- later -/
structure Aft (W W' : Wd) : Prop where
  g : Gro W.ρ W'.ρ W.F W'.F
/-- nothing that was there but the store has changed -/
structure Bas (W W' : Wd) : Prop where
  new : ∀ a, W.F a = none → W'.F a ≠ none → W.H a = none
  rho : ∀ a, a ∈ W'.ρ → a ∈ W.ρ ∨ W.H a = none
  keep : ∀ a o, W.H a = some o → a ∉ W.ρ → W'.H a = some o
  dom : ∀ a, W'.H a = none → W.H a = none
structure Stp (W W' : Wd) : Prop extends Aft W W', Bas W W'

section
variable {Γ : Gm} {W W1 W2 W3 : Wd} {S : Sto}
theorem Aft.refl (W : Wd) : Aft W W := ⟨.refl _ _⟩
theorem Gro.trans {ρ ρ1 ρ2 : List Addr} {F F1 F2 : Hp} (a : Gro ρ ρ1 F F1) (b : Gro ρ1 ρ2 F1 F2) : Gro ρ ρ2 F F2 := ⟨fun x u h => b.f x u (a.f x u h), fun n x h => b.r n x (a.r n x h)⟩
theorem some_ne {α : Type} {x : Option α} {a : α} (h : x = some a) : x ≠ none := by rw [h]; exact fun z => nomatch z
theorem ne_some {α : Type} {x : Option α} (h : x ≠ none) : ∃ a, x = some a := by
  cases x with
  | none => exact absurd rfl h
  | some a => exact ⟨a, rfl⟩
theorem Aft.dom (a : Aft W W1) {x : Addr} (h : W.F x ≠ none) : W1.F x ≠ none := by
  obtain ⟨u, e⟩ := ne_some h
  exact some_ne (a.g.f x u e)
theorem Aft.trans (a : Aft W W1) (b : Aft W1 W2) : Aft W W2 := ⟨a.g.trans b.g⟩
theorem Bas.refl (W : Wd) : Bas W W := ⟨fun _ h h' => absurd h h', fun _ h => .inl h, fun _ _ h _ => h, fun _ h => h⟩
theorem Bas.hne (b : Bas W W1) {x : Addr} (h : W1.H x = none) : W.H x = none := b.dom x h
theorem Bas.trans (a : Bas W W1) (g : Aft W W1) (b : Bas W1 W2) (h : Aft W1 W2) : Bas W W2 where
  new := fun x e e' => by
    by_cases q : W1.F x = none
    · exact a.dom x (b.new x q e')
    · exact a.new x e q
  rho := fun x e => by
    rcases b.rho x e with z | z
    · exact a.rho x z
    · exact .inr (a.dom x z)
  keep := fun x o e n => by
    refine b.keep x o (a.keep x o e n) fun z => ?_
    rcases a.rho x z with q | q
    · exact n q
    · rw [e] at q; cases q
  dom := fun x e => a.dom x (b.dom x e)
theorem Stp.refl (W : Wd) : Stp W W := ⟨.refl W, .refl W⟩
theorem Stp.trans (a : Stp W W1) (b : Stp W1 W2) : Stp W W2 := ⟨a.toAft.trans b.toAft, a.toBas.trans a.toAft b.toBas b.toAft⟩
theorem Ok.lstF (I : Ok Γ W S) {a : Addr} {vs : List V} (h : W.F a = some (.lst vs)) : W.H a = some (.lst vs) := I.fh _ _ h
theorem Ok.lst (I : Ok Γ W S) {a : Addr} {vs : List V} (h : W.F a = some (.lst vs)) : SqL Γ.K W.H a vs := .inl (.inl (I.fh _ _ h))
theorem Ok.scr (I : Ok Γ W S) {a : Addr} {o : Obj} {vs : List V} (h : ScrAt Γ.K W.F a o vs) : SqL Γ.K W.H a vs := by
  rcases h with h | h
  · exact .inl (.inr ⟨o, I.fh _ _ h⟩)
  · rcases h with h | h
    · rcases h with h | ⟨_, h⟩
      · cases h
      · cases h
    · exact .inr h
theorem Ok.tupF (I : Ok Γ W S) {a : Addr} {vs : List V} (h : W.F a = some (.tup vs)) : W.H a = some (.tup vs) := I.fh _ _ h
theorem Ok.tup (I : Ok Γ W S) {a : Addr} {vs : List V} (h : TupAt Γ.K W.F a vs) : SqT Γ.K W.H a vs := .inl (.inl (I.tupF h))
theorem Ok.dic (I : Ok Γ W S) {a : Addr} {od : Obj} {vs : List (Key × V)} (h : W.F a = some (.frz od (.dK vs))) : Rd W.H a (.dK vs) := .inr ⟨od, I.fh _ _ h⟩
theorem Ok.bdic (I : Ok Γ W S) {a : Addr} {vs : List (Key × V)} (h : W.F a = some (.dK vs)) : Rd W.H a (.dK vs) := .inl (I.fh _ _ h)
theorem Ok.fnone (I : Ok Γ W S) {a : Addr} (h : W.H a = none) : W.F a = none := by
  cases q : W.F a with
  | none => rfl
  | some u => rw [I.fh a u q] at h; cases h
theorem Ok.obj (I : Ok Γ W S) {n : Nat} {a : Addr} (h : W.ρ[n]? = some a) : ∃ o, S[n]? = some o ∧ SoOk Γ W a o := by
  have l : n < S.length := by rw [← I.len]; exact (List.getElem?_eq_some_iff.mp h).1
  exact ⟨S[n], by simp [l], I.so n a _ h (by simp [l])⟩
theorem SoOk.there {a : Addr} {o : SO} (h : SoOk Γ W a o) : W.H a ≠ none := by
  cases o with
  | lst ds => obtain ⟨_, vs, e, _⟩ := h; exact some_ne e
  | dic ds => obtain ⟨_, vs, e, _⟩ := h; exact some_ne e
  | ins c fs => obtain ⟨_, C, dx, vs, _, e, _⟩ := h; exact some_ne e
theorem Ok.rhoH (I : Ok Γ W S) {a : Addr} (h : a ∈ W.ρ) : W.H a ≠ none := by
  obtain ⟨n, e⟩ := List.mem_iff_getElem?.mp h
  obtain ⟨o, _, q⟩ := I.obj e
  exact q.there
/-- what an object of the store says stays when F grows -/
theorem SoOk.gro {a : Addr} {o : SO} (h : SoOk Γ W a o) (g : GroT W.ρ W1.ρ W.F W1.F) (e : W1.H a = W.H a) : SoOk Γ W1 a o := by
  cases o with
  | lst ds =>
    obtain ⟨i, vs, q, r⟩ := h
    exact ⟨i, vs, by rw [e]; exact q, RpL.monoT g ds vs i r⟩
  | dic ds =>
    obtain ⟨i, vs, q, r⟩ := h
    exact ⟨i, vs, by rw [e]; exact q, RpK.monoT g ds vs i r⟩
  | ins c fs =>
    obtain ⟨i, C, dx, vs, z, q, r⟩ := h
    exact ⟨i, C, dx, vs, z, by rw [e]; exact q, RpF.monoT g fs vs i r⟩
theorem Gro.tup {ρ ρ' : List Addr} {F F' : Hp} (g : Gro ρ ρ' F F') : GroT ρ ρ' F F' := ⟨fun a u h => g.f a _ h, g.r⟩
/-- a new object, frozen at once -/
def Wd.add (W : Wd) (p : Addr) (u : HO) : Wd := ⟨W.ρ, upd W.F p u, upd W.H p u⟩
theorem upd_cases {H : Hp} {p a : Addr} {u o : HO} (h : upd H p u a = some o) : (a = p ∧ o = u) ∨ (a ≠ p ∧ H a = some o) := by
  by_cases e : a = p
  · subst e; rw [upd_same] at h; exact .inl ⟨rfl, (Option.some.inj h).symm⟩
  · rw [upd_ne e] at h; exact .inr ⟨e, h⟩
theorem Wd.add_gro {p : Addr} {u : HO} (hp : W.F p = none) : Gro W.ρ (W.add p u).ρ W.F (W.add p u).F := ⟨fun a o h => by
  show upd W.F p u a = some o
  rw [upd_ne (fun e => by subst e; rw [hp] at h; cases h)]; exact h, fun _ _ h => h⟩
theorem Ok.add (I : Ok Γ W S) {p : Addr} {u : HO} (hp : W.H p = none) (hu : FrO u) : Ok Γ (W.add p u) S := by
  have hF : W.F p = none := I.fnone hp
  have hr : p ∉ W.ρ := fun z => I.rhoH z hp
  refine ⟨fun a o h => ?_, fun a o h => ?_, I.len, I.nd, fun a h => ?_, fun n a o h1 h2 => ?_⟩
  · rcases upd_cases h with ⟨rfl, rfl⟩ | ⟨ne, h⟩
    · show upd W.H a o a = some o
      exact upd_same
    · show upd W.H p u a = some o
      rw [upd_ne ne]; exact I.fh a o h
  · rcases upd_cases h with ⟨rfl, rfl⟩ | ⟨ne, h⟩
    · exact hu
    · exact I.fk a o h
  · show upd W.F p u a = none
    rw [upd_ne (fun e => hr (by rw [← e]; exact h))]; exact I.rf a h
  · have ha : a ∈ W.ρ := List.mem_iff_getElem?.mpr ⟨n, h1⟩
    refine (I.so n a o h1 h2).gro (Wd.add_gro hF).tup ?_
    show upd W.H p u a = W.H a
    exact upd_ne fun e => hr (by rw [← e]; exact ha)
theorem Stp.add (I : Ok Γ W S) {p : Addr} {u : HO} (hp : W.H p = none) : Stp W (W.add p u) := by
  have hF : W.F p = none := I.fnone hp
  refine ⟨⟨Wd.add_gro hF⟩, ⟨fun a h h' => ?_, fun a h => .inl h, fun a o h _ => ?_, fun a h => ?_⟩⟩
  · by_cases e : a = p
    · subst e; exact hp
    · have h' : upd W.F p u a ≠ none := h'
      rw [upd_ne e] at h'; exact absurd h h'
  · show upd W.H p u a = some o
    rw [upd_ne (fun e => by subst e; rw [hp] at h; cases h)]; exact h
  · by_cases e : a = p
    · subst e; exact hp
    · have h : upd W.H p u a = none := h
      rw [upd_ne e] at h; exact h
end
end Fw

namespace Fw
open PySem PySem.Spec PyProof.Rows L2

/-! ### what a mirror's result asks -/
def ResG (Γ : Gm) (E : XK) (W : Wd) {α : Type} (r : Rs α) (k : α → Sto → Wd → Prop) : Prop := match r with
  | .ok a S' => ∀ W', Stp W W' → Ok Γ W' S' → k a S' W'
  | .exc c fs S' => immF fs = true ∧ ∀ W' C dx vs, Stp W W' → Ok Γ W' S' → Γ.mg c = some (.ref C) → W'.H dx = some (.xd vs) → RpF Γ.K W'.ρ W'.F fs vs → E (.ref C) (some dx) W'.H
  | .stuck => False
section
variable {Γ : Gm} {E : XK} {W W1 W' : Wd} {α β : Type} {S : Sto}
theorem ResG.mono {r : Rs α} {k : α → Sto → Wd → Prop} (h : ResG Γ E W r k) (s : Stp W W1) : ResG Γ E W1 r k := by
  cases r with
  | ok a S' => exact fun W' s' o => h W' (s.trans s') o
  | exc c fs S' => exact ⟨h.1, fun W' C dx vs s' o h1 h2 h3 => h.2 W' C dx vs (s.trans s') o h1 h2 h3⟩
  | stuck => exact h
theorem ResG.imp {r : Rs α} {k k' : α → Sto → Wd → Prop} (h : ResG Γ E W r k) (q : ∀ a S' W', Stp W W' → Ok Γ W' S' → k a S' W' → k' a S' W') : ResG Γ E W r k' := by
  cases r with
  | ok a S' => exact fun W' s' o => q a S' W' s' o (h W' s' o)
  | exc c fs S' => exact h
  | stuck => exact h
theorem ResG.bnd {m : M α} {f : α → M β} {k : β → Sto → Wd → Prop} (h : ResG Γ E W (M.bnd m f S) k) : ResG Γ E W (m S) fun a S1 W1 => ResG Γ E W1 (f a S1) k := by
  unfold M.bnd at h
  cases q : m S with
  | ok a S' => rw [q] at h; exact fun W' s' o => ResG.mono h s'
  | exc c fs S' => rw [q] at h; exact h
  | stuck => rw [q] at h; exact h
theorem ResG.ret {a : α} {k : α → Sto → Wd → Prop} (h : ResG Γ E W (M.ret a S) k) (I : Ok Γ W S) : k a S W := h W (.refl W) I
theorem ResG.calm {m : M α} {k : α → Sto → Wd → Prop} {E' : XK} (h : ResG Γ E W (M.calm m S) k) : ResG Γ E' W (m S) k := by
  unfold M.calm at h
  cases q : m S with
  | ok a S' => rw [q] at h; exact h
  | exc c fs S' => rw [q] at h; exact h.elim
  | stuck => rw [q] at h; exact h.elim
theorem ResG.ass {b : Bool} {f : Unit → M β} {k : β → Sto → Wd → Prop} (h : ResG Γ E W (M.bnd (M.ass b) f S) k) : b = true ∧ ResG Γ E W (f () S) k := by
  cases b with
  | true => exact ⟨rfl, h⟩
  | false => exact h.elim
theorem ResG.opt {o : Option α} {f : α → M β} {k : β → Sto → Wd → Prop} (h : ResG Γ E W (M.bnd (M.opt o) f S) k) : ∃ a, o = some a ∧ ResG Γ E W (f a S) k := by
  cases o with
  | some a => exact ⟨a, rfl, h⟩
  | none => exact h.elim
end
abbrev Kd (Γ : Gm) (Q : VK) : D → Sto → Wd → Prop := fun d _ W' => ∀ v, Rp Γ.K W'.ρ W'.F d v → Q v W'.H
abbrev Nv := List (Option D)
structure EnvOk (Γ : Gm) (W : Wd) (env : Nv) (σ : L2.St) : Prop where
  len : env.length = σ.length
  at_ : ∀ (i : Nat) d, env[i]? = some (some d) → ∃ v, σ[i]? = some (some v) ∧ Rp Γ.K W.ρ W.F d v
theorem EnvOk.mono {Γ : Gm} {W W' : Wd} {env : Nv} {σ : L2.St} (h : EnvOk Γ W env σ) (s : Aft W W') : EnvOk Γ W' env σ := ⟨h.len, fun i d e => by
  obtain ⟨v, h1, h2⟩ := h.at_ i d e
  exact ⟨v, h1, Rp.mono s.g d v h2⟩⟩
theorem EnvOk.set {Γ : Gm} {W : Wd} {env : Nv} {σ : L2.St} (h : EnvOk Γ W env σ) {d : D} {v : V} (q : Rp Γ.K W.ρ W.F d v) (j : Nat) : EnvOk Γ W (env.set j (some d)) (σ.set j (some v)) := by
  refine ⟨by simp [h.len], fun i e hi => ?_⟩
  by_cases hij : j = i
  · subst hij
    rw [List.getElem?_set_self' ] at hi
    have hl : j < env.length := by
      cases z : env[j]? with
      | none => rw [z] at hi; cases hi
      | some w => exact (List.getElem?_eq_some_iff.mp z).1
    rw [List.getElem?_eq_getElem hl] at hi
    have : d = e := by simpa using hi
    subst this
    exact ⟨v, by rw [List.getElem?_set_self (by rw [← h.len]; exact hl)], q⟩
  · rw [List.getElem?_set_ne hij] at hi
    obtain ⟨u, h1, h2⟩ := h.at_ i e hi
    exact ⟨u, by rw [List.getElem?_set_ne hij]; exact h1, h2⟩
abbrev EK := L2.St → XK
def SimE (Γ : Gm) (E : EK) (t : TE) (m : Nv → M D) : Prop := ∀ σ W S env Q, Ok Γ W S → EnvOk Γ W env σ → ResG Γ (E σ) W (m env S) (Kd Γ Q) → t σ W.H Q
def SimT (Γ : Gm) (E : EK) (t : TT) (m : Nv → M Bool) : Prop := ∀ σ W S env Q, Ok Γ W S → EnvOk Γ W env σ → ResG Γ (E σ) W (m env S) (fun b _ W' => Q b W'.H) → t σ W.H Q
def SimA (Γ : Gm) (E : EK) (t : TA) (m : Nv → M (List D)) : Prop := ∀ σ W S env Q, Ok Γ W S → EnvOk Γ W env σ → ResG Γ (E σ) W (m env S) (fun ds _ W' => ∀ vs, RpL Γ.K W'.ρ W'.F ds vs → Q vs W'.H) → t σ W.H Q
abbrev gm (X : Cx) : Gm := ⟨X.prog, X.w, X.K, X.mg⟩
structure JE (X : Cx) (E : EK) (e : Expr) (t : TE) (m : Nv → M D) : Prop where
  pe : PE X e t
  sim : SimE (gm X) E t m
structure JT (X : Cx) (E : EK) (e : Expr) (t : TT) (m : Nv → M Bool) : Prop where
  pt : PT X e t
  sim : SimT (gm X) E t m
structure JW (X : Cx) (E : EK) (e : Expr) (t : TT) (m : Nv → M Bool) : Prop where
  pw : PW X e t
  sim : SimT (gm X) E t m
structure JA (X : Cx) (E : EK) (es : List Expr) (t : TA) (m : Nv → M (List D)) : Prop where
  pa : PA X es t
  sim : SimA (gm X) E t m
def OpSim (Γ : Gm) (r : R2) (op : D → D → M D) : Prop := ∀ (E : XK) W S x y dx dy Q, Ok Γ W S → Rp Γ.K W.ρ W.F dx x → Rp Γ.K W.ρ W.F dy y → ResG Γ E W (op dx dy S) (Kd Γ Q) → r x y W.H Q
def UnSim (Γ : Gm) (r : V → Hp → VK → Prop) (op : D → M D) : Prop := ∀ (E : XK) W S x dx Q, Ok Γ W S → Rp Γ.K W.ρ W.F dx x → ResG Γ E W (op dx S) (Kd Γ Q) → r x W.H Q
def CallSim (Γ : Gm) (r : List V → Hp → VK → Prop) (op : List D → M D) : Prop := ∀ (E : XK) W S xs dxs Q, Ok Γ W S → RpL Γ.K W.ρ W.F dxs xs → ResG Γ E W (op dxs S) (Kd Γ Q) → r xs W.H Q

/-! ### the mirrors' words -/
def mVar (i : Nat) : Nv → M D := fun env => M.opt (env[i]?.join)
def mC (d : D) : Nv → M D := fun _ => M.ret d
def mOp (op : D → D → M D) (a b : Nv → M D) : Nv → M D := fun env => M.bnd (a env) fun x => M.bnd (b env) fun y => op x y
def mUn (op : D → M D) (a : Nv → M D) : Nv → M D := fun env => M.bnd (a env) op
def mNil : Nv → M (List D) := fun _ => M.ret []
def mCons (a : Nv → M D) (r : Nv → M (List D)) : Nv → M (List D) := fun env => M.bnd (a env) fun x => M.bnd (r env) fun xs => M.ret (x :: xs)
def mCall (op : List D → M D) (r : Nv → M (List D)) : Nv → M D := fun env => M.bnd (r env) op
def mIf (t : Nv → M Bool) (a b : Nv → M D) : Nv → M D := fun env => M.bnd (t env) fun c => if c = true then a env else b env
def mAnd (a b : Nv → M Bool) : Nv → M Bool := fun env => M.bnd (a env) fun c => if c = true then b env else M.ret false
def mOr (a b : Nv → M Bool) : Nv → M Bool := fun env => M.bnd (a env) fun c => if c = true then M.ret true else b env
def mNot (a : Nv → M Bool) : Nv → M Bool := fun env => M.bnd (a env) fun c => M.ret (!c)
def asB : D → M Bool
  | .bl b => M.ret b
  | _ => M.stk
/-- a test that gives True or False -/
def mB (a : Nv → M D) : Nv → M Bool := fun env => M.bnd (a env) asB
/-- a test as a value -/
def mTV (a : Nv → M Bool) : Nv → M D := fun env => M.bnd (a env) fun b => M.ret (.bl b)
def small (n : Nat) : M Unit := M.ass (decide (n ≤ sizeLine))
def dTup (ds : List D) : M D := M.bnd (small ds.length) fun _ => M.ret (.tup ds)
def dLst (ds : List D) : M D := M.bnd (small ds.length) fun _ => M.ret (.lst ds)

section
variable {X : Cx} {E : EK} {Γ : Gm} {e a b c : Expr} {ta tb tc : TE} {ma mb mc : Nv → M D} {pos : Pos}
theorem sim_var {i : Nat} : SimE Γ E (tVar i) (mVar i) := fun σ W S env Q I N h => by
  cases q : env[i]?.join with
  | none => unfold mVar at h; rw [q] at h; exact h.elim
  | some d =>
    unfold mVar at h; rw [q] at h
    have q' : env[i]? = some (some d) := by
      cases z : env[i]? with
      | none => rw [z] at q; cases q
      | some o => rw [z] at q; exact congrArg some q
    obtain ⟨v, h1, h2⟩ := N.at_ i d q'
    exact ⟨v, h1, ResG.ret h I v h2⟩
theorem je_var {i : Nat} {x : Str} (hN : X.N[i]? = some x := by rfl) (hv : Vis X.env.scope x := by first | exact Or.inl rfl | exact Or.inr (Or.inl rfl) | exact Or.inr (Or.inr rfl)) (hd : (x == ("__debug__" : Str)) = false := by decide)
    (hcd : (x == ("__classdict__" : Str)) = false := by decide) : JE X E (.Name x pos) (tVar i) (mVar i) := ⟨pe_var hN hv hd hcd, sim_var⟩
theorem sim_c {d : D} {v : V} (h : ∀ K ρ F, Rp K ρ F d v) : SimE Γ E (tC v) (mC d) := fun σ W S env Q I N r => ResG.ret r I v (h _ _ _)
theorem je_int {i : Int} {j} : JE X E (.Constant (.int i) j pos) (tC (.int i)) (mC (.int i)) := ⟨pe_int, sim_c fun _ _ _ => by simp only [Rp]⟩
theorem je_bl {b : Bool} {j} : JE X E (.Constant (.bool b) j pos) (tC (.bl b)) (mC (.bl b)) := ⟨pe_bl, sim_c fun _ _ _ => by simp only [Rp]⟩
theorem je_non {j} : JE X E (.Constant .none j pos) (tC .non) (mC .non) := ⟨pe_non, sim_c fun _ _ _ => by simp only [Rp]⟩
theorem je_str {x : Str} {j} : JE X E (.Constant (.str x) j pos) (tC (.str x)) (mC (.str x)) := ⟨pe_str, sim_c fun _ _ _ => by simp only [Rp]⟩
theorem sim_op {r : R2} {op : D → D → M D} (ho : OpSim Γ r op) (ha : SimE Γ E ta ma) (hb : SimE Γ E tb mb) : SimE Γ E (tOp r ta tb) (mOp op ma mb) := fun σ W S env Q I N h =>
  ha σ W S env _ I N (h.bnd.imp fun x S1 W1 s1 I1 h1 v r => hb σ W1 S1 env _ I1 (N.mono s1.toAft) (h1.bnd.imp fun y S2 W2 s2 I2 h2 u r2 =>
    ho _ W2 S2 v u x y Q I2 (Rp.mono s2.g x v r) r2 h2))
theorem sim_un {r : V → Hp → VK → Prop} {op : D → M D} (ho : UnSim Γ r op) (ha : SimE Γ E ta ma) : SimE Γ E (tUn r ta) (mUn op ma) := fun σ W S env Q I N h =>
  ha σ W S env _ I N (h.bnd.imp fun x S1 W1 s1 I1 h1 v r => ho _ W1 S1 v x Q I1 r h1)
theorem je_op {op : Operator} {r : R2} {mo : D → D → M D} (ho : OpR X (binaryOp op) r) (hm : OpSim (gm X) r mo) (ha : JE X E a ta ma) (hb : JE X E b tb mb) : JE X E (.BinOp a op b pos) (tOp r ta tb) (mOp mo ma mb) :=
  ⟨pe_op ho ha.pe hb.pe, sim_op hm ha.sim hb.sim⟩
theorem je_un {op : UnaryOp} {r : V → Hp → VK → Prop} {mo : D → M D} (ho : UnR X (unaryOp op) r) (hm : UnSim (gm X) r mo) (ha : JE X E a ta ma) : JE X E (.UnaryOp op a pos) (tUn r ta) (mUn mo ma) :=
  ⟨pe_un ho ha.pe, sim_un hm ha.sim⟩
theorem je_cmp {op : CmpOp} {r : R2} {mo : D → D → M D} (ho : OpR X (compareOp op) r) (hm : OpSim (gm X) r mo) (ha : JE X E a ta ma) (hb : JE X E b tb mb) (hx : behindInMarks op b = false := by first | exact nobehind _ (by decide) (by decide) | rfl) :
    JE X E (.Compare a [op] [b] pos) (tOp r ta tb) (mOp mo ma mb) := ⟨pe_cmpR ho ha.pe hb.pe hx, sim_op hm ha.sim hb.sim⟩
theorem sim_test (ha : SimE Γ E ta ma) : SimT Γ E (tTest ta) (mB ma) := fun σ W S env Q I N h =>
  ha σ W S env _ I N (h.bnd.imp fun x S1 W1 s1 I1 h1 v r => by
    cases x with
    | bl k => simp only [Rp] at r; exact ⟨k, r, ResG.ret h1 I1⟩
    | _ => exact h1.elim)
theorem jt_cmp {op : CmpOp} {r : R2} {mo : D → D → M D} (ho : OpR X (compareOp op) r) (hm : OpSim (gm X) r mo) (ha : JE X E a ta ma) (hb : JE X E b tb mb) (hx : behindInMarks op b = false := by first | exact nobehind _ (by decide) (by decide) | rfl) :
    JT X E (.Compare a [op] [b] pos) (tTest (tOp r ta tb)) (mB (mOp mo ma mb)) := ⟨pt_cmpR ho ha.pe hb.pe hx, sim_test (sim_op hm ha.sim hb.sim)⟩
theorem sim_B (ha : SimE Γ E ta ma) : SimT Γ E (tB ta) (mB ma) := sim_test ha
theorem jt_val (ha : JE X E a ta ma) (he : ∀ whole, isTrue a X.env whole = (do let v ← whole; standAt a.pos; holding [v] (truthy v)) := by intro _; rfl) : JT X E a (tB ta) (mB ma) := ⟨pt_val ha.pe he, sim_B ha.sim⟩
theorem sim_if {t : TT} {mt : Nv → M Bool} (ht : SimT Γ E t mt) (ha : SimE Γ E ta ma) (hb : SimE Γ E tb mb) : SimE Γ E (tIf t ta tb) (mIf mt ma mb) := fun σ W S env Q I N h =>
  ht σ W S env _ I N (h.bnd.imp fun c S1 W1 s1 I1 h1 => by
    cases c with
    | true => rw [if_pos rfl] at h1 ⊢; exact ha σ W1 S1 env _ I1 (N.mono s1.toAft) h1
    | false => rw [if_neg Bool.false_ne_true] at h1 ⊢; exact hb σ W1 S1 env _ I1 (N.mono s1.toAft) h1)
theorem je_if {t : TT} {mt : Nv → M Bool} (ht : JT X E c t mt) (ha : JE X E a ta ma) (hb : JE X E b tb mb) : JE X E (.IfExp c a b pos) (tIf t ta tb) (mIf mt ma mb) := ⟨pe_ifExp ht.pt ha.pe hb.pe, sim_if ht.sim ha.sim hb.sim⟩
theorem sim_and {t u : TT} {mt mu : Nv → M Bool} (ht : SimT Γ E t mt) (hu : SimT Γ E u mu) : SimT Γ E (tAnd t u) (mAnd mt mu) := fun σ W S env Q I N h =>
  ht σ W S env _ I N (h.bnd.imp fun c S1 W1 s1 I1 h1 => by
    cases c with
    | true => rw [if_pos rfl] at h1; exact hu σ W1 S1 env _ I1 (N.mono s1.toAft) h1
    | false => rw [if_neg Bool.false_ne_true] at h1; exact ResG.ret h1 I1)
theorem sim_or {t u : TT} {mt mu : Nv → M Bool} (ht : SimT Γ E t mt) (hu : SimT Γ E u mu) : SimT Γ E (tOr t u) (mOr mt mu) := fun σ W S env Q I N h =>
  ht σ W S env _ I N (h.bnd.imp fun c S1 W1 s1 I1 h1 => by
    cases c with
    | true => rw [if_pos rfl] at h1; exact ResG.ret h1 I1
    | false => rw [if_neg Bool.false_ne_true] at h1; exact hu σ W1 S1 env _ I1 (N.mono s1.toAft) h1)
theorem sim_not {t : TT} {mt : Nv → M Bool} (ht : SimT Γ E t mt) : SimT Γ E (tNot t) (mNot mt) := fun σ W S env Q I N h =>
  ht σ W S env _ I N (h.bnd.imp fun c S1 W1 s1 I1 h1 => ResG.ret h1 I1)
theorem jw_pt {t : TT} {mt : Nv → M Bool} (h : JW X E a t mt) : JT X E a t mt := ⟨h.pw.pt, h.sim⟩
variable {rest : List Expr} {t u : TT} {mt mu : Nv → M Bool}
theorem jw_and1 (ha : JT X E a t mt) : JW X E (.BoolOp .And [a] pos) t mt := ⟨pw_and1 ha.pt, ha.sim⟩
theorem jw_or1 (ha : JT X E a t mt) : JW X E (.BoolOp .Or [a] pos) t mt := ⟨pw_or1 ha.pt, ha.sim⟩
theorem jw_and (ha : JT X E a t mt) (hb : JW X E (.BoolOp .And (b :: rest) pos) u mu) : JW X E (.BoolOp .And (a :: b :: rest) pos) (tAnd t u) (mAnd mt mu) := ⟨pw_and ha.pt hb.pw, sim_and ha.sim hb.sim⟩
theorem jw_or (ha : JT X E a t mt) (hb : JW X E (.BoolOp .Or (b :: rest) pos) u mu) : JW X E (.BoolOp .Or (a :: b :: rest) pos) (tOr t u) (mOr mt mu) := ⟨pw_or ha.pt hb.pw, sim_or ha.sim hb.sim⟩
theorem jt_not (ha : JT X E a t mt) : JT X E (.UnaryOp .Not a pos) (tNot t) (mNot mt) := ⟨pt_not ha.pt, sim_not ha.sim⟩
/-! as values -/
def mAndV (a b : Nv → M D) : Nv → M D := fun env => M.bnd (a env) fun x => M.bnd (asB x) fun c => if c = true then b env else M.ret (.bl false)
def mOrV (a b : Nv → M D) : Nv → M D := fun env => M.bnd (a env) fun x => M.bnd (asB x) fun c => if c = true then M.ret (.bl true) else b env
def mNotV (a : Nv → M D) : Nv → M D := fun env => M.bnd (a env) fun x => M.bnd (asB x) fun c => M.ret (.bl (!c))
theorem asB_inv {E : XK} {α : Type} {x : D} {f : Bool → M α} {W : Wd} {S : Sto} {k : α → Sto → Wd → Prop} (h : ResG Γ E W (M.bnd (asB x) f S) k) : ∃ c, x = .bl c ∧ ResG Γ E W (f c S) k := by
  cases x with
  | bl c => exact ⟨c, rfl, h⟩
  | _ => exact h.elim
theorem rp_bl {K : PySem.W.Frag} {ρ : List Addr} {F : Hp} {b : Bool} : Rp K ρ F (.bl b) (.bl b) := by simp only [Rp]
theorem rp_int {K : PySem.W.Frag} {ρ : List Addr} {F : Hp} {b : Int} : Rp K ρ F (.int b) (.int b) := by simp only [Rp]
theorem rp_str {K : PySem.W.Frag} {ρ : List Addr} {F : Hp} {b : Str} : Rp K ρ F (.str b) (.str b) := by simp only [Rp]
theorem rp_non {K : PySem.W.Frag} {ρ : List Addr} {F : Hp} : Rp K ρ F .non .non := by simp only [Rp]
theorem sim_andV (ha : SimE Γ E ta ma) (hb : SimE Γ E tb mb) : SimE Γ E (tAndV ta tb) (mAndV ma mb) := fun σ W S env Q I N h =>
  ha σ W S env _ I N (h.bnd.imp fun x S1 W1 s1 I1 h1 v r => by
    obtain ⟨c, rfl, h2⟩ := asB_inv h1
    simp only [Rp] at r
    refine ⟨c, r, ?_⟩
    cases c with
    | true => rw [if_pos rfl] at h2 ⊢; exact hb σ W1 S1 env _ I1 (N.mono s1.toAft) h2
    | false => rw [if_neg Bool.false_ne_true] at h2 ⊢; exact ResG.ret h2 I1 _ rp_bl)
theorem sim_orV (ha : SimE Γ E ta ma) (hb : SimE Γ E tb mb) : SimE Γ E (tOrV ta tb) (mOrV ma mb) := fun σ W S env Q I N h =>
  ha σ W S env _ I N (h.bnd.imp fun x S1 W1 s1 I1 h1 v r => by
    obtain ⟨c, rfl, h2⟩ := asB_inv h1
    simp only [Rp] at r
    refine ⟨c, r, ?_⟩
    cases c with
    | true => rw [if_pos rfl] at h2 ⊢; exact ResG.ret h2 I1 _ rp_bl
    | false => rw [if_neg Bool.false_ne_true] at h2 ⊢; exact hb σ W1 S1 env _ I1 (N.mono s1.toAft) h2)
theorem sim_notV (ha : SimE Γ E ta ma) : SimE Γ E (tNotV ta) (mNotV ma) := fun σ W S env Q I N h =>
  ha σ W S env _ I N (h.bnd.imp fun x S1 W1 s1 I1 h1 v r => by
    obtain ⟨c, rfl, h2⟩ := asB_inv h1
    simp only [Rp] at r
    exact ⟨c, r, ResG.ret h2 I1 _ rp_bl⟩)
theorem je_one {op} (ha : JE X E a ta ma) : JE X E (.BoolOp op [a] pos) ta ma := ⟨pe_one ha.pe, ha.sim⟩
theorem je_and (ha : JE X E a ta ma) (hb : JE X E (.BoolOp .And (b :: rest) pos) tb mb) : JE X E (.BoolOp .And (a :: b :: rest) pos) (tAndV ta tb) (mAndV ma mb) := ⟨pe_and ha.pe hb.pe, sim_andV ha.sim hb.sim⟩
theorem je_or (ha : JE X E a ta ma) (hb : JE X E (.BoolOp .Or (b :: rest) pos) tb mb) : JE X E (.BoolOp .Or (a :: b :: rest) pos) (tOrV ta tb) (mOrV ma mb) := ⟨pe_or ha.pe hb.pe, sim_orV ha.sim hb.sim⟩
theorem je_not (ha : JE X E a ta ma) : JE X E (.UnaryOp .Not a pos) (tNotV ta) (mNotV ma) := ⟨pe_not ha.pe, sim_notV ha.sim⟩
/-! chains -/
def mChain (o o' : D → D → M D) (a b c : Nv → M D) : Nv → M D := fun env => M.bnd (a env) fun x => M.bnd (b env) fun y => M.bnd (o x y) fun z => M.bnd (asB z) fun k => if k = true then M.bnd (c env) fun w => o' y w else M.ret (.bl false)
end
section
variable {X : Cx} {E : EK} {Γ : Gm} {e a b c : Expr} {es : List Expr} {ta tb tc : TE} {tr : TA} {ma mb mc : Nv → M D} {mr : Nv → M (List D)} {pos : Pos}
theorem ja_nil : JA X E [] tNil mNil := ⟨pa_nil, fun σ W S env Q I N h => ResG.ret h I [] .nil⟩
theorem sim_cons (ha : SimE Γ E ta ma) (hr : SimA Γ E tr mr) : SimA Γ E (tCons ta tr) (mCons ma mr) := fun σ W S env Q I N h =>
  ha σ W S env _ I N (h.bnd.imp fun x S1 W1 s1 I1 h1 v r => hr σ W1 S1 env _ I1 (N.mono s1.toAft) (h1.bnd.imp fun xs S2 W2 s2 I2 h2 vs rs => ResG.ret h2 I2 _ (.cons (Rp.mono s2.g x v r) rs)))
theorem ResG.dTup {E : XK} {W : Wd} {S : Sto} {ds : List D} {k : D → Sto → Wd → Prop} (h : ResG Γ E W (dTup ds S) k) : ds.length ≤ sizeLine ∧ ResG Γ E W (M.ret (.tup ds) S) k := by
  unfold Fw.dTup small at h
  obtain ⟨h1, h2⟩ := h.ass
  exact ⟨of_decide_eq_true h1, h2⟩
theorem ResG.dLst {E : XK} {W : Wd} {S : Sto} {ds : List D} {k : D → Sto → Wd → Prop} (h : ResG Γ E W (dLst ds S) k) : ds.length ≤ sizeLine ∧ ResG Γ E W (M.ret (.lst ds) S) k := by
  unfold Fw.dLst small at h
  obtain ⟨h1, h2⟩ := h.ass
  exact ⟨of_decide_eq_true h1, h2⟩
/-- a new tuple, list, dict is the answer -/
theorem new_tup {E : XK} {W : Wd} {S : Sto} {ds : List D} {vs : List V} {Q : VK} (I : Ok Γ W S) (r : RpL Γ.K W.ρ W.F ds vs) (h : ResG Γ E W (M.ret (.tup ds) S) (Kd Γ Q)) (p : Addr) (hp : W.H p = none) : Q (.ref p) (upd W.H p (.tup vs)) :=
  h (W.add p (.tup vs)) (.add I hp) (I.add hp trivial) (.ref p) (by
    simp only [Rp]
    exact ⟨p, vs, rfl, upd_same, RpL.mono (Wd.add_gro (I.fnone hp)) ds vs r⟩)
theorem new_lst {E : XK} {W : Wd} {S : Sto} {ds : List D} {vs : List V} {Q : VK} (I : Ok Γ W S) (r : RpL Γ.K W.ρ W.F ds vs) (h : ResG Γ E W (M.ret (.lst ds) S) (Kd Γ Q)) (p : Addr) (hp : W.H p = none) : Q (.ref p) (upd W.H p (.lst vs)) :=
  h (W.add p (.lst vs)) (.add I hp) (I.add hp trivial) (.ref p) (by
    simp only [Rp]
    exact ⟨p, vs, rfl, upd_same, RpL.mono (Wd.add_gro (I.fnone hp)) ds vs r⟩)
theorem sim_tup (hr : SimA Γ E tr mr) : SimE Γ E (tTup tr) (mCall dTup mr) := fun σ W S env Q I N h =>
  hr σ W S env _ I N (h.bnd.imp fun xs S1 W1 s1 I1 h1 vs rs => by
    obtain ⟨l, h2⟩ := h1.dTup
    exact ⟨by rw [rs.length]; exact l, fun p hp => new_tup I1 rs h2 p hp⟩)
theorem sim_lst (hr : SimA Γ E tr mr) : SimE Γ E (tLst tr) (mCall dLst mr) := fun σ W S env Q I N h =>
  hr σ W S env _ I N (h.bnd.imp fun xs S1 W1 s1 I1 h1 vs rs => by
    obtain ⟨l, h2⟩ := h1.dLst
    exact ⟨by rw [rs.length]; exact l, fun p hp => new_lst I1 rs h2 p hp⟩)
theorem je_tup {x1} (hr : JA X E es tr mr) : JE X E (.Tuple es x1 pos) (tTup tr) (mCall dTup mr) := ⟨pe_tup hr.pa, sim_tup hr.sim⟩
theorem je_lst (hr : JA X E es tr mr) : JE X E (.List es pos) (tLst tr) (mCall dLst mr) := ⟨pe_lst hr.pa, sim_lst hr.sim⟩
end
end Fw

namespace Fw
open PySem PySem.Spec PyProof.Rows L2

theorem OpR.or {X : Cx} {f : Value → Value → Sem Value} {r r' : R2} (h : OpR X f r) (h' : OpR X f r') : OpR X f (fun x y H Q => r x y H Q ∨ r' x y H Q) := by
  intro pins s σ H x y v u Q I rx ry q
  rcases q with q | q
  · exact h pins s σ H x y v u Q I rx ry q
  · exact h' pins s σ H x y v u Q I rx ry q
abbrev rOr (r r' : R2) : R2 := fun x y H Q => r x y H Q ∨ r' x y H Q

/-! ### data as the library's -/
mutual
def D.py : D → Option PyData
  | .non => some .none
  | .bl b => some (.bool b)
  | .int i => some (.int i)
  | .str s => some (.str s)
  | .lst ds => (pyL ds).map .list
  | .tup ds => (pyL ds).map .tuple
  | _ => none
def pyL : List D → Option (List PyData)
  | [] => some []
  | d :: ds => match D.py d, pyL ds with
    | some x, some xs => some (x :: xs)
    | _, _ => none
end
section
variable {Γ : Gm} {W : Wd} {S : Sto}
mutual
theorem Rp.dp (I : Ok Γ W S) : ∀ (d : D) (v : V) (p : PyData), Rp Γ.K W.ρ W.F d v → d.py = some p → Dp Γ.K W.H v p
  | .non, v, p, h, e => by simp only [Rp] at h; simp only [D.py] at e; cases e; subst h; exact .non
  | .bl b, v, p, h, e => by simp only [Rp] at h; simp only [D.py] at e; cases e; subst h; exact .bl b
  | .int b, v, p, h, e => by simp only [Rp] at h; simp only [D.py] at e; cases e; subst h; exact .int b
  | .str b, v, p, h, e => by simp only [Rp] at h; simp only [D.py] at e; cases e; subst h; exact .str b
  | .lst ds, v, p, h, e => by
    simp only [Rp] at h; simp only [D.py] at e
    obtain ⟨a, vs, rfl, h1, h2⟩ := h
    obtain ⟨ps, e1, rfl⟩ := Option.map_eq_some_iff.mp e
    exact .lst (I.lst h1) (RpL.dp I ds vs ps h2 e1)
  | .tup ds, v, p, h, e => by
    simp only [Rp] at h; simp only [D.py] at e
    obtain ⟨a, vs, rfl, h1, h2⟩ := h
    obtain ⟨ps, e1, rfl⟩ := Option.map_eq_some_iff.mp e
    exact .tup (I.tup h1) (RpL.dp I ds vs ps h2 e1)
  | .dic ds, v, p, h, e => by simp only [D.py] at e; cases e
  | .obj n, v, p, h, e => by simp only [D.py] at e; cases e
  | .val n, v, p, h, e => by simp only [D.py] at e; cases e
  | .scr n, v, p, h, e => by simp only [D.py] at e; cases e
  | .bdic n, v, p, h, e => by simp only [D.py] at e; cases e
theorem RpL.dp (I : Ok Γ W S) : ∀ (ds : List D) (vs : List V) (ps : List PyData), RpL Γ.K W.ρ W.F ds vs → pyL ds = some ps → DpAll Γ.K W.H vs ps
  | [], vs, ps, h, e => by
    obtain rfl := h.inv0
    simp only [pyL] at e; cases e
    exact .nil
  | d :: ds, vs, ps, h, e => by
    obtain ⟨v, r, rfl, h1, h2⟩ := h.inv
    simp only [pyL] at e
    cases e1 : D.py d with
    | none => rw [e1] at e; cases e
    | some x =>
      cases e2 : pyL ds with
      | none => rw [e1, e2] at e; cases e
      | some xs =>
        rw [e1, e2] at e; cases e
        exact .cons (Rp.dp I d v x h1 e1) (RpL.dp I ds r xs h2 e2)
end
end

/-! ### operators on data -/
open M in
def oAdd : D → D → M D
  | .int i, .int j => ret (.int (i + j))
  | .str i, .str j => bnd (small (i.length + j.length)) fun _ => ret (.str (i ++ j))
  | .tup xs, .tup ys => bnd (small (xs.length + ys.length)) fun _ => ret (.tup (xs ++ ys))
  | .lst xs, .lst ys => bnd (small (xs.length + ys.length)) fun _ => ret (.lst (xs ++ ys))
  | _, _ => stk
open M in
def oSub : D → D → M D
  | .int i, .int j => ret (.int (i - j))
  | _, _ => stk
def near64 (i : Int) : Bool := decide (-(2 ^ 64) < i) && decide (i < 2 ^ 64)
open M in
def oMul : D → D → M D
  | .int i, .int j => bnd (ass (near64 i || near64 j)) fun _ => ret (.int (i * j))
  | _, _ => stk
open M in
def oFdiv : D → D → M D
  | .int i, .int j => bnd (ass (decide (j ≠ 0) && decide (j.natAbs < 1073741824))) fun _ => ret (.int (i.fdiv j))
  | _, _ => stk
open M in
def oMod : D → D → M D
  | .int i, .int j => bnd (ass (decide (j ≠ 0))) fun _ => ret (.int (i.fmod j))
  | _, _ => stk
open M in
def oPow : D → D → M D
  | .int i, .int j => bnd (ass (decide (0 ≤ j) && decide (j ≤ 1000000) && decide (i.natAbs < 2 ^ 64))) fun _ => ret (.int (i ^ j.toNat))
  | _, _ => stk
open M in
def oEq (x y : D) : M D := match x.py, y.py with
  | some d, some e => bnd (ass (SeqAt.shaped d && SeqAt.shaped e)) fun _ => ret (.bl (PyData.eqv d e))
  | _, _ => stk
open M in
def oNe (x y : D) : M D := match x.py, y.py with
  | some d, some e => bnd (ass (SeqAt.shaped d && SeqAt.shaped e)) fun _ => ret (.bl (!PyData.eqv d e))
  | _, _ => stk
open M in
def oInt (p : Int → Int → Bool) : D → D → M D
  | .int i, .int j => ret (.bl (p i j))
  | _, _ => stk
open M in
def oIsN (x y : D) : M D := match y with
  | .non => match x with
    | .non => ret (.bl true)
    | .val _ => stk
    | _ => ret (.bl false)
  | _ => stk
open M in
def oNotN (x y : D) : M D := match y with
  | .non => match x with
    | .non => ret (.bl false)
    | .val _ => stk
    | _ => ret (.bl true)
  | _ => stk
def D.key : D → Option Key
  | .int i => some (.inl i)
  | .str s => some (.inr s)
  | _ => none
def dlook (kvs : List (Key × D)) (k : Key) : Option D := (kvs.find? fun kv => decide (kv.1 = k)).map (·.2)
def dput (kvs : List (Key × D)) (k : Key) (v : D) : List (Key × D) := if (kvs.any fun kv => decide (kv.1 = k)) = true then kvs.map (fun kv => if kv.1 = k then (kv.1, v) else kv) else kvs ++ [(k, v)]
def ddrop (kvs : List (Key × D)) (k : Key) : List (Key × D) := kvs.filter fun kv => decide (kv.1 ≠ k)
def seqD : D → Option (List D)
  | .lst ds => some ds
  | .tup ds => some ds
  | _ => none
open M in
def oIn (neg : Bool) (x y : D) : M D := match y with
  | .dic kvs => bnd (opt x.key) fun k => ret (.bl (neg != (dlook kvs k).isSome))
  | .bdic kvs => bnd (opt x.key) fun k => ret (.bl (neg != (dlook kvs k).isSome))
  | .str t => match x with
    | .str s => ret (.bl (neg != !(Builtin.Str.occurrences t s 0 t.length 1).isEmpty))
    | _ => stk
  | .lst ys => match x.py, pyL ys with
    | some d, some e => bnd (ass (SeqAt.shaped d && SeqAt.shaped (.list e))) fun _ => ret (.bl (neg != e.any fun z => PyData.eqv z d))
    | _, _ => stk
  | .tup ys => match x.py, pyL ys with
    | some d, some e => bnd (ass (SeqAt.shaped d && SeqAt.shaped (.tuple e))) fun _ => ret (.bl (neg != e.any fun z => PyData.eqv z d))
    | _, _ => stk
  | _ => stk
open M in
def oIx (x y : D) : M D := match x, y with
  | .lst ds, .int i => opt (atI ds i)
  | .tup ds, .int i => opt (atI ds i)
  | .str z, .int i => bnd (small z.length) fun _ => bnd (opt (atI z.cps.toList i)) fun c => ret (.str ⟨#[c]⟩)
  | .dic kvs, k => bnd (opt k.key) fun k => opt (dlook kvs k)
  | .bdic kvs, k => bnd (opt k.key) fun k => opt (dlook kvs k)
  | _, _ => stk

section
variable {X : Cx} {E : XK} {Γ : Gm}
theorem sz_add {xs ys : List D} {vs us : List V} {K : PySem.W.Frag} {ρ : List Addr} {F : Hp} (a : RpL K ρ F xs vs) (b : RpL K ρ F ys us) (h : xs.length + ys.length ≤ sizeLine) : vs.length + us.length ≤ sizeLine := by rw [a.length, b.length]; exact h
theorem ResG.small {α : Type} {n : Nat} {f : Unit → M α} {W : Wd} {S : Sto} {k : α → Sto → Wd → Prop} (h : ResG Γ E W (M.bnd (small n) f S) k) : n ≤ sizeLine ∧ ResG Γ E W (f () S) k := by
  obtain ⟨h1, h2⟩ := h.ass
  exact ⟨of_decide_eq_true h1, h2⟩
def rAddS : R2 := fun x y H Q => ∃ i j, x = .str i ∧ y = .str j ∧ i.length + j.length ≤ sizeLine ∧ Q (.str (i ++ j)) H
theorem op_addAny : OpR X (binaryOp .Add) (rOr (rI0 fun i j => .int (i + j)) (rOr rAddS (rOr (rCatA X.K) rCat))) := OpR.or op_add (OpR.or op_add_str (OpR.or op_catA op_cat))
theorem sim_add : OpSim Γ (rOr (rI0 fun i j => .int (i + j)) (rOr rAddS (rOr (rCatA Γ.K) rCat))) oAdd := by
  intro E W S x y dx dy Q I rx ry h
  unfold oAdd at h
  split at h
  · simp only [Rp] at rx ry; subst rx ry
    exact .inl ⟨_, _, rfl, rfl, h.ret I _ rp_int⟩
  · simp only [Rp] at rx ry; subst rx ry
    obtain ⟨hl, h⟩ := h.small
    exact .inr (.inl ⟨_, _, rfl, rfl, hl, h.ret I _ rp_str⟩)
  · simp only [Rp] at rx ry
    obtain ⟨hl, h⟩ := h.small
    obtain ⟨a, vs, rfl, t1, l1⟩ := rx
    obtain ⟨b, us, rfl, t2, l2⟩ := ry
    refine .inr (.inr (.inl ⟨a, b, vs, us, rfl, rfl, I.tup t1, I.tup t2, sz_add l1 l2 hl, fun e => ?_, fun _ e => ?_, fun _ _ p hp => ?_⟩))
    · subst e
      have q := l1.length
      rename_i xs ys _
      obtain rfl : xs = [] := List.eq_nil_of_length_eq_zero (by simpa using q.symm)
      refine h.ret I _ ?_
      simp only [Rp]
      exact ⟨b, us, rfl, t2, l2⟩
    · subst e
      have q := l2.length
      rename_i xs ys _ _
      obtain rfl : ys = [] := List.eq_nil_of_length_eq_zero (by simpa using q.symm)
      refine h.ret I _ ?_
      simp only [Rp]
      exact ⟨a, vs, rfl, t1, by rw [List.append_nil]; exact l1⟩
    · exact new_tup I (l1.append l2) h p hp
  · simp only [Rp] at rx ry
    obtain ⟨hl, h⟩ := h.small
    obtain ⟨a, vs, rfl, t1, l1⟩ := rx
    obtain ⟨b, us, rfl, t2, l2⟩ := ry
    exact .inr (.inr (.inr ⟨a, b, vs, us, rfl, rfl, I.lstF t1, I.lstF t2, sz_add l1 l2 hl, fun p hp => new_lst I (l1.append l2) h p hp⟩))
  · exact h.elim
theorem sim_sub : OpSim Γ (rI0 fun i j => .int (i - j)) oSub := by
  intro E W S x y dx dy Q I rx ry h
  unfold oSub at h
  split at h
  · simp only [Rp] at rx ry; subst rx ry
    exact ⟨_, _, rfl, rfl, h.ret I _ rp_int⟩
  · exact h.elim
theorem near_of {i j : Int} (h : (near64 i || near64 j) = true) : CMul i j := by
  unfold near64 at h
  rcases Bool.or_eq_true_iff.mp h with h | h
  · obtain ⟨a, b⟩ := Bool.and_eq_true_iff.mp h
    exact .inl ⟨of_decide_eq_true a, of_decide_eq_true b⟩
  · obtain ⟨a, b⟩ := Bool.and_eq_true_iff.mp h
    exact .inr ⟨of_decide_eq_true a, of_decide_eq_true b⟩
theorem sim_mul : OpSim Γ (rI CMul fun i j => .int (i * j)) oMul := by
  intro E W S x y dx dy Q I rx ry h
  unfold oMul at h
  split at h
  · simp only [Rp] at rx ry; subst rx ry
    obtain ⟨hc, h⟩ := h.ass
    exact ⟨_, _, rfl, rfl, near_of hc, h.ret I _ rp_int⟩
  · exact h.elim
theorem sim_fdiv : OpSim Γ (rI CDivN fun i j => .int (i.fdiv j)) oFdiv := by
  intro E W S x y dx dy Q I rx ry h
  unfold oFdiv at h
  split at h
  · simp only [Rp] at rx ry; subst rx ry
    obtain ⟨hc, h⟩ := h.ass
    obtain ⟨a, b⟩ := Bool.and_eq_true_iff.mp hc
    exact ⟨_, _, rfl, rfl, ⟨of_decide_eq_true a, of_decide_eq_true b⟩, h.ret I _ rp_int⟩
  · exact h.elim
theorem sim_mod : OpSim Γ (rI (fun _ j => j ≠ 0) fun i j => .int (i.fmod j)) oMod := by
  intro E W S x y dx dy Q I rx ry h
  unfold oMod at h
  split at h
  · simp only [Rp] at rx ry; subst rx ry
    obtain ⟨hc, h⟩ := h.ass
    exact ⟨_, _, rfl, rfl, of_decide_eq_true hc, h.ret I _ rp_int⟩
  · exact h.elim
theorem sim_pow : OpSim Γ (rI CPow fun i j => .int (i ^ j.toNat)) oPow := by
  intro E W S x y dx dy Q I rx ry h
  unfold oPow at h
  split at h
  · simp only [Rp] at rx ry; subst rx ry
    obtain ⟨hc, h⟩ := h.ass
    obtain ⟨a, b⟩ := Bool.and_eq_true_iff.mp hc
    obtain ⟨a, c⟩ := Bool.and_eq_true_iff.mp a
    exact ⟨_, _, rfl, rfl, ⟨of_decide_eq_true a, of_decide_eq_true c, of_decide_eq_true b⟩, h.ret I _ rp_int⟩
  · exact h.elim
theorem sim_eq : OpSim Γ (rEqD Γ.K) oEq := by
  intro E W S x y dx dy Q I rx ry h
  unfold oEq at h
  cases hd : dx.py with
  | none => rw [hd] at h; exact h.elim
  | some d =>
    cases he : dy.py with
    | none => rw [hd, he] at h; exact h.elim
    | some e =>
      rw [hd, he] at h
      obtain ⟨hc, h⟩ := ResG.ass h
      obtain ⟨a, b⟩ := Bool.and_eq_true_iff.mp hc
      exact ⟨d, e, Rp.dp I _ _ _ rx hd, Rp.dp I _ _ _ ry he, a, b, h.ret I _ rp_bl⟩
theorem sim_ne : OpSim Γ (rNeD Γ.K) oNe := by
  intro E W S x y dx dy Q I rx ry h
  unfold oNe at h
  cases hd : dx.py with
  | none => rw [hd] at h; exact h.elim
  | some d =>
    cases he : dy.py with
    | none => rw [hd, he] at h; exact h.elim
    | some e =>
      rw [hd, he] at h
      obtain ⟨hc, h⟩ := ResG.ass h
      obtain ⟨a, b⟩ := Bool.and_eq_true_iff.mp hc
      exact ⟨d, e, Rp.dp I _ _ _ rx hd, Rp.dp I _ _ _ ry he, a, b, h.ret I _ rp_bl⟩
theorem sim_int {p : Int → Int → Bool} : OpSim Γ (rI0 fun i j => .bl (p i j)) (oInt p) := by
  intro E W S x y dx dy Q I rx ry h
  unfold oInt at h
  split at h
  · simp only [Rp] at rx ry; subst rx ry
    exact ⟨_, _, rfl, rfl, h.ret I _ rp_bl⟩
  · exact h.elim
def rIsN2 : R2 := fun x y H Q => y = .non ∧ Q (.bl (decide (x = .non))) H
def rNotN2 : R2 := fun x y H Q => y = .non ∧ Q (.bl (!decide (x = .non))) H
theorem rp_non_iff {K : PySem.W.Frag} {ρ : List Addr} {F : Hp} {d : D} {v : V} (h : Rp K ρ F d v) (hv : ∀ u, d ≠ .val u) : v = .non ↔ d = .non := by
  cases d with
  | non => simp only [Rp] at h; exact ⟨fun _ => rfl, fun _ => h⟩
  | val u => exact absurd rfl (hv u)
  | bl _ => simp only [Rp] at h; subst h; exact ⟨fun z => (by cases z), fun z => (by cases z)⟩
  | int _ => simp only [Rp] at h; subst h; exact ⟨fun z => (by cases z), fun z => (by cases z)⟩
  | str _ => simp only [Rp] at h; subst h; exact ⟨fun z => (by cases z), fun z => (by cases z)⟩
  | lst _ => simp only [Rp] at h; obtain ⟨a, vs, rfl, _⟩ := h; exact ⟨fun z => (by cases z), fun z => (by cases z)⟩
  | tup _ => simp only [Rp] at h; obtain ⟨a, vs, rfl, _⟩ := h; exact ⟨fun z => (by cases z), fun z => (by cases z)⟩
  | bdic _ => simp only [Rp] at h; obtain ⟨a, vs, rfl, _⟩ := h; exact ⟨fun z => (by cases z), fun z => (by cases z)⟩
  | dic _ => simp only [Rp] at h; obtain ⟨a, vs, od, rfl, _⟩ := h; exact ⟨fun z => (by cases z), fun z => (by cases z)⟩
  | obj _ => simp only [Rp] at h; obtain ⟨a, rfl, _⟩ := h; exact ⟨fun z => (by cases z), fun z => (by cases z)⟩
  | scr _ => simp only [Rp] at h; obtain ⟨a, vs, rfl, _⟩ := h; exact ⟨fun z => (by cases z), fun z => (by cases z)⟩
theorem sim_isN : OpSim Γ rIsN2 oIsN := by
  intro E W S x y dx dy Q I rx ry h
  unfold oIsN at h
  split at h
  · simp only [Rp] at ry; subst ry
    split at h
    · simp only [Rp] at rx; subst rx; exact ⟨rfl, h.ret I _ rp_bl⟩
    · exact h.elim
    · rename_i h1 h2
      refine ⟨rfl, ?_⟩
      rw [decide_eq_false fun z => h1 ((rp_non_iff rx h2).mp z)]
      exact h.ret I _ rp_bl
  · exact h.elim
theorem sim_notN : OpSim Γ rNotN2 oNotN := by
  intro E W S x y dx dy Q I rx ry h
  unfold oNotN at h
  split at h
  · simp only [Rp] at ry; subst ry
    split at h
    · simp only [Rp] at rx; subst rx; exact ⟨rfl, h.ret I _ rp_bl⟩
    · exact h.elim
    · rename_i h1 h2
      refine ⟨rfl, ?_⟩
      rw [decide_eq_false fun z => h1 ((rp_non_iff rx h2).mp z)]
      exact h.ret I _ rp_bl
  · exact h.elim
/-! ### dicts by keys -/
theorem key_kV {K : PySem.W.Frag} {ρ : List Addr} {F : Hp} {d : D} {v : V} {k : Key} (h : Rp K ρ F d v) (e : d.key = some k) : v = kV k := by
  cases d <;> simp only [D.key] at e <;> cases e <;> simp only [Rp] at h <;> exact h
theorem RpK.look {K : PySem.W.Frag} {ρ : List Addr} {F : Hp} : ∀ {ds : List (Key × D)} {vs : List (Key × V)} (k : Key), RpK K ρ F ds vs →
    (match dlook ds k with | some d => ∃ v, valV vs k = some v ∧ Rp K ρ F d v | none => valV vs k = none)
  | [], vs, k, h => by obtain rfl := h.inv0; exact rfl
  | (k', d) :: ds, vs, k, h => by
    obtain ⟨v, r, rfl, h1, h2⟩ := h.inv
    by_cases e : k' = k
    · subst e
      have : dlook ((k', d) :: ds) k' = some d := by simp [dlook]
      rw [this]
      exact ⟨v, valV_pos rfl, h1⟩
    · have q : dlook ((k', d) :: ds) k = dlook ds k := by simp [dlook, List.find?_cons, e]
      rw [q, valV_neg (by exact e)]
      exact RpK.look k h2
theorem RpK.look_some {K : PySem.W.Frag} {ρ : List Addr} {F : Hp} {ds : List (Key × D)} {vs : List (Key × V)} {k : Key} {d : D} (h : RpK K ρ F ds vs) (e : dlook ds k = some d) : ∃ v, valV vs k = some v ∧ Rp K ρ F d v := by
  have q := RpK.look k h
  rw [e] at q; exact q
theorem RpK.look_is {K : PySem.W.Frag} {ρ : List Addr} {F : Hp} {ds : List (Key × D)} {vs : List (Key × V)} (k : Key) (h : RpK K ρ F ds vs) : (valV vs k).isSome = (dlook ds k).isSome := by
  have q := RpK.look k h
  cases e : dlook ds k with
  | none => rw [e] at q; rw [show valV vs k = none from q]; rfl
  | some d =>
    rw [e] at q
    obtain ⟨v, q, _⟩ := q
    rw [q]; rfl
theorem RpK.append {K : PySem.W.Frag} {ρ : List Addr} {F : Hp} : ∀ {ds es : List (Key × D)} {vs us : List (Key × V)}, RpK K ρ F ds vs → RpK K ρ F es us → RpK K ρ F (ds ++ es) (vs ++ us)
  | [], es, vs, us, h, q => by obtain rfl := h.inv0; simpa using q
  | (k, d) :: ds, es, vs, us, h, q => by
    obtain ⟨v, r, rfl, h1, h2⟩ := h.inv
    exact .cons h1 (RpK.append h2 q)
theorem RpK.mapPut {K : PySem.W.Frag} {ρ : List Addr} {F : Hp} {k : Key} {d : D} {v : V} (hd : Rp K ρ F d v) : ∀ {ds : List (Key × D)} {vs : List (Key × V)}, RpK K ρ F ds vs →
    RpK K ρ F (ds.map fun kv => if kv.1 = k then (kv.1, d) else kv) (vs.map fun kv => if kv.1 = k then (kv.1, v) else kv)
  | [], vs, h => by obtain rfl := h.inv0; exact .nil
  | (k', d') :: ds, vs, h => by
    obtain ⟨v', r, rfl, h1, h2⟩ := h.inv
    by_cases e : k' = k
    · rw [List.map_cons, List.map_cons, if_pos e, if_pos e]; exact .cons hd (RpK.mapPut hd h2)
    · rw [List.map_cons, List.map_cons, if_neg e, if_neg e]; exact .cons h1 (RpK.mapPut hd h2)
theorem RpK.any {K : PySem.W.Frag} {ρ : List Addr} {F : Hp} {k : Key} : ∀ {ds : List (Key × D)} {vs : List (Key × V)}, RpK K ρ F ds vs → (vs.any fun kv => decide (kv.1 = k)) = ds.any fun kv => decide (kv.1 = k)
  | [], vs, h => by obtain rfl := h.inv0; rfl
  | (k', d') :: ds, vs, h => by
    obtain ⟨v', r, rfl, h1, h2⟩ := h.inv
    rw [List.any_cons, List.any_cons, RpK.any h2]
theorem RpK.put {K : PySem.W.Frag} {ρ : List Addr} {F : Hp} {k : Key} {d : D} {v : V} (hd : Rp K ρ F d v) {ds : List (Key × D)} {vs : List (Key × V)} (h : RpK K ρ F ds vs) : RpK K ρ F (dput ds k d) (putK vs k v) := by
  unfold dput putK
  rw [RpK.any h]
  split
  · exact RpK.mapPut hd h
  · exact RpK.append h (.cons hd .nil)
theorem RpK.drop {K : PySem.W.Frag} {ρ : List Addr} {F : Hp} {k : Key} : ∀ {ds : List (Key × D)} {vs : List (Key × V)}, RpK K ρ F ds vs → RpK K ρ F (ddrop ds k) (dropK vs k)
  | [], vs, h => by obtain rfl := h.inv0; exact .nil
  | (k', d') :: ds, vs, h => by
    obtain ⟨v', r, rfl, h1, h2⟩ := h.inv
    have ih := RpK.drop (k := k) h2
    unfold ddrop dropK at ih ⊢
    by_cases e : k' = k
    · rw [List.filter_cons_of_neg (by simpa using e), List.filter_cons_of_neg (by simpa using e)]; exact ih
    · rw [List.filter_cons_of_pos (by simpa using e), List.filter_cons_of_pos (by simpa using e)]; exact .cons h1 ih
/-! ### in -/
def rInT (neg : Bool) (K : PySem.W.Frag) : R2 := fun x y H Q => ∃ d ds, Dp K H x d ∧ Dp K H y (.tuple ds) ∧ SeqAt.shaped d = true ∧ SeqAt.shaped (.tuple ds) = true ∧ Q (.bl (neg != ds.any fun z => PyData.eqv z d)) H
theorem shT {ds : List PyData} (h : SeqAt.shaped (.tuple ds) = true) : PyData.canLayAll0 ds = true := by
  have := SeqAt.canLay_of_shaped h
  simpa only [PyData.canLay0] using this
theorem op_inT (hu : X.A.units + 65 < cLine) : OpR X (compareOp .In) (rInT false X.K) := by
  intro pins s σ H x y v u Q I rx ry h
  obtain ⟨d, ds, hd, he, sd, se, q⟩ := h
  obtain ⟨as, r1⟩ := Dp.reads I d x v hd rx
  obtain ⟨bs, r2⟩ := Dp.reads I (.tuple ds) y u he ry
  exact SeqAt.in_tuple_reads r2 r1 (shT se) (SeqAt.canLay_of_shaped sd) (by have := SeqAt.depth_of_shaped sd; have := Nat.min_le_right (PyData.depthAll ds) d.depth; omega) ⟨.bl _, H, I, rfl, by simpa using q⟩
theorem op_notInT (hu : X.A.units + 65 < cLine) : OpR X (compareOp .NotIn) (rInT true X.K) := by
  intro pins s σ H x y v u Q I rx ry h
  obtain ⟨d, ds, hd, he, sd, se, q⟩ := h
  obtain ⟨as, r1⟩ := Dp.reads I d x v hd rx
  obtain ⟨bs, r2⟩ := Dp.reads I (.tuple ds) y u he ry
  exact SeqAt.notIn_tuple_reads r2 r1 (shT se) (SeqAt.canLay_of_shaped sd) (by have := SeqAt.depth_of_shaped sd; have := Nat.min_le_right (PyData.depthAll ds) d.depth; omega) ⟨.bl _, H, I, rfl, by simpa using q⟩
def rInDic (neg : Bool) : R2 := fun y x H Q => ∃ a o, x = .ref a ∧ DGet H a y o ∧ Q (.bl (neg != o.isSome)) H
theorem op_inDic (hu : X.A.units + 1 < cLine) : OpR X (compareOp .In) (rInDic false) := by
  intro pins s σ H y x v u Q I ry rx h
  obtain ⟨a, o, rfl, g, q⟩ := h
  cases rx
  exact d_in hu I g ry fun s3 I3 => ⟨.bl o.isSome, H, I3, rfl, by simpa using q⟩
theorem op_notInDic (hu : X.A.units + 1 < cLine) : OpR X (compareOp .NotIn) (rInDic true) := by
  intro pins s σ H y x v u Q I ry rx h
  obtain ⟨a, o, rfl, g, q⟩ := h
  cases rx
  exact d_notIn hu I g ry fun s3 I3 => ⟨.bl (!o.isSome), H, I3, rfl, by simpa using q⟩
def rInStr (neg : Bool) : R2 := fun x y H Q => ∃ i j, x = .str i ∧ y = .str j ∧ Q (.bl (neg != !(Builtin.Str.occurrences j i 0 j.length 1).isEmpty)) H
theorem op_inStr : OpR X (compareOp .In) (rInStr false) := by
  intro pins s σ H x y v u Q I rx ry h
  obtain ⟨i, j, rfl, rfl, q⟩ := h
  exact op_in_str pins s σ H _ _ v u Q I rx ry ⟨i, j, rfl, rfl, by simpa using q⟩
theorem op_notInStr : OpR X (compareOp .NotIn) (rInStr true) := by
  intro pins s σ H x y v u Q I rx ry h
  obtain ⟨i, j, rfl, rfl, q⟩ := h
  exact op_notin_str pins s σ H _ _ v u Q I rx ry ⟨i, j, rfl, rfl, by simpa using q⟩
def rInL (neg : Bool) (K : PySem.W.Frag) : R2 := fun x y H Q => ∃ d ds, Dp K H x d ∧ Dp K H y (.list ds) ∧ SeqAt.shaped d = true ∧ SeqAt.shaped (.list ds) = true ∧ Q (.bl (neg != ds.any fun z => PyData.eqv z d)) H
theorem op_inL (hu : X.A.units + 65 < cLine) : OpR X (compareOp .In) (rInL false X.K) := by
  intro pins s σ H x y v u Q I rx ry h
  obtain ⟨d, ds, hd, he, sd, se, q⟩ := h
  exact op_inD hu pins s σ H x y v u Q I rx ry ⟨d, ds, hd, he, sd, se, by simpa using q⟩
theorem op_notInL (hu : X.A.units + 65 < cLine) : OpR X (compareOp .NotIn) (rInL true X.K) := by
  intro pins s σ H x y v u Q I rx ry h
  obtain ⟨d, ds, hd, he, sd, se, q⟩ := h
  exact op_notInD hu pins s σ H x y v u Q I rx ry ⟨d, ds, hd, he, sd, se, by simpa using q⟩
abbrev rInAny (neg : Bool) (K : PySem.W.Frag) : R2 := rOr (rInDic neg) (rOr (rInStr neg) (rOr (rInL neg K) (rInT neg K)))
theorem op_inAny (hu : X.A.units + 65 < cLine) : OpR X (compareOp .In) (rInAny false X.K) := OpR.or (op_inDic (by omega)) (OpR.or op_inStr (OpR.or (op_inL hu) (op_inT hu)))
theorem op_notInAny (hu : X.A.units + 65 < cLine) : OpR X (compareOp .NotIn) (rInAny true X.K) := OpR.or (op_notInDic (by omega)) (OpR.or op_notInStr (OpR.or (op_notInL hu) (op_notInT hu)))
theorem sim_in {neg : Bool} : OpSim Γ (rInAny neg Γ.K) (oIn neg) := by
  intro E W S x y dx dy Q I rx ry h
  unfold oIn at h
  split at h
  · rename_i kvs
    obtain ⟨k, hk, h⟩ := h.opt
    simp only [Rp] at ry
    obtain ⟨a, vs, od, rfl, e, rk⟩ := ry
    obtain rfl := key_kV rx hk
    refine .inl ⟨a, valV vs k, rfl, .inl ⟨vs, k, I.dic e, rfl, rfl⟩, ?_⟩
    rw [rk.look_is]
    exact h.ret I _ rp_bl
  · rename_i kvs
    obtain ⟨k, hk, h⟩ := h.opt
    simp only [Rp] at ry
    obtain ⟨a, vs, rfl, e, rk⟩ := ry
    obtain rfl := key_kV rx hk
    refine .inl ⟨a, valV vs k, rfl, .inl ⟨vs, k, I.bdic e, rfl, rfl⟩, ?_⟩
    rw [rk.look_is]
    exact h.ret I _ rp_bl
  · simp only [Rp] at ry; subst ry
    split at h
    · simp only [Rp] at rx; subst rx
      exact .inr (.inl ⟨_, _, rfl, rfl, h.ret I _ rp_bl⟩)
    · exact h.elim
  · rename_i ys
    cases hd : dx.py with
    | none => rw [hd] at h; exact h.elim
    | some d =>
      cases he : pyL ys with
      | none => rw [hd, he] at h; exact h.elim
      | some e =>
        rw [hd, he] at h
        obtain ⟨hc, h⟩ := ResG.ass h
        obtain ⟨a, b⟩ := Bool.and_eq_true_iff.mp hc
        exact .inr (.inr (.inl ⟨d, e, Rp.dp I _ _ _ rx hd, Rp.dp I _ _ (.list e) ry (by simp only [D.py, he, Option.map_some]), a, b, h.ret I _ rp_bl⟩))
  · rename_i ys
    cases hd : dx.py with
    | none => rw [hd] at h; exact h.elim
    | some d =>
      cases he : pyL ys with
      | none => rw [hd, he] at h; exact h.elim
      | some e =>
        rw [hd, he] at h
        obtain ⟨hc, h⟩ := ResG.ass h
        obtain ⟨a, b⟩ := Bool.and_eq_true_iff.mp hc
        exact .inr (.inr (.inr ⟨d, e, Rp.dp I _ _ _ rx hd, Rp.dp I _ _ (.tuple e) ry (by simp only [D.py, he, Option.map_some]), a, b, h.ret I _ rp_bl⟩))
  · exact h.elim
/-! ### subscripts -/
def rIxD : R2 := fun x y H Q => ∃ a v, x = .ref a ∧ DGet H a y (some v) ∧ Q v H
theorem ix_dic (hu : X.A.units + 1 < cLine) : IxR X rIxD := by
  intro value slice pins s σ H x y v u Q I rx ry h hs
  obtain ⟨a, w, rfl, g, q⟩ := h
  cases rx
  exact tail_any (dict_typeIs I g) PySem.F.slot_dict_getitem.lookup (d_getItem hu I g ry fun w' s3 I3 rw' => ⟨w, H, I3, rw', q⟩) hs
abbrev rIxAny (K : PySem.W.Frag) : R2 := rOr (rIx K) rIxD
theorem ix_any (hu : X.A.units + 1 < cLine) : IxR X (rIxAny X.K) := IxR.or ix_seq (ix_dic hu)
theorem atI_map {ds : List D} {vs : List V} {i : Int} {d : D} {K : PySem.W.Frag} {ρ : List Addr} {F : Hp} (r : RpL K ρ F ds vs) (h : atI ds i = some d) : ∃ v, atI vs i = some v ∧ Rp K ρ F d v := by
  unfold atI at h ⊢
  rw [r.length]
  cases e : ixN ds.length i with
  | none => rw [e] at h; cases h
  | some j =>
    rw [e] at h
    exact r.get (i := j) h
theorem sim_ix : OpSim Γ (rIxAny Γ.K) oIx := by
  intro E W S x y dx dy Q I rx ry h
  unfold oIx at h
  split at h
  · rename_i ds i
    rw [← M.bnd_ret (M.opt _)] at h
    obtain ⟨d, hd, h⟩ := h.opt
    simp only [Rp] at rx ry
    obtain ⟨a, vs, rfl, e, r⟩ := rx
    subst ry
    obtain ⟨v, hv, rv⟩ := atI_map r hd
    exact .inl (.inl ⟨a, vs, i, v, rfl, rfl, I.lst e, hv, h.ret I _ rv⟩)
  · rename_i ds i
    rw [← M.bnd_ret (M.opt _)] at h
    obtain ⟨d, hd, h⟩ := h.opt
    simp only [Rp] at rx ry
    obtain ⟨a, vs, rfl, e, r⟩ := rx
    subst ry
    obtain ⟨v, hv, rv⟩ := atI_map r hd
    exact .inl (.inr (.inl ⟨a, vs, i, v, rfl, rfl, I.tup e, hv, h.ret I _ rv⟩))
  · simp only [Rp] at rx ry
    subst rx ry
    obtain ⟨hl, h⟩ := h.small
    obtain ⟨c, hc, h⟩ := h.opt
    exact .inl (.inr (.inr ⟨_, _, c, rfl, rfl, hl, hc, h.ret I _ rp_str⟩))
  · obtain ⟨k, hk, h⟩ := h.opt
    rw [← M.bnd_ret (M.opt _)] at h
    obtain ⟨d, hd, h⟩ := h.opt
    simp only [Rp] at rx
    obtain ⟨a, vs, od, rfl, e, rk⟩ := rx
    obtain rfl := key_kV ry hk
    obtain ⟨v, hv, rv⟩ := rk.look_some hd
    exact .inr ⟨a, v, rfl, .inl ⟨vs, k, I.dic e, rfl, hv.symm⟩, h.ret I _ rv⟩
  · obtain ⟨k, hk, h⟩ := h.opt
    rw [← M.bnd_ret (M.opt _)] at h
    obtain ⟨d, hd, h⟩ := h.opt
    simp only [Rp] at rx
    obtain ⟨a, vs, rfl, e, rk⟩ := rx
    obtain rfl := key_kV ry hk
    obtain ⟨v, hv, rv⟩ := rk.look_some hd
    exact .inr ⟨a, v, rfl, .inl ⟨vs, k, I.bdic e, rfl, hv.symm⟩, h.ret I _ rv⟩
  · exact h.elim
end
end Fw

namespace Fw
open PySem PySem.Spec PyProof.Rows L2

/-- items of three lists, by places -/
def sel {α : Type} : List (Nat × Nat) → List α → List α → List α → List α
  | [], _, _, _ => []
  | (s, i) :: r, a, b, c => (match s with | 0 => a | 1 => b | _ => c)[i]?.toList ++ sel r a b c
theorem Vals.sel {a b c : List V} {a' b' c' : List Value} (ha : Vals a a') (hb : Vals b b') (hc : Vals c c') : ∀ ix, Vals (Fw.sel ix a b c) (Fw.sel ix a' b' c')
  | [] => .nil
  | (s, i) :: r => by
    have one : ∀ {x : List V} {y : List Value}, Vals x y → Vals x[i]?.toList y[i]?.toList := fun {x y} h => by
      cases e : x[i]? with
      | none => rw [h.none_of e]; exact .nil
      | some v =>
        obtain ⟨u, e2, q⟩ := h.get e
        rw [e2]
        exact .cons q .nil
    refine Vals.append ?_ (Vals.sel ha hb hc r)
    match s with
    | 0 => exact one ha
    | 1 => exact one hb
    | n + 2 => exact one hc
theorem RpL.sel {K : PySem.W.Frag} {ρ : List Addr} {F : Hp} {a b c : List D} {a' b' c' : List V} (ha : RpL K ρ F a a') (hb : RpL K ρ F b b') (hc : RpL K ρ F c c') : ∀ ix, RpL K ρ F (Fw.sel ix a b c) (Fw.sel ix a' b' c')
  | [] => .nil
  | (s, i) :: r => by
    have one : ∀ {x : List D} {y : List V}, RpL K ρ F x y → RpL K ρ F x[i]?.toList y[i]?.toList := fun {x y} h => by
      cases e : x[i]? with
      | none =>
        have e2 : y[i]? = none := by
          rw [List.getElem?_eq_none_iff] at e ⊢
          rw [h.length]; exact e
        rw [e2]; exact .nil
      | some v =>
        obtain ⟨u, e2, q⟩ := h.get e
        rw [e2]
        exact .cons q .nil
    refine RpL.append ?_ (RpL.sel ha hb hc r)
    match s with
    | 0 => exact one ha
    | 1 => exact one hb
    | n + 2 => exact one hc

/-! ### defs' promises, called where no repr is under way -/
structure FnG (P : Program) (w : World) (K : PySem.W.Frag) (mg : Str → Option Value) (base : Heap) (k : Nat) (f : Addr) (fd : FuncData) (ps : List Str) (sp : Sp) : Prop where
  len : ∀ vs H Q E, sp vs H Q E → vs.length = ps.length
  run : ∀ (A : Around) (outer : List PySem.Env) (s : Shared) (H : Hp) (args : Args) (us : List Value) (vs : List V) (Q : VK) (E : XK), A.guards = some [] → Room k A → Env0 P w K mg base A outer s H → BindsTo s fd args (ps.zip us) → Vals vs us →
    sp vs H Q E → codeAny (model P w) A (.call (.ref f) args) (CR (L2.CX P w) outer P w H s Q E) s
theorem FnG.mono {P : Program} {w : World} {K : PySem.W.Frag} {mg : Str → Option Value} {base : Heap} {j k : Nat} {f : Addr} {fd : FuncData} {ps : List Str} {sp : Sp} (F : FnG P w K mg base j f fd ps sp) (h : j ≤ k) :
    FnG P w K mg base k f fd ps sp := ⟨F.len, fun A outer s H args us vs Q E hg hr => F.run A outer s H args us vs Q E hg (hr.mono h)⟩
theorem FnG.imp {P : Program} {w : World} {K : PySem.W.Frag} {mg : Str → Option Value} {base : Heap} {k : Nat} {f : Addr} {fd : FuncData} {ps : List Str} {sp sp' : Sp} (F : FnG P w K mg base k f fd ps sp)
    (h : ∀ vs H Q E, sp' vs H Q E → sp vs H Q E) : FnG P w K mg base k f fd ps sp' :=
  ⟨fun vs H Q E q => F.len vs H Q E (h _ _ _ _ q), fun A outer s H args us vs Q E hg hr he hb hv hs => F.run A outer s H args us vs Q E hg hr he hb hv (h _ _ _ _ hs)⟩
/-- the body's context -/
abbrev bcx (P : Program) (w : World) (K : PySem.W.Frag) (mg : Str → Option Value) (base : Heap) (N : List Str) (qual : Str) (scope : Scope) (f : Addr) (cd : Value) (A : Around) (outer : List PySem.Env) (s : Shared) (H : Hp) (E : XK) : Cx :=
  cxOf (L2.CX P w) P w K mg base N qual scope f cd A outer s H E
/-- a def by its body -/
theorem fnG_of {P : Program} {w : World} {K : PySem.W.Frag} {mg : Str → Option Value} {base : Heap} {k : Nat} {f : Addr} {x qual : Str} {params : Arguments} {body : List Stmt} {scope : Scope} {dvs : List V} {kws : List (Str × V)} {fd : FuncData} {N ps : List Str} {sp : Sp}
    (F : FunD K x qual params body scope dvs kws f fd) (S : FnScope N ps scope) (len : ∀ vs H Q E, sp vs H Q E → vs.length = ps.length)
    (hbody : ∀ (cdv : Value) (A : Around) (outer : List PySem.Env) (s : Shared) (H : Hp) (vs : List V) (Q : VK) (E : XK), (bcx P w K mg base N qual scope f cdv A outer s H E).A.guards = some [] → Room k (bcx P w K mg base N qual scope f cdv A outer s H E).A → sp vs H Q E →
      ∃ t, PSs (bcx P w K mg base N qual scope f cdv A outer s H E) body t ∧ t { nx := fun _ H' => Q .non H', rt := Q } (start N vs) H) : FnG P w K mg base (k + 1) f fd ps sp := by
  obtain ⟨oc, od, dV, kV, doc, pm, an, cdv, ct, osl, rfl, lk, hcd, _, _⟩ := F.ex
  refine ⟨len, fun A outer s H args us vs Q E hgd hr e0 hb r hsp => ?_⟩
  have hl : vs.length = ps.length := len _ _ _ _ hsp
  have KX : K.In s.heap := e0.mod.kin.keeps fun b o e =>
    (e0.bs b o e).1
  have lim : s.heap.NoLimit := e0.mod.nolimit.keeps fun b o e =>
    (e0.bs b o e).1
  have hkind : ∀ y ∈ ps.zip us, scope.names.lookup y.1 = some .local ∨
      (scope.names.lookup y.1 = some .cell ∧ ((cellsFrom (s.heap.objs.size + 1) scope.names []).lookup y.1).isSome = true) := by
    rintro ⟨n, v⟩ hy
    rcases S.par n (List.of_mem_zip hy).1 with q | q
    · left; exact q
    · right; exact ⟨q, PySem.W.cellsFrom_some _ _ _ (Or.inl q)⟩
  refine codeAny_call_function hr.depth (KX _ _ lk) rfl S.co S.gen rfl
    (PySem.W.codeRec_of KX hcd) (hb _ _ _ _ ?_)
  refine wpAny_newFunctionEnv_cells S.kind hkind fun env he s1 xx => ?_
  subst he
  refine ⟨lim.keeps xx.toInCall.keep, codeAny_func ?_⟩
  obtain ⟨t, ht, hq⟩ := hbody cdv A outer s H vs Q E hgd (hr.deeper _) hsp
  have I := inv_start (CX := L2.CX P w) (mg := mg) (qual := qual) (f := f) (cd := cdv) (E := E) S hr.hd e0 hl r xx
  refine wpAny_mono (ht.run [] s1 (start N vs) H _ I hq) (fun fl s' hs => ?_) fun e s' hs => hs
  cases fl with
  | ret u =>
    obtain ⟨v, σ', H', J, rv, q⟩ := hs
    exact ⟨v, H', J.os, J.bare, J.base, J.hok, rv, q⟩
  | next =>
    obtain ⟨σ', H', J, q⟩ := hs
    exact ⟨V.non, H', J.os, J.bare, J.base, J.hok, rfl, q⟩
  | brk => exact hs.elim fun _ z => z.elim fun _ z => z.2.elim
  | cont => exact hs.elim fun _ z => z.elim fun _ z => z.2.elim

/-! ### written arguments and keywords, whatever is called -/
structure CArgs (X : Cx) (es : List Expr) (kws : List Keyword) (pos : Pos) (ks : List Str) (t tk : TA) : Prop where
  run : ∀ (f : Value) (first : List Value), PySem.W.keepIn X.K f = true → ∀ (pins : List (Addr × Obj)) (s : Shared) (σ : L2.St) (H : Hp) (Q : Value → Shared → Prop) (R : List V → List V → Hp → Prop), Inv X pins σ H s →
    (t σ H fun vs H1 => tk σ H1 fun zs H2 => R vs zs H2) →
    (∀ us ws vs zs s2 H2, Inv X pins σ H2 s2 → Vals vs us → Vals zs ws → R vs zs H2 → wpAny (model X.prog X.w) X.A (call f (first ++ us) (ks.zip ws)) Q X.xe s2) →
    wpAny (model X.prog X.w) X.A (callWith pos f first (backTo pos (starEach es X.env)) (backToKw pos (keywordEach kws X.env))) Q X.xe s
section
variable {X : Cx} {e : Expr} {es : List Expr} {kws : List Keyword} {kw : Keyword} {pos : Pos} {ks : List Str} {t tk : TA}
theorem ca_00 : CArgs X [] [] pos [] tNil tNil := ⟨fun f first hk pins s σ H Q R I h k =>
  PySem.W.callWith_K0 I.kIn hk (by
    have q := k [] [] [] [] s H I .nil .nil h
    exact q)⟩
theorem ca_10 (ha : PA X (e :: es) t) (he : starEach (e :: es) X.env = (false, eval e X.env) :: starEach es X.env := by rfl) (hpl : (backTo pos (starEach es X.env)).any (·.1) = false := by rfl) : CArgs X (e :: es) [] pos [] t tNil :=
  ⟨fun f first hk pins s σ H Q R I h k => PySem.W.callWith_K (h₀ := X.base) I.ok.mod.kin hk (thn (ha.run pos pins s σ H _ I h) fun us s1 ⟨vs, H1, I1, r, q⟩ => ⟨I1.kIn, k us [] vs [] s1 H1 I1 r .nil q⟩) he hpl⟩
theorem ca_01 (hkw : PK X kws tk) (hall : (backToKw pos (keywordEach kws X.env)).all (·.1.isSome) = true := by rfl) (hks : (backToKw pos (keywordEach kws X.env)).filterMap (·.1) = ks := by rfl)
    (hpl : ((backTo pos (starEach [] X.env)).any (·.1) || (backToKw pos (keywordEach kws X.env)).any (·.1.isNone)) = false := by rfl) : CArgs X [] kws pos ks tNil tk :=
  ⟨fun f first hk pins s σ H Q R I h k => PySem.W.callWith_KW0 (h₀ := X.base) I.ok.mod.kin hk hall (thn (hkw.run pos pins s σ H _ I h) fun ws s2 ⟨zs, H2, I2, rz, q⟩ => ⟨I2.kIn, by
    rw [hks]; exact k [] ws [] zs s2 H2 I2 .nil rz q⟩) hpl⟩
theorem ca_11 (ha : PA X (e :: es) t) (hkw : PK X kws tk) (hall : (backToKw pos (keywordEach kws X.env)).all (·.1.isSome) = true := by rfl) (hks : (backToKw pos (keywordEach kws X.env)).filterMap (·.1) = ks := by rfl)
    (he : starEach (e :: es) X.env = (false, eval e X.env) :: starEach es X.env := by rfl) (hpl : ((backTo pos (starEach (e :: es) X.env)).any (·.1) || (backToKw pos (keywordEach kws X.env)).any (·.1.isNone)) = false := by rfl) : CArgs X (e :: es) kws pos ks t tk :=
  ⟨fun f first hk pins s σ H Q R I h k => PySem.W.callWith_KW (h₀ := X.base) I.ok.mod.kin hk hall (thn (ha.run pos pins s σ H _ I h) fun us s1 ⟨vs, H1, I1, r, q⟩ =>
    thn (hkw.run pos pins s1 σ H1 _ I1 q) fun ws s2 ⟨zs, H2, I2, rz, q2⟩ => ⟨I2.kIn, by
      rw [hks]; exact k us ws vs zs s2 H2 I2 r rz q2⟩) hpl he⟩
end
/-! with mirrors -/
structure JC (X : Cx) (E : EK) (es : List Expr) (kws : List Keyword) (pos : Pos) (ks : List Str) (t tk : TA) (a k : Nv → M (List D)) : Prop where
  ca : CArgs X es kws pos ks t tk
  sa : SimA (gm X) E t a
  sk : SimA (gm X) E tk k
  la : ∀ env S ds S', a env S = .ok ds S' → ds.length = es.length
  lk : ∀ env S ds S', k env S = .ok ds S' → ds.length = ks.length
structure JAl (X : Cx) (E : EK) (es : List Expr) (t : TA) (m : Nv → M (List D)) : Prop where
  pa : PA X es t
  sim : SimA (gm X) E t m
  len : ∀ env S ds S', m env S = .ok ds S' → ds.length = es.length
structure JK (X : Cx) (E : EK) (kws : List Keyword) (t : TA) (m : Nv → M (List D)) : Prop where
  pk : PK X kws t
  sim : SimA (gm X) E t m
  len : ∀ env S ds S', m env S = .ok ds S' → ds.length = kws.length
section
variable {X : Cx} {E : EK} {e : Expr} {es : List Expr} {kws : List Keyword} {pos kpos : Pos} {ks : List Str} {ta : TE} {t tk : TA} {ma : Nv → M D} {m mk a k : Nv → M (List D)} {nm : Option Str}
theorem sim_nil {Γ : Gm} : SimA Γ E tNil mNil := fun σ W S env Q I N h => ResG.ret h I [] .nil
theorem len_nil (env : Nv) (S : Sto) (ds : List D) (S' : Sto) (h : mNil env S = .ok ds S') : ds.length = 0 := by
  unfold mNil M.ret at h; cases h; rfl
theorem len_cons {n : Nat} (hl : ∀ env S ds S', m env S = .ok ds S' → ds.length = n) (env : Nv) (S : Sto) (ds : List D) (S' : Sto) (h : mCons ma m env S = .ok ds S') : ds.length = n + 1 := by
  unfold mCons M.bnd M.ret at h
  cases e1 : ma env S with
  | ok d S1 =>
    rw [e1] at h
    simp only [] at h
    cases e2 : m env S1 with
    | ok r S2 => rw [e2] at h; simp only [] at h; cases h; rw [List.length_cons, hl _ _ _ _ e2]
    | exc c fs S2 => rw [e2] at h; cases h
    | stuck => rw [e2] at h; cases h
  | exc c fs S1 => rw [e1] at h; cases h
  | stuck => rw [e1] at h; cases h
theorem ja_nil' : JAl X E [] tNil mNil := ⟨pa_nil, sim_nil, len_nil⟩
theorem ja_cons (ha : JE X E e ta ma) (hr : JAl X E es t m) (he : starEach (e :: es) X.env = (false, eval e X.env) :: starEach es X.env := by rfl) : JAl X E (e :: es) (tCons ta t) (mCons ma m) :=
  ⟨pa_cons ha.pe hr.pa he, sim_cons ha.sim hr.sim, len_cons hr.len⟩
theorem jk_nil : JK X E [] tNil mNil := ⟨pk_nil, sim_nil, len_nil⟩
theorem jk_cons (ha : JE X E e ta ma) (hr : JK X E kws t m) : JK X E (⟨nm, e, kpos⟩ :: kws) (tCons ta t) (mCons ma m) := ⟨pk_cons ha.pe hr.pk, sim_cons ha.sim hr.sim, len_cons hr.len⟩
theorem jc_00 : JC X E [] [] pos [] tNil tNil mNil mNil := ⟨ca_00, sim_nil, sim_nil, len_nil, len_nil⟩
theorem jc_10 (ha : JAl X E (e :: es) t m) (he : starEach (e :: es) X.env = (false, eval e X.env) :: starEach es X.env := by rfl) (hpl : (backTo pos (starEach es X.env)).any (·.1) = false := by rfl) : JC X E (e :: es) [] pos [] t tNil m mNil :=
  ⟨ca_10 ha.pa he hpl, ha.sim, sim_nil, ha.len, len_nil⟩
theorem jc_01 (hk : JK X E kws tk mk) (hl : ks.length = kws.length := by rfl) (hall : (backToKw pos (keywordEach kws X.env)).all (·.1.isSome) = true := by rfl) (hks : (backToKw pos (keywordEach kws X.env)).filterMap (·.1) = ks := by rfl)
    (hpl : ((backTo pos (starEach [] X.env)).any (·.1) || (backToKw pos (keywordEach kws X.env)).any (·.1.isNone)) = false := by rfl) : JC X E [] kws pos ks tNil tk mNil mk :=
  ⟨ca_01 hk.pk hall hks hpl, sim_nil, hk.sim, len_nil, by rw [hl]; exact hk.len⟩
theorem jc_11 (ha : JAl X E (e :: es) t m) (hk : JK X E kws tk mk) (hl : ks.length = kws.length := by rfl) (hall : (backToKw pos (keywordEach kws X.env)).all (·.1.isSome) = true := by rfl) (hks : (backToKw pos (keywordEach kws X.env)).filterMap (·.1) = ks := by rfl)
    (he : starEach (e :: es) X.env = (false, eval e X.env) :: starEach es X.env := by rfl) (hpl : ((backTo pos (starEach (e :: es) X.env)).any (·.1) || (backToKw pos (keywordEach kws X.env)).any (·.1.isNone)) = false := by rfl) : JC X E (e :: es) kws pos ks t tk m mk :=
  ⟨ca_11 ha.pa hk.pk hall hks he hpl, ha.sim, hk.sim, ha.len, by rw [hl]; exact hk.len⟩
end
theorem ResG.impE {Γ : Gm} {E : XK} {W : Wd} {α : Type} {r : Rs α} {k k' : α → Sto → Wd → Prop} (h : ResG Γ E W r k) (q : ∀ a S' W', r = .ok a S' → Stp W W' → Ok Γ W' S' → k a S' W' → k' a S' W') : ResG Γ E W r k' := by
  cases r with
  | ok a S' => exact fun W' s' o => q a S' W' rfl s' o (h W' s' o)
  | exc c fs S' => exact h
  | stuck => exact h

/-! ### what a mirror promises -/
def FnSp (Γ : Gm) (m : List D → M D) : Sp := fun vs H Q E => ∃ W S ds, W.H = H ∧ Ok Γ W S ∧ RpL Γ.K W.ρ W.F ds vs ∧ ResG Γ E W (m ds S) (Kd Γ Q)
/-- a def's mirror takes n values -/
def Ary (n : Nat) (m : List D → M D) : Prop := ∀ ds S, ds.length ≠ n → m ds S = .stuck
theorem fnsp_len {Γ : Gm} {m : List D → M D} {n : Nat} (h : Ary n m) (vs : List V) (H : Hp) (Q : VK) (E : XK) (q : FnSp Γ m vs H Q E) : vs.length = n := by
  obtain ⟨W, S, ds, _, _, r, g⟩ := q
  rw [r.length]
  by_cases z : ds.length = n
  · exact z
  · rw [h ds S z] at g; exact g.elim
def mCallG (mf : List D → M D) (ix : List (Nat × Nat)) (dds : List D) (a k : Nv → M (List D)) : Nv → M D := fun env => M.bnd (a env) fun ds => M.bnd (k env) fun es => mf (sel ix ds dds es)
def tCallG (n m : Nat) (sp : Sp) (ix : List (Nat × Nat)) (dvs : List V) (E : EK) (t tk : TA) : TE := fun σ H Q => t σ H fun vs H1 => tk σ H1 fun zs H2 => (vs.length = n ∧ zs.length = m) ∧ sp (sel ix vs dvs zs) H2 Q (E σ)
section
variable {X : Cx} {E : EK} {k : Nat} {f : Addr} {fd : FuncData} {ps ks : List Str} {sp : Sp} {x : Str} {p pos : Pos} {es : List Expr} {kws : List Keyword} {t tk : TA} {ix : List (Nat × Nat)} {dvs : List V} {g : List Value → List Value → List Value} {a mk : Nv → M (List D)}
theorem run_G {pins : List (Addr × Obj)} {σ : L2.St} {H : Hp} {s : Shared} {Q : VK} {us ws : List Value} {vs zs : List V} {n : Nat} (F : FnG X.prog X.w X.K X.mg X.base k f fd ps sp) (hgd : X.A.guards = some []) (hr : Room k X.A)
    (hb : KBn X.K fd ps n ks g (fun vs zs => sel ix vs dvs zs)) (hx : PassesAt (L2.CX X.prog X.w) X σ (E σ)) (I : Inv X pins σ H s) (r : Vals vs us) (rz : Vals zs ws) (l1 : vs.length = n) (l2 : zs.length = ks.length) (h : sp (sel ix vs dvs zs) H Q (E σ)) :
    wpAny (model X.prog X.w) X.A (call (.ref f) us (ks.zip ws)) (EP X pins σ Q) X.xe s := by
  have r2 := hb.rel r rz
  refine wpAny_call (codeAny_mono (F.run X.A X.stack s H ⟨us, ks.zip ws⟩ (g us ws) _ Q (E σ) hgd hr I.env0
    (hb.to s us ws I.kIn (r.length.symm.trans l1) (rz.length.symm.trans l2)) r2 h) fun r s' hq => ?_)
  match r, hq with
  | .error e, hq => exact hx pins H s e s' I hq
  | .ok (.ret u), hq => exact I.after hq
theorem sim_callG {Γ : Gm} {m : List D → M D} {dds : List D} {n : Nat} (sa : SimA Γ E t a) (sk : SimA Γ E tk mk) (la : ∀ env S ds S', a env S = .ok ds S' → ds.length = n) (lk : ∀ env S ds S', mk env S = .ok ds S' → ds.length = ks.length)
    (hd : ∀ ρ F, RpL Γ.K ρ F dds dvs) : SimE Γ E (tCallG n ks.length (FnSp Γ m) ix dvs E t tk) (mCallG m ix dds a mk) := fun σ W S env Q I N h =>
  sa σ W S env _ I N (h.bnd.impE fun ds S1 W1 e1 s1 I1 h1 vs rs => sk σ W1 S1 env _ I1 (N.mono s1.toAft) (h1.bnd.impE fun es S2 W2 e2 s2 I2 h2 zs rz =>
    ⟨⟨rs.length.trans (la _ _ _ _ e1), rz.length.trans (lk _ _ _ _ e2)⟩, W2, S2, _, rfl, I2, RpL.sel (RpL.mono s2.g _ _ rs) (hd _ _) rz ix, h2⟩))
theorem je_call {m : List D → M D} {dds : List D} (F : FnG X.prog X.w X.K X.mg X.base k f fd ps (FnSp (gm X) m)) (hgd : X.A.guards = some []) (hr : Room k X.A) (hm : X.mg x = some (.ref f)) (hk : PySem.W.keepIn X.K (.ref f) = true)
    (hb : KBn X.K fd ps es.length ks g (fun vs zs => sel ix vs dvs zs)) (hd : ∀ ρ F, RpL X.K ρ F dds dvs) (hx : ∀ σ, PassesAt (L2.CX X.prog X.w) X σ (E σ)) (c : JC X E es kws pos ks t tk a mk) (hg : Gl X x := by rfl)
    (hdb : (x == ("__debug__" : Str)) = false := by decide) : JE X E (.Call (.Name x p) es kws pos) (tCallG es.length ks.length (FnSp (gm X) m) ix dvs E t tk) (mCallG m ix dds a mk) := by
  refine ⟨⟨fun pins s σ H Q I h => ?_⟩, sim_callG c.sa c.sk c.la c.lk hd⟩
  refine wpAny_Call_Name_kw (ld_glob I hg hm ?_ hdb)
  exact c.ca.run (.ref f) [] hk pins s σ H _ _ I h fun us ws vs zs s2 H2 I2 r rz ⟨⟨l1, l2⟩, q⟩ => run_G F hgd hr hb (hx σ) I2 r rz l1 l2 q
end
end Fw

namespace Fw
open PySem PySem.Spec PyProof.Rows L2

/-! ### a list, a dict of one's own: nobody else knows it -/
def OwnV (Γ : Gm) (W : Wd) (p : Addr) : D → Prop
  | .lst ds => ∃ vs, W.H p = some (.lst vs) ∧ RpL Γ.K W.ρ W.F ds vs
  | .dic ds => ∃ vs, W.H p = some (.dK vs) ∧ RpK Γ.K W.ρ W.F ds vs
  | _ => False
structure OwnAt (Γ : Gm) (W : Wd) (p : Addr) (d : D) : Prop where
  f : W.F p = none
  r : p ∉ W.ρ
  v : OwnV Γ W p d
section
variable {Γ : Gm} {W W1 W0 : Wd} {S : Sto} {p : Addr} {d : D}
theorem OwnV.there (h : OwnV Γ W p d) : W.H p ≠ none := by
  cases d with
  | lst ds => obtain ⟨vs, e, _⟩ := h; exact some_ne e
  | dic ds => obtain ⟨vs, e, _⟩ := h; exact some_ne e
  | _ => exact h.elim
theorem OwnV.mono (h : OwnV Γ W p d) (g : Gro W.ρ W1.ρ W.F W1.F) (e : W1.H p = W.H p) : OwnV Γ W1 p d := by
  cases d with
  | lst ds => obtain ⟨vs, q, r⟩ := h; exact ⟨vs, e.trans q, RpL.mono g _ _ r⟩
  | dic ds => obtain ⟨vs, q, r⟩ := h; exact ⟨vs, e.trans q, RpK.mono g _ _ r⟩
  | _ => exact h.elim
theorem Stp.fresh (s : Stp W W1) (hF : W.F p = none) (hH : W.H p ≠ none) : W1.F p = none := by
  cases q : W1.F p with
  | none => rfl
  | some u => exact absurd (s.new p hF (some_ne q)) hH
theorem Stp.nrho (s : Stp W W1) (hr : p ∉ W.ρ) (hH : W.H p ≠ none) : p ∉ W1.ρ := fun z => by
  rcases s.rho p z with q | q
  · exact hr q
  · exact hH q
theorem Stp.same (s : Stp W W1) (hr : p ∉ W.ρ) (hH : W.H p ≠ none) : W1.H p = W.H p := by
  obtain ⟨o, e⟩ := ne_some hH
  rw [e]; exact s.keep p o e hr
theorem OwnAt.mono (h : OwnAt Γ W p d) (s : Stp W W1) : OwnAt Γ W1 p d := ⟨s.fresh h.f h.v.there, s.nrho h.r h.v.there, h.v.mono s.g (s.same h.r h.v.there)⟩
end

/-! ### things may be locked for good where nobody sees it -/
inductive Fz (R : Hp → Prop) : Hp → Prop
  | here {H : Hp} : R H → Fz R H
  | lock {H : Hp} {d : Addr} {u : HO} : H d = some u → Mut (some u) → (∀ od, Fz R (upd H d (.frz od u))) → Fz R H
theorem Fz.inv {X : Cx} {pins : List (Addr × Obj)} {σ : L2.St} {s : Shared} {R : Hp → Prop} {H : Hp} (h : Fz R H) : Inv X pins σ H s → ∃ H', Inv X pins σ H' s ∧ R H' := by
  induction h with
  | here r => exact fun I => ⟨_, I, r⟩
  | lock e m _ ih =>
    intro I
    obtain ⟨od, I1⟩ := I.lock e m
    exact ih od I1
def tFz (t : TE) : TE := fun σ H Q => t σ H fun v H1 => Fz (Q v) H1
theorem pe_fz {X : Cx} {e : Expr} {t : TE} (h : PE X e t) : PE X e (tFz t) := ⟨fun pins s σ H Q I hw => thn (h.run pins s σ H _ I hw) fun u s1 ⟨v, H1, I1, r, q⟩ => by
  obtain ⟨H2, I2, q2⟩ := q.inv I1
  exact ⟨v, H2, I2, r, q2⟩⟩
def tFzS (t : TS) : TS := fun D σ H => Fz (fun H0 => t ⟨fun σ' H' => Fz (D.nx σ') H', fun v H' => Fz (D.rt v) H', fun σ' H' => Fz (D.bk σ') H', fun σ' H' => Fz (D.ct σ') H'⟩ σ H0) H
theorem ps_fz {X : Cx} {st : Stmt} {t : TS} (h : PS X st t) : PS X st (tFzS t) := ⟨fun pins s σ H D I hw => by
  obtain ⟨H0, I0, hw⟩ := Fz.inv hw I
  refine thn (h.run pins s σ H0 _ I0 hw) fun f s1 q => ?_
  cases f with
  | next => obtain ⟨σ', H', I2, q⟩ := q; obtain ⟨H2, I3, q2⟩ := Fz.inv q I2; exact ⟨σ', H2, I3, q2⟩
  | brk => obtain ⟨σ', H', I2, q⟩ := q; obtain ⟨H2, I3, q2⟩ := Fz.inv q I2; exact ⟨σ', H2, I3, q2⟩
  | cont => obtain ⟨σ', H', I2, q⟩ := q; obtain ⟨H2, I3, q2⟩ := Fz.inv q I2; exact ⟨σ', H2, I3, q2⟩
  | ret v => obtain ⟨x, σ', H', I2, r, q⟩ := q; obtain ⟨H2, I3, q2⟩ := Fz.inv q I2; exact ⟨x, σ', H2, I3, r, q2⟩⟩
/-! the world behind a lock: the object at p is frozen from now on -/
section
variable {Γ : Gm} {W W1 W0 : Wd} {S : Sto} {p : Addr} {d : D}
def Wd.frz (W : Wd) (p : Addr) (u : HO) : Wd := ⟨W.ρ, upd W.F p u, upd W.H p u⟩
theorem frz_gro {u : HO} (hF : W.F p = none) : Gro W.ρ (W.frz p u).ρ W.F (W.frz p u).F := ⟨fun a o h => by
  show upd W.F p u a = some o
  rw [upd_ne (fun e => by subst e; rw [hF] at h; cases h)]; exact h, fun _ _ h => h⟩
theorem Ok.frz {u : HO} (I : Ok Γ W S) (hF : W.F p = none) (hr : p ∉ W.ρ) (hu : FrO u) : Ok Γ (W.frz p u) S := by
  refine ⟨fun a o h => ?_, fun a o h => ?_, I.len, I.nd, fun a h => ?_, fun n a o h1 h2 => ?_⟩
  · rcases upd_cases h with ⟨rfl, rfl⟩ | ⟨ne, h⟩
    · exact upd_same
    · show upd W.H p u a = some o
      rw [upd_ne ne]; exact I.fh a o h
  · rcases upd_cases h with ⟨rfl, rfl⟩ | ⟨ne, h⟩
    · exact hu
    · exact I.fk a o h
  · show upd W.F p u a = none
    rw [upd_ne (fun e => hr (by rw [← e]; exact h))]; exact I.rf a h
  · have ha : a ∈ W.ρ := List.mem_iff_getElem?.mpr ⟨n, h1⟩
    refine (I.so n a o h1 h2).gro (frz_gro hF).tup ?_
    show upd W.H p u a = W.H a
    exact upd_ne fun e => hr (by rw [← e]; exact ha)
theorem Bas.frz {u : HO} (b : Bas W0 W) (h0 : W0.H p = none) (hH : W.H p ≠ none) : Bas W0 (W.frz p u) := by
  refine ⟨fun a e e' => ?_, b.rho, fun a o e n => ?_, fun a e => ?_⟩
  · by_cases z : a = p
    · subst z; exact h0
    · have e' : upd W.F p u a ≠ none := e'
      rw [upd_ne z] at e'; exact b.new a e e'
  · show upd W.H p u a = some o
    rw [upd_ne (fun z => by subst z; rw [h0] at e; cases e)]; exact b.keep a o e n
  · have e : upd W.H p u a = none := e
    by_cases z : a = p
    · subst z; rw [upd_same] at e; cases e
    · rw [upd_ne z] at e; exact b.dom a e
/-- what a list, a dict of one's own is, frozen -/
theorem OwnAt.lstF {ds : List D} (I : Ok Γ W S) (h : OwnAt Γ W p (.lst ds)) : ∃ vs, W.H p = some (.lst vs) ∧ Rp Γ.K (W.frz p (.lst vs)).ρ (W.frz p (.lst vs)).F (.lst ds) (.ref p) ∧ (W.frz p (.lst vs)).H = W.H := by
  obtain ⟨vs, e, r⟩ := h.v
  refine ⟨vs, e, ?_, ?_⟩
  · simp only [Rp]
    exact ⟨p, vs, rfl, upd_same, RpL.mono (frz_gro h.f) _ _ r⟩
  · funext a
    show upd W.H p (.lst vs) a = W.H a
    by_cases z : a = p
    · subst z; rw [upd_same, e]
    · exact upd_ne z
theorem OwnAt.dicF {ds : List (Key × D)} {od : Obj} (h : OwnAt Γ W p (.dic ds)) : ∃ vs, W.H p = some (.dK vs) ∧ Rp Γ.K (W.frz p (.frz od (.dK vs))).ρ (W.frz p (.frz od (.dK vs))).F (.dic ds) (.ref p) := by
  obtain ⟨vs, e, r⟩ := h.v
  refine ⟨vs, e, ?_⟩
  simp only [Rp]
  exact ⟨p, vs, od, rfl, upd_same, RpK.mono (frz_gro h.f) _ _ r⟩
end
/-! ### expressions that give a new list or dict -/
abbrev Ko (Γ : Gm) (W : Wd) (Q : VK) : D → Sto → Wd → Prop := fun d _ W' => ∀ p, OwnAt Γ W' p d → W.H p = none → Q (.ref p) W'.H
def SimO (Γ : Gm) (E : EK) (t : TE) (m : Nv → M D) : Prop := ∀ σ W S env Q, Ok Γ W S → EnvOk Γ W env σ → ResG Γ (E σ) W (m env S) (Ko Γ W Q) → t σ W.H Q
structure JO (X : Cx) (E : EK) (e : Expr) (t : TE) (m : Nv → M D) : Prop where
  pe : PE X e t
  sim : SimO (gm X) E t m
theorem ResG.ownFrz {Γ : Gm} {W W1 : Wd} {S : Sto} {p : Addr} {d : D} {Q : VK} (s : Stp W W1) (I : Ok Γ W1 S) (o : OwnAt Γ W1 p d) (hp : W.H p = none) (k : ∀ W', Stp W W' → Ok Γ W' S → Kd Γ Q d S W') : Fz (Q (.ref p)) W1.H := by
  cases d with
  | lst ds =>
    obtain ⟨vs, e, r, eH⟩ := o.lstF I
    refine .here ?_
    have q := k (W1.frz p (.lst vs)) ⟨⟨s.g.trans (frz_gro o.f)⟩, s.toBas.frz hp (some_ne e)⟩ (I.frz o.f o.r trivial) _ r
    rw [eH] at q; exact q
  | dic ds =>
    obtain ⟨vs, e, _⟩ := o.v
    refine .lock (d := p) (u := .dK vs) e trivial fun od => .here ?_
    obtain ⟨vs', e', r⟩ := o.dicF (od := od)
    rw [e] at e'; cases e'
    exact k (W1.frz p (.frz od (.dK vs))) ⟨⟨s.g.trans (frz_gro o.f)⟩, s.toBas.frz hp (some_ne e)⟩ (I.frz o.f o.r trivial) _ r
  | _ => exact o.v.elim
theorem SimO.frz {Γ : Gm} {E : EK} {t : TE} {m : Nv → M D} (h : SimO Γ E t m) : SimE Γ E (tFz t) m := fun σ W S env Q I N r =>
  h σ W S env (fun v H1 => Fz (Q v) H1) I N (by
    cases q : m env S with
    | ok d S' =>
      rw [q] at r
      exact fun W1 s I1 p o hp => ResG.ownFrz s I1 o hp fun W' s' I' => r W' s' I'
    | exc c fs S' => rw [q] at r; exact r
    | stuck => rw [q] at r; exact r)
theorem JO.je {X : Cx} {E : EK} {e : Expr} {t : TE} {m : Nv → M D} (h : JO X E e t m) : JE X E e (tFz t) m := ⟨pe_fz h.pe, h.sim.frz⟩
/-! a new object laid -/
section
variable {Γ : Gm} {E : XK} {W W1 W0 : Wd} {S : Sto} {p : Addr} {d : D}
def Wd.lay (W : Wd) (p : Addr) (u : HO) : Wd := ⟨W.ρ, W.F, upd W.H p u⟩
theorem Ok.lay {u : HO} (I : Ok Γ W S) (hp : W.H p = none) : Ok Γ (W.lay p u) S := by
  have hF : W.F p = none := I.fnone hp
  have hr : p ∉ W.ρ := fun z => I.rhoH z hp
  refine ⟨fun a o h => ?_, I.fk, I.len, I.nd, I.rf, fun n a o h1 h2 => ?_⟩
  · show upd W.H p u a = some o
    have h' : W.F a = some o := h
    rw [upd_ne (fun e => by subst e; rw [hF] at h'; cases h')]; exact I.fh a o h'
  · have ha : a ∈ W.ρ := List.mem_iff_getElem?.mpr ⟨n, h1⟩
    refine (I.so n a o h1 h2).gro (Gro.refl _ _).tup ?_
    show upd W.H p u a = W.H a
    exact upd_ne fun e => hr (by rw [← e]; exact ha)
theorem Stp.lay {u : HO} (hp : W.H p = none) : Stp W (W.lay p u) := ⟨⟨.refl _ _⟩, ⟨fun a h h' => absurd h h', fun a h => .inl h, fun a o h _ => by
  show upd W.H p u a = some o
  rw [upd_ne (fun e => by subst e; rw [hp] at h; cases h)]; exact h, fun a h => by
  have h : upd W.H p u a = none := h
  by_cases z : a = p
  · subst z; exact hp
  · rw [upd_ne z] at h; exact h⟩⟩
theorem lay_lst {ds : List D} {vs : List V} {Q : VK} (I : Ok Γ W S) (r : RpL Γ.K W.ρ W.F ds vs) (h : ResG Γ E W (M.ret (.lst ds) S) (Ko Γ W0 Q)) (s : Stp W0 W) (p : Addr) (hp : W.H p = none) : Q (.ref p) (upd W.H p (.lst vs)) :=
  h (W.lay p (.lst vs)) (.lay hp) (I.lay hp) p ⟨I.fnone hp, fun z => I.rhoH z hp, vs, upd_same, r⟩ (s.dom p hp)
theorem lay_dic {ds : List (Key × D)} {vs : List (Key × V)} {Q : VK} (I : Ok Γ W S) (r : RpK Γ.K W.ρ W.F ds vs) (h : ResG Γ E W (M.ret (.dic ds) S) (Ko Γ W0 Q)) (s : Stp W0 W) (p : Addr) (hp : W.H p = none) : Q (.ref p) (upd W.H p (.dK vs)) :=
  h (W.lay p (.dK vs)) (.lay hp) (I.lay hp) p ⟨I.fnone hp, fun z => I.rhoH z hp, vs, upd_same, r⟩ (s.dom p hp)
end
section
variable {X : Cx} {E : EK} {Γ : Gm} {es : List Expr} {t : TA} {m : Nv → M (List D)} {pos : Pos}
theorem sim_lstO (hr : SimA Γ E t m) : SimO Γ E (tLst t) (mCall dLst m) := fun σ W S env Q I N h => by
  unfold mCall at h
  exact hr σ W S env _ I N (h.bnd.imp fun xs S1 W1 s1 I1 h1 vs rs => by
    obtain ⟨l, h2⟩ := h1.dLst
    exact ⟨by rw [rs.length]; exact l, fun p hp => lay_lst I1 rs h2 s1 p hp⟩)
theorem jo_lst (hr : JAl X E es t m) : JO X E (.List es pos) (tLst t) (mCall dLst m) := ⟨pe_lst hr.pa, sim_lstO hr.sim⟩
theorem jo_dic0 : JO X E (.Dict [] [] pos) tDNewK (mC (.dic [])) := ⟨pe_dnewK, fun σ W S env Q I N h p hp => lay_dic I .nil h (.refl W) p hp⟩
/-- a new list, a new dict of the store -/
def SO.of : D → Option SO
  | .lst ds => if immL ds = true then some (.lst ds) else none
  | .dic ds => if immK ds = true then some (.dic ds) else none
  | _ => none
def alloc (o : SO) : M D := fun S => .ok (.obj S.length) (S ++ [o])
def mStore (m : Nv → M D) : Nv → M D := fun env => M.bnd (m env) fun d => M.bnd (M.opt (SO.of d)) alloc
def Wd.sto (W : Wd) (p : Addr) : Wd := ⟨W.ρ ++ [p], W.F, W.H⟩
theorem sto_gro {W : Wd} {p : Addr} : Gro W.ρ (W.sto p).ρ W.F (W.sto p).F := ⟨fun _ _ h => h, fun n a h => by
  show (W.ρ ++ [p])[n]? = some a
  rw [List.getElem?_append_left (List.getElem?_eq_some_iff.mp h).1]; exact h⟩
theorem Ok.sto {W : Wd} {S : Sto} {p : Addr} {o : SO} (I : Ok Γ W S) (hF : W.F p = none) (hr : p ∉ W.ρ) (h : SoOk Γ W p o) : Ok Γ (W.sto p) (S ++ [o]) := by
  have nd : (W.ρ ++ [p]).Nodup := by
    rw [List.nodup_append]
    refine ⟨I.nd, by simp, ?_⟩
    intro a ha b hb e
    have e2 : b = p := by simpa using hb
    exact hr (by rw [← e2, ← e]; exact ha)
  refine ⟨I.fh, I.fk, by simp [Wd.sto, I.len], nd, fun a ha => ?_, fun n a u h1 h2 => ?_⟩
  · rcases List.mem_append.mp ha with z | z
    · exact I.rf a z
    · have e2 : a = p := by simpa using z
      rw [e2]; exact hF
  · have h1 : (W.ρ ++ [p])[n]? = some a := h1
    by_cases hn : n < W.ρ.length
    · rw [List.getElem?_append_left hn] at h1
      rw [List.getElem?_append_left (by rw [← I.len]; exact hn)] at h2
      exact (I.so n a u h1 h2).gro sto_gro.tup rfl
    · rw [List.getElem?_append_right (Nat.not_lt.mp hn)] at h1
      rw [List.getElem?_append_right (by rw [← I.len]; exact Nat.not_lt.mp hn), ← I.len] at h2
      obtain ⟨m, hm⟩ : ∃ m, n - W.ρ.length = m := ⟨_, rfl⟩
      rw [hm] at h1 h2
      cases m with
      | zero =>
        simp at h1 h2
        subst h1 h2
        exact h.gro sto_gro.tup rfl
      | succ m => simp at h1
theorem Stp.sto {W : Wd} {p : Addr} {W0 : Wd} (s : Stp W0 W) (hp : W0.H p = none) : Stp W0 (W.sto p) := ⟨⟨s.g.trans sto_gro⟩, ⟨s.new, fun a ha => by
  rcases List.mem_append.mp ha with z | z
  · exact s.rho a z
  · have e2 : a = p := by simpa using z
    exact .inr (by rw [e2]; exact hp), s.keep, s.dom⟩⟩
theorem OwnAt.so {W : Wd} {p : Addr} {d : D} {o : SO} (h : OwnAt Γ W p d) (e : SO.of d = some o) : SoOk Γ W p o := by
  cases d with
  | lst ds =>
    simp only [SO.of] at e
    split at e
    · cases e
      obtain ⟨vs, q, r⟩ := h.v
      exact ⟨by assumption, vs, q, r⟩
    · cases e
  | dic ds =>
    simp only [SO.of] at e
    split at e
    · cases e
      obtain ⟨vs, q, r⟩ := h.v
      exact ⟨by assumption, vs, q, r⟩
    · cases e
  | _ => exact h.v.elim
theorem JO.sto {e : Expr} {t : TE} {m : Nv → M D} (h : JO X E e t m) : JE X E e t (mStore m) := ⟨h.pe, fun σ W S env Q I N r => h.sim σ W S env Q I N (by
  cases q : m env S with
  | ok d S' =>
    have r1 : ResG (gm X) (E σ) W (M.bnd (M.opt (SO.of d)) alloc S') (Kd (gm X) Q) := by
      unfold mStore M.bnd at r
      rw [q] at r
      exact r
    intro W1 s I1 p o hp
    obtain ⟨so, e, r2⟩ := r1.opt
    refine r2 (W1.sto p) (s.sto hp) (I1.sto o.f o.r (o.so e)) (.ref p) ?_
    simp only [Rp]
    refine ⟨p, rfl, ?_⟩
    show (W1.ρ ++ [p])[S'.length]? = some p
    rw [← I1.len]; simp
  | exc c fs S' => unfold mStore M.bnd at r; rw [q] at r; exact r
  | stuck => unfold mStore M.bnd at r; rw [q] at r; exact r)⟩
end
end Fw

namespace Fw
open PySem PySem.Spec PyProof.Rows L2

/-! ### slots, statements -/
inductive Sl where
  | no | va (d : D) | ow (d : D)
abbrev En := List Sl
inductive Fl where
  | nx (e : En) | rt (d : D) | ro (d : D) | bk (e : En) | ct (e : En)
def bor : D → D
  | .dic k => .bdic k
  | d => d
def Sl.see (b : Bool) : Sl → Option D
  | .no => none
  | .va d => some d
  | .ow d => if b = true then some (bor d) else none
def view (b : Bool) (en : En) : Nv := en.map (Sl.see b)
structure EnOk (Γ : Gm) (W0 W : Wd) (en : En) (σ : L2.St) : Prop where
  len : en.length = σ.length
  va : ∀ (i : Nat) d, en[i]? = some (.va d) → ∃ v, σ[i]? = some (some v) ∧ Rp Γ.K W.ρ W.F d v
  ow : ∀ (i : Nat) d, en[i]? = some (.ow d) → ∃ p, σ[i]? = some (some (.ref p)) ∧ OwnAt Γ W p d ∧ W0.H p = none
  dj : ∀ (i j : Nat) d d' p, en[i]? = some (.ow d) → en[j]? = some (.ow d') → σ[i]? = some (some (.ref p)) → σ[j]? = some (some (.ref p)) → i = j
theorem Bas.tr {W W1 W2 : Wd} (a : Bas W W1) (b : Bas W1 W2) : Bas W W2 where
  new := fun x e e' => by
    by_cases q : W1.F x = none
    · exact a.dom x (b.new x q e')
    · exact a.new x e q
  rho := fun x e => by
    rcases b.rho x e with z | z
    · exact a.rho x z
    · exact .inr (a.dom x z)
  keep := fun x o e n => by
    refine b.keep x o (a.keep x o e n) fun z => ?_
    rcases a.rho x z with q | q
    · exact n q
    · rw [e] at q; cases q
  dom := fun x e => a.dom x (b.dom x e)
section
variable {Γ : Gm} {W0 W W1 : Wd} {S : Sto} {en : En} {σ : L2.St} {d : D} {p : Addr}
theorem EnOk.stp (h : EnOk Γ W0 W en σ) (s : Stp W W1) : EnOk Γ W0 W1 en σ := ⟨h.len, fun i d e => by
  obtain ⟨v, q, r⟩ := h.va i d e
  exact ⟨v, q, Rp.mono s.g _ _ r⟩, fun i d e => by
  obtain ⟨p, q, o, z⟩ := h.ow i d e
  exact ⟨p, q, o.mono s, z⟩, h.dj⟩
theorem set_get {α : Type} {l : List α} {i j : Nat} {a b : α} (h : (l.set j a)[i]? = some b) : (i = j ∧ a = b ∧ j < l.length) ∨ (i ≠ j ∧ l[i]? = some b) := by
  by_cases e : j = i
  · subst e
    have hl : j < l.length := by
      have := (List.getElem?_eq_some_iff.mp h).1
      simpa using this
    rw [List.getElem?_set_self hl] at h
    exact .inl ⟨rfl, Option.some.inj h, hl⟩
  · rw [List.getElem?_set_ne e] at h
    exact .inr ⟨fun z => e z.symm, h⟩
theorem EnOk.setVa (h : EnOk Γ W0 W en σ) {v : V} (r : Rp Γ.K W.ρ W.F d v) (j : Nat) : EnOk Γ W0 W (en.set j (.va d)) (σ.set j (some v)) := by
  refine ⟨by simp [h.len], fun i e hi => ?_, fun i e hi => ?_, fun i k e e' p h1 h2 h3 h4 => ?_⟩
  · rcases set_get hi with ⟨rfl, q, hl⟩ | ⟨ne, hi⟩
    · cases q
      exact ⟨v, List.getElem?_set_self (by rw [← h.len]; exact hl), r⟩
    · rw [List.getElem?_set_ne ne.symm]; exact h.va i e hi
  · rcases set_get hi with ⟨rfl, q, hl⟩ | ⟨ne, hi⟩
    · cases q
    · rw [List.getElem?_set_ne ne.symm]; exact h.ow i e hi
  · rcases set_get h1 with ⟨rfl, q, hl⟩ | ⟨n1, h1⟩
    · cases q
    · rcases set_get h2 with ⟨rfl, q, hl⟩ | ⟨n2, h2⟩
      · cases q
      · rw [List.getElem?_set_ne n1.symm] at h3
        rw [List.getElem?_set_ne n2.symm] at h4
        exact h.dj i k e e' p h1 h2 h3 h4
theorem EnOk.setOw (h : EnOk Γ W0 W en σ) (o : OwnAt Γ W p d) (z : W0.H p = none) (nw : ∀ (i : Nat) e, en[i]? = some (.ow e) → σ[i]? ≠ some (some (.ref p))) (j : Nat) : EnOk Γ W0 W (en.set j (.ow d)) (σ.set j (some (.ref p))) := by
  refine ⟨by simp [h.len], fun i e hi => ?_, fun i e hi => ?_, fun i k e e' p' h1 h2 h3 h4 => ?_⟩
  · rcases set_get hi with ⟨rfl, q, hl⟩ | ⟨ne, hi⟩
    · cases q
    · rw [List.getElem?_set_ne ne.symm]; exact h.va i e hi
  · rcases set_get hi with ⟨rfl, q, hl⟩ | ⟨ne, hi⟩
    · cases q
      exact ⟨p, List.getElem?_set_self (by rw [← h.len]; exact hl), o, z⟩
    · rw [List.getElem?_set_ne ne.symm]; exact h.ow i e hi
  · rcases set_get h1 with ⟨e1, _, hl⟩ | ⟨n1, g1⟩
    · rcases set_get h2 with ⟨e2, _, _⟩ | ⟨n2, g2⟩
      · rw [e1, e2]
      · rw [e1, List.getElem?_set_self (by rw [← h.len]; exact hl)] at h3
        rw [List.getElem?_set_ne n2.symm] at h4
        cases h3
        exact absurd h4 (nw k e' g2)
    · rcases set_get h2 with ⟨e2, _, hl⟩ | ⟨n2, g2⟩
      · rw [e2, List.getElem?_set_self (by rw [← h.len]; exact hl)] at h4
        rw [List.getElem?_set_ne n1.symm] at h3
        cases h4
        exact absurd h3 (nw i e g1)
      · rw [List.getElem?_set_ne n1.symm] at h3
        rw [List.getElem?_set_ne n2.symm] at h4
        exact h.dj i k e e' p' g1 g2 h3 h4
/-- a slot forgotten -/
theorem EnOk.kill (h : EnOk Γ W0 W en σ) (j : Nat) : EnOk Γ W0 W (en.set j .no) σ := by
  refine ⟨by simp [h.len], fun i e hi => ?_, fun i e hi => ?_, fun i k e e' p h1 h2 h3 h4 => ?_⟩
  · rcases set_get hi with ⟨rfl, q, hl⟩ | ⟨ne, hi⟩
    · cases q
    · exact h.va i e hi
  · rcases set_get hi with ⟨rfl, q, hl⟩ | ⟨ne, hi⟩
    · cases q
    · exact h.ow i e hi
  · rcases set_get h1 with ⟨rfl, q, hl⟩ | ⟨n1, h1⟩
    · cases q
    · rcases set_get h2 with ⟨rfl, q, hl⟩ | ⟨n2, h2⟩
      · cases q
      · exact h.dj i k e e' p h1 h2 h3 h4
/-! lending what one owns -/
def Lent (en : En) (σ : L2.St) (a : Addr) : Prop := ∃ (i : Nat) (d : D), en[i]? = some (.ow d) ∧ σ[i]? = some (some (.ref a))
open Classical in
noncomputable def Wd.lend (W : Wd) (en : En) (σ : L2.St) : Wd := ⟨W.ρ, fun a => if Lent en σ a then W.H a else W.F a, W.H⟩
open Classical in
noncomputable def Wd.back (W : Wd) (en : En) (σ : L2.St) : Wd := ⟨W.ρ, fun a => if Lent en σ a then none else W.F a, W.H⟩
theorem EnOk.lent (h : EnOk Γ W0 W en σ) {a : Addr} (l : Lent en σ a) : ∃ d, OwnAt Γ W a d ∧ W0.H a = none := by
  obtain ⟨i, d, e, q⟩ := l
  obtain ⟨p, q2, o, z⟩ := h.ow i d e
  rw [q] at q2; cases q2
  exact ⟨d, o, z⟩
theorem lend_F {a : Addr} (l : Lent en σ a) : (W.lend en σ).F a = W.H a := if_pos l
theorem lend_N {a : Addr} (l : ¬ Lent en σ a) : (W.lend en σ).F a = W.F a := if_neg l
theorem back_F {a : Addr} (l : Lent en σ a) : (W.back en σ).F a = none := if_pos l
theorem back_N {a : Addr} (l : ¬ Lent en σ a) : (W.back en σ).F a = W.F a := if_neg l
theorem EnOk.lend_gro (h : EnOk Γ W0 W en σ) : Gro W.ρ (W.lend en σ).ρ W.F (W.lend en σ).F := ⟨fun a u e => by
  by_cases l : Lent en σ a
  · obtain ⟨d, o, _⟩ := h.lent l
    rw [o.f] at e; cases e
  · rw [lend_N l]; exact e, fun _ _ h => h⟩
theorem OwnV.kind {W : Wd} (h : OwnV Γ W p d) : ∃ u, W.H p = some u ∧ FrO u ∧ (∀ x, u ≠ .tup x) := by
  cases d with
  | lst ds => obtain ⟨vs, e, _⟩ := h; exact ⟨_, e, trivial, fun _ z => nomatch z⟩
  | dic ds => obtain ⟨vs, e, _⟩ := h; exact ⟨_, e, trivial, fun _ z => nomatch z⟩
  | _ => exact h.elim
theorem EnOk.lendOk (h : EnOk Γ W0 W en σ) (I : Ok Γ W S) : Ok Γ (W.lend en σ) S := by
  refine ⟨fun a u e => ?_, fun a u e => ?_, I.len, I.nd, fun a ha => ?_, fun n a o h1 h2 => ?_⟩
  · by_cases l : Lent en σ a
    · rw [lend_F l] at e; exact e
    · rw [lend_N l] at e; exact I.fh a u e
  · by_cases l : Lent en σ a
    · rw [lend_F l] at e
      obtain ⟨d, o, _⟩ := h.lent l
      obtain ⟨u', e', k, _⟩ := o.v.kind
      rw [e] at e'; cases e'; exact k
    · rw [lend_N l] at e; exact I.fk a u e
  · by_cases l : Lent en σ a
    · obtain ⟨d, o, _⟩ := h.lent l
      exact absurd ha o.r
    · rw [lend_N l]; exact I.rf a ha
  · exact (I.so n a o h1 h2).gro h.lend_gro.tup rfl
theorem see_get {b : Bool} {s : Sl} {d : D} (h : Sl.see b s = some d) : s = .va d ∨ (b = true ∧ ∃ d', s = .ow d' ∧ d = bor d') := by
  cases s with
  | no => cases h
  | va x => cases h; exact .inl rfl
  | ow x =>
    cases b with
    | true => cases h; exact .inr ⟨rfl, x, rfl, rfl⟩
    | false => cases h
theorem view_get {b : Bool} {i : Nat} {d : D} (h : (view b en)[i]? = some (some d)) : en[i]? = some (.va d) ∨ (b = true ∧ ∃ d', en[i]? = some (.ow d') ∧ d = bor d') := by
  unfold view at h
  rw [List.getElem?_map] at h
  cases e : en[i]? with
  | none => rw [e] at h; cases h
  | some s =>
    rw [e] at h
    rcases see_get (Option.some.inj h) with rfl | ⟨z, d', rfl, q⟩
    · exact .inl rfl
    · exact .inr ⟨z, d', rfl, q⟩
theorem EnOk.env (h : EnOk Γ W0 W en σ) : EnvOk Γ W (view false en) σ := ⟨by unfold view; rw [List.length_map]; exact h.len, fun i d e => by
  rcases view_get e with e | ⟨z, _⟩
  · exact h.va i d e
  · cases z⟩
theorem EnOk.envB (h : EnOk Γ W0 W en σ) : EnvOk Γ (W.lend en σ) (view true en) σ := ⟨by unfold view; rw [List.length_map]; exact h.len, fun i d e => by
  rcases view_get e with e1 | ⟨_, d', e1, ed⟩
  · obtain ⟨v, q, r⟩ := h.va i d e1
    exact ⟨v, q, Rp.mono h.lend_gro _ _ r⟩
  · obtain ⟨p, q, o, z⟩ := h.ow i d' e1
    refine ⟨_, q, ?_⟩
    have l : Lent en σ p := ⟨i, d', e1, q⟩
    rw [ed]
    have hv := o.v
    cases d' with
    | lst ds =>
      obtain ⟨vs, eh, r⟩ := hv
      simp only [bor, Rp]
      exact ⟨p, vs, rfl, (lend_F l).trans eh, RpL.mono h.lend_gro _ _ r⟩
    | dic ds =>
      obtain ⟨vs, eh, r⟩ := hv
      simp only [bor, Rp]
      exact ⟨p, vs, rfl, (lend_F l).trans eh, RpK.mono h.lend_gro _ _ r⟩
    | _ => exact hv.elim⟩
/-- and having it back -/
theorem EnOk.fNo (h : EnOk Γ W0 W en σ) (s : Stp (W.lend en σ) W1) {a : Addr} {u : HO} (e : W.F a = some u) : (W1.back en σ).F a = some u := by
  have nl : ¬ Lent en σ a := fun l => by
    obtain ⟨d, o, _⟩ := h.lent l
    rw [o.f] at e; cases e
  rw [back_N nl]
  exact s.g.f a u (by rw [lend_N nl]; exact e)
theorem EnOk.backGro (h : EnOk Γ W0 W en σ) (s : Stp (W.lend en σ) W1) : Gro W.ρ (W1.back en σ).ρ W.F (W1.back en σ).F := ⟨fun a u e => h.fNo s e, fun n a e => s.g.r n a e⟩
theorem EnOk.backTup (h : EnOk Γ W0 W en σ) (I : Ok Γ W S) (s : Stp (W.lend en σ) W1) : GroT W1.ρ (W1.back en σ).ρ W1.F (W1.back en σ).F := ⟨fun a u e => by
  have nl : ¬ Lent en σ a := fun l => by
    obtain ⟨d, o, _⟩ := h.lent l
    obtain ⟨u', e', _, n⟩ := o.v.kind
    have q := s.g.f a u' (by rw [lend_F l]; exact e')
    rw [e] at q; cases q; exact n _ rfl
  rw [back_N nl]; exact e, fun _ _ h => h⟩
theorem EnOk.backStp (h : EnOk Γ W0 W en σ) (s : Stp (W.lend en σ) W1) : Stp W (W1.back en σ) := by
  refine ⟨⟨h.backGro s⟩, ⟨fun a e e' => ?_, s.rho, s.keep, s.dom⟩⟩
  by_cases l : Lent en σ a
  · exact absurd (back_F l) e'
  · rw [back_N l] at e'
    exact s.new a ((lend_N l).trans e) e'
theorem EnOk.backOk {S' : Sto} (h : EnOk Γ W0 W en σ) (I : Ok Γ W S) (s : Stp (W.lend en σ) W1) (I1 : Ok Γ W1 S') : Ok Γ (W1.back en σ) S' := by
  have sub : ∀ a u, (W1.back en σ).F a = some u → W1.F a = some u := fun a u e => by
    by_cases l : Lent en σ a
    · rw [back_F l] at e; cases e
    · rw [back_N l] at e; exact e
  refine ⟨fun a u e => I1.fh a u (sub a u e), fun a u e => I1.fk a u (sub a u e), I1.len, I1.nd, fun a ha => ?_, fun n a o h1 h2 => (I1.so n a o h1 h2).gro (h.backTup I s) rfl⟩
  by_cases l : Lent en σ a
  · exact back_F l
  · rw [back_N l]; exact I1.rf a ha
theorem EnOk.backEn (h : EnOk Γ W0 W en σ) (s : Stp (W.lend en σ) W1) : EnOk Γ W0 (W1.back en σ) en σ := h.stp (h.backStp s)
end
def ResS (Γ : Gm) (E : XK) (W0 W : Wd) (r : Rs Fl) (D : Ends) : Prop := match r with
  | .ok (.nx en') S' => ∀ W' σ', Aft W W' → Bas W0 W' → Ok Γ W' S' → EnOk Γ W0 W' en' σ' → D.nx σ' W'.H
  | .ok (.bk en') S' => ∀ W' σ', Aft W W' → Bas W0 W' → Ok Γ W' S' → EnOk Γ W0 W' en' σ' → D.bk σ' W'.H
  | .ok (.ct en') S' => ∀ W' σ', Aft W W' → Bas W0 W' → Ok Γ W' S' → EnOk Γ W0 W' en' σ' → D.ct σ' W'.H
  | .ok (.rt d) S' => ∀ W' v, Aft W W' → Bas W0 W' → Ok Γ W' S' → Rp Γ.K W'.ρ W'.F d v → D.rt v W'.H
  | .ok (.ro d) S' => ∀ W' p, Aft W W' → Bas W0 W' → Ok Γ W' S' → OwnAt Γ W' p d → W0.H p = none → D.rt (.ref p) W'.H
  | .exc c fs S' => immF fs = true ∧ ∀ W' C dx vs, Aft W W' → Bas W0 W' → Ok Γ W' S' → Γ.mg c = some (.ref C) → W'.H dx = some (.xd vs) → RpF Γ.K W'.ρ W'.F fs vs → E (.ref C) (some dx) W'.H
  | .stuck => False
def SimS (Γ : Gm) (E : XK) (t : TS) (m : En → M Fl) : Prop := ∀ σ W0 W S en (D : Ends), Ok Γ W S → Bas W0 W → EnOk Γ W0 W en σ → ResS Γ E W0 W (m en S) D → t D σ W.H
structure JS (X : Cx) (E : XK) (st : Stmt) (t : TS) (m : En → M Fl) : Prop where
  ps : PS X st t
  sim : SimS (gm X) E t m
structure JSs (X : Cx) (E : XK) (st : List Stmt) (t : TS) (m : En → M Fl) : Prop where
  ps : PSs X st t
  sim : SimS (gm X) E t m
section
variable {Γ : Gm} {E : XK} {W0 W W1 : Wd} {S : Sto} {en : En} {σ : L2.St}
theorem ResS.mono {r : Rs Fl} {D : Ends} (h : ResS Γ E W0 W r D) (a : Aft W W1) : ResS Γ E W0 W1 r D := by
  cases r with
  | ok f S' =>
    cases f with
    | nx e => exact fun W' σ' x => h W' σ' (a.trans x)
    | bk e => exact fun W' σ' x => h W' σ' (a.trans x)
    | ct e => exact fun W' σ' x => h W' σ' (a.trans x)
    | rt d => exact fun W' v x => h W' v (a.trans x)
    | ro d => exact fun W' v x => h W' v (a.trans x)
  | exc c fs S' => exact ⟨h.1, fun W' C dx vs x => h.2 W' C dx vs (a.trans x)⟩
  | stuck => exact h
/-- an expression, then the rest: with what one owns lent (the value leans on tuples alone), or hidden -/
theorem ResS.seeB (b0 : Bas W0 W) {me : Nv → M D} {f : D → M Fl} {D : Ends} {Q : VK} {te : TE} (N : EnOk Γ W0 W en σ) (I : Ok Γ W S) (b : Bas W0 W) (se : SimE Γ (fun _ => E) te me)
    (h : ResS Γ E W0 W (M.bnd (me (view true en)) (fun d => if d.imm = true then f d else M.stk) S) D)
    (k : ∀ d S' W' v, Stp W W' → Ok Γ W' S' → EnOk Γ W0 W' en σ → Rp Γ.K W'.ρ W'.F d v → d.imm = true → ResS Γ E W0 W' (f d S') D → Q v W'.H) : te σ W.H Q := by
  have q := se σ (W.lend en σ) S (view true en) Q (N.lendOk I) N.envB
  refine q ?_
  unfold M.bnd at h
  cases e : me (view true en) S with
  | ok d S' =>
    rw [e] at h
    intro W1 s I1 v r
    have h : ResS Γ E W0 W ((if d.imm = true then f d else M.stk) S') D := h
    by_cases hi : d.imm = true
    · rw [if_pos hi] at h
      have sb := N.backStp s
      exact k d S' (W1.back en σ) v sb (N.backOk I s I1) (N.backEn s) (Rp.monoT (N.backTup I s) d v hi r) hi (h.mono sb.toAft)
    · rw [if_neg hi] at h; exact h.elim
  | exc c fs S' =>
    rw [e] at h
    refine ⟨h.1, fun W1 C dx vs s I1 h1 h2 h3 => ?_⟩
    have sb := N.backStp s
    exact h.2 (W1.back en σ) C dx vs sb.toAft (b0.tr sb.toBas) (N.backOk I s I1) h1 h2 (RpF.monoT (N.backTup I s) _ _ h.1 h3)
  | stuck => rw [e] at h; exact h
end
end Fw

namespace Fw
open PySem PySem.Spec PyProof.Rows L2

/-! ### an expression within a statement: what its value is to the slots -/
def SlOk (Γ : Gm) (W W' : Wd) : Sl → V → Prop
  | .va d, v => Rp Γ.K W'.ρ W'.F d v
  | .ow d, v => ∃ p, v = .ref p ∧ OwnAt Γ W' p d ∧ W.H p = none
  | .no, _ => False
abbrev Km (Γ : Gm) (W : Wd) (Q : VK) : Sl → Sto → Wd → Prop := fun s _ W' => ∀ v, SlOk Γ W W' s v → Q v W'.H
def SimM (Γ : Gm) (E : XK) (te : TE) (f : En → M Sl) : Prop := ∀ σ W0 W S en Q, Ok Γ W S → EnOk Γ W0 W en σ → ResG Γ E W (f en S) (Km Γ W Q) → te σ W.H Q
structure JM (X : Cx) (E : XK) (e : Expr) (te : TE) (f : En → M Sl) : Prop where
  pe : PE X e te
  sim : SimM (gm X) E te f
def D.immC : D → Bool
  | .lst ds => immL ds
  | .dic ds => immK ds
  | _ => false
def sV (me : Nv → M D) : En → M Sl := fun en => M.bnd (me (view true en)) fun d => if d.imm = true then M.ret (.va d) else M.stk
def sN (me : Nv → M D) : En → M Sl := fun en => M.bnd (me (view false en)) fun d => M.ret (.va d)
def sO (mo : Nv → M D) : En → M Sl := fun en => M.bnd (mo (view true en)) fun d => if d.immC = true then M.ret (.ow d) else M.stk
def sF (mo : Nv → M D) : En → M Sl := fun en => M.bnd (mo (view true en)) fun d => if d.immC = true then M.ret (.va d) else M.stk
section
variable {Γ : Gm} {E : XK} {W0 W W1 : Wd} {S : Sto} {en : En} {σ : L2.St} {te : TE} {me : Nv → M D}
theorem backG {α β : Type} {m : M α} {f : α → M β} {k : β → Sto → Wd → Prop} {k' : α → Sto → Wd → Prop} (N : EnOk Γ W0 W en σ) (I : Ok Γ W S) (h : ResG Γ E W (M.bnd m f S) k)
    (q : ∀ a S' W', Stp (W.lend en σ) W' → Ok Γ W' S' → ResG Γ E W (f a S') k → k' a S' W') : ResG Γ E (W.lend en σ) (m S) k' := by
  unfold M.bnd at h
  cases e : m S with
  | ok a S' => rw [e] at h; exact fun W' s I' => q a S' W' s I' h
  | exc c fs S' =>
    rw [e] at h
    refine ⟨h.1, fun W1 C dx vs s I1 h1 h2 h3 => ?_⟩
    exact h.2 (W1.back en σ) C dx vs (N.backStp s) (N.backOk I s I1) h1 h2 (RpF.monoT (N.backTup I s) _ _ h.1 h3)
  | stuck => rw [e] at h; exact h
theorem sim_sV (h : SimE Γ (fun _ => E) te me) : SimM Γ E te (sV me) := fun σ W0 W S en Q I N r =>
  h σ (W.lend en σ) S (view true en) Q (N.lendOk I) N.envB (backG N I r fun d S' W' s I' r' v rv => by
    by_cases hi : d.imm = true
    · rw [if_pos hi] at r'
      have q := r' (W'.back en σ) (N.backStp s) (N.backOk I s I')
      exact q v (Rp.monoT (N.backTup I s) d v hi rv)
    · rw [if_neg hi] at r'; exact r'.elim)
theorem sim_sN (h : SimE Γ (fun _ => E) te me) : SimM Γ E te (sN me) := fun σ W0 W S en Q I N r =>
  h σ W S (view false en) Q I N.env (r.bnd.imp fun d S' W' s I' r' v rv => ResG.mono (W1 := W') (r') (.refl W') |>.ret I' v rv |> id)
theorem back_own {p : Addr} {d : D} {S' : Sto} (N : EnOk Γ W0 W en σ) (I : Ok Γ W S) (s : Stp (W.lend en σ) W1) (I' : Ok Γ W1 S') (o : OwnAt Γ W1 p d) (hi : d.immC = true) : OwnAt Γ (W1.back en σ) p d := by
  refine ⟨?_, o.r, ?_⟩
  · by_cases l : Lent en σ p
    · exact back_F l
    · rw [back_N l]; exact o.f
  · have ov := o.v
    cases d with
    | lst ds => obtain ⟨vs, e, r⟩ := ov; exact ⟨vs, e, RpL.monoT (N.backTup I s) _ _ hi r⟩
    | dic ds => obtain ⟨vs, e, r⟩ := ov; exact ⟨vs, e, RpK.monoT (N.backTup I s) _ _ hi r⟩
    | _ => exact ov.elim
theorem sim_sO (h : SimO Γ (fun _ => E) te me) : SimM Γ E te (sO me) := fun σ W0 W S en Q I N r =>
  h σ (W.lend en σ) S (view true en) Q (N.lendOk I) N.envB (backG N I r fun d S' W' s I' r' p o hp => by
    by_cases hi : d.immC = true
    · rw [if_pos hi] at r'
      have q := r' (W'.back en σ) (N.backStp s) (N.backOk I s I')
      exact q (.ref p) ⟨p, rfl, back_own N I s I' o hi, hp⟩
    · rw [if_neg hi] at r'; exact r'.elim)
theorem sim_sF (h : SimO Γ (fun _ => E) te me) : SimM Γ E (tFz te) (sF me) := fun σ W0 W S en Q I N r =>
  h σ (W.lend en σ) S (view true en) (fun v H1 => Fz (Q v) H1) (N.lendOk I) N.envB (backG N I r fun d S' W' s I' r' p o hp => by
    by_cases hi : d.immC = true
    · rw [if_pos hi] at r'
      have q := ResG.ownFrz (Γ := Γ) (W1 := W'.back en σ) (Q := Q) (N.backStp s) (N.backOk I s I') (back_own N I s I' o hi) hp fun W2 s2 I2 v rv => r' W2 s2 I2 v rv
      exact q
    · rw [if_neg hi] at r'; exact r'.elim)
end
section
variable {X : Cx} {E : XK} {e : Expr} {te : TE} {me : Nv → M D}
theorem jm_v (h : JE X (fun _ => E) e te me) : JM X E e te (sV me) := ⟨h.pe, sim_sV h.sim⟩
theorem jm_n (h : JE X (fun _ => E) e te me) : JM X E e te (sN me) := ⟨h.pe, sim_sN h.sim⟩
theorem jm_o (h : JO X (fun _ => E) e te me) : JM X E e te (sO me) := ⟨h.pe, sim_sO h.sim⟩
theorem jm_f (h : JO X (fun _ => E) e te me) : JM X E e (tFz te) (sF me) := ⟨pe_fz h.pe, sim_sF h.sim⟩
end
/-! ### statements -/
def sAsg (i : Nat) (f : En → M Sl) : En → M Fl := fun en => M.bnd (f en) fun s => M.ret (.nx (en.set i s))
def sPar (i j : Nat) (f g : En → M Sl) : En → M Fl := fun en => M.bnd (f en) fun s => M.bnd (g en) fun u => M.ret (.nx ((en.set i s).set j u))
def sRet (f : En → M Sl) : En → M Fl := fun en => M.bnd (f en) fun s => match s with
  | .va d => M.ret (.rt d)
  | .ow d => M.ret (.ro d)
  | .no => M.stk
def sDrop (f : En → M Sl) : En → M Fl := fun en => M.bnd (f en) fun _ => M.ret (.nx en)
/-- one's own slot is handed back -/
def sRetO (i : Nat) : En → M Fl := fun en => match en[i]? with
  | some (.ow d) => M.ret (.ro d)
  | _ => M.stk
def sNext : En → M Fl := fun en => M.ret (.nx en)
def sBreak : En → M Fl := fun en => M.ret (.bk en)
def sCont : En → M Fl := fun en => M.ret (.ct en)
def sRetN : En → M Fl := fun _ => M.ret (.rt .non)
def sSeq (m1 m2 : En → M Fl) : En → M Fl := fun en => M.bnd (m1 en) fun f => match f with
  | .nx e => m2 e
  | f => M.ret f
def sIf (t : Nv → M Bool) (a b : En → M Fl) : En → M Fl := fun en => M.bnd (t (view true en)) fun c => if c = true then a en else b en
def sKill (i : Nat) (m : En → M Fl) : En → M Fl := fun en => m (en.set i .no)
def sFrz (i : Nat) (m : En → M Fl) : En → M Fl := fun en => match en[i]? with
  | some (.ow d) => m (en.set i (.va d))
  | _ => M.stk
section
variable {Γ : Gm} {E : XK} {W0 W W1 : Wd} {S : Sto} {en : En} {σ : L2.St} {te : TE} {me : Nv → M D} {f g : En → M Sl} {D : Ends}
/-- from a statement's wish to its expression's -/
theorem ResS.expr {α : Type} {m : M α} {k : α → M Fl} (b0 : Bas W0 W) (h : ResS Γ E W0 W (M.bnd m k S) D) : ResG Γ E W (m S) fun a S' W' => ResS Γ E W0 W' (k a S') D := by
  unfold M.bnd at h
  cases e : m S with
  | ok a S' => rw [e] at h; exact fun W' s I' => ResS.mono h s.toAft
  | exc c fs S' =>
    rw [e] at h
    exact ⟨h.1, fun W1 C dx vs s I1 h1 h2 h3 => h.2 W1 C dx vs s.toAft (b0.tr s.toBas) I1 h1 h2 h3⟩
  | stuck => rw [e] at h; exact h
theorem ResS.bnd {m : M Fl} {k : Fl → M Fl} {S : Sto} {k1 : ∀ (f : Fl), Sto → Prop} (h : ResS Γ E W0 W (M.bnd m k S) D) (hk : ∀ f S', m S = .ok f S' → ResS Γ E W0 W (k f S') D → k1 f S') :
    match m S with
    | .ok f S' => k1 f S'
    | .exc c fs S' => ResS Γ E W0 W (.exc c fs S') D
    | .stuck => False := by
  unfold M.bnd at h
  cases e : m S with
  | ok a S' => rw [e] at h; exact hk a S' e h
  | exc c fs S' => rw [e] at h; exact h
  | stuck => rw [e] at h; exact h
theorem EnOk.setSl (N : EnOk Γ W0 W1 en σ) (b0 : Bas W0 W) {s : Sl} {v : V} (hs : SlOk Γ W W1 s v) (hn : ∀ p, W.H p = none → ∀ (i : Nat) e, en[i]? = some (.ow e) → σ[i]? ≠ some (some (.ref p))) (j : Nat) : EnOk Γ W0 W1 (en.set j s) (σ.set j (some v)) := by
  cases s with
  | va d => exact N.setVa hs j
  | ow d =>
    obtain ⟨p, rfl, o, hp⟩ := hs
    exact N.setOw o (b0.dom p hp) (hn p hp) j
  | no => exact hs.elim
theorem EnOk.fresh_ne (N : EnOk Γ W0 W en σ) {p : Addr} (hp : W.H p = none) (i : Nat) (e : Fw.D) (h : en[i]? = some (.ow e)) : σ[i]? ≠ some (some (.ref p)) := fun z => by
  obtain ⟨q, q1, o, _⟩ := N.ow i e h
  rw [q1] at z; cases z
  exact o.v.there hp
theorem sim_asg {i : Nat} (h : SimM Γ E te f) : SimS Γ E (tAsg te (gName i)) (sAsg i f) := fun σ W0 W S en D I b0 N r =>
  h σ W0 W S en _ I N ((r.expr b0).imp fun s S' W' st I' r' v sv => r' W' _ (.refl W') (b0.tr st.toBas) I' ((N.stp st).setSl b0 sv (fun p hp i e h' => N.fresh_ne hp i e h') i))
theorem SlOk.stp {s : Sl} {v : V} {W2 : Wd} (h : SlOk Γ W W1 s v) (st : Stp W1 W2) : SlOk Γ W W2 s v := by
  cases s with
  | va d => exact Rp.mono st.g _ _ h
  | ow d => obtain ⟨p, e, o, hp⟩ := h; exact ⟨p, e, o.mono st, hp⟩
  | no => exact h
theorem sim_par {i j : Nat} {ta tb : TE} (h : SimM Γ E ta f) (h2 : SimM Γ E tb g) : SimS Γ E (tPar i j (tCons ta (tCons tb tNil))) (sPar i j f g) := fun σ W0 W S en D I b0 N r =>
  h σ W0 W S en _ I N ((r.expr b0).imp fun s S1 W1 st I1 r1 v sv => h2 σ W0 W1 S1 en _ I1 (N.stp st) ((r1.expr (b0.tr st.toBas)).imp fun u S2 W2 st2 I2 r2 w uw =>
    ⟨v, w, rfl, r2 W2 _ (.refl W2) (b0.tr (st.trans st2).toBas) I2 (by
      have N1 := ((N.stp st).stp st2).setSl b0 (sv.stp st2) (fun p hp i e h' => N.fresh_ne hp i e h') i
      refine EnOk.setSl N1 (b0.tr st.toBas) uw (fun p hp k e h' => ?_) j
      rcases set_get h' with ⟨rfl, q, hl⟩ | ⟨ne, h'⟩
      · rw [List.getElem?_set_self (by rw [← N.len]; exact hl)]
        intro z
        subst q
        obtain ⟨p', e', o', _⟩ := sv
        have z : v = V.ref p := Option.some.inj (Option.some.inj z)
        rw [e'] at z; cases z
        exact o'.v.there hp
      · rw [List.getElem?_set_ne ne.symm]
        exact (N.stp st).fresh_ne hp k e h')⟩))
theorem sim_ret (h : SimM Γ E te f) : SimS Γ E (tRet te) (sRet f) := fun σ W0 W S en D I b0 N r =>
  h σ W0 W S en _ I N ((r.expr b0).imp fun s S' W' st I' r' v sv => by
    cases s with
    | va d => exact r' W' v (.refl W') (b0.tr st.toBas) I' sv
    | ow d =>
      obtain ⟨p, rfl, o, hp⟩ := sv
      exact r' W' p (.refl W') (b0.tr st.toBas) I' o (b0.dom p hp)
    | no => exact sv.elim)
theorem sim_drop (h : SimM Γ E te f) : SimS Γ E (tDrop te) (sDrop f) := fun σ W0 W S en D I b0 N r =>
  h σ W0 W S en _ I N ((r.expr b0).imp fun s S' W' st I' r' v sv => r' W' σ (.refl W') (b0.tr st.toBas) I' (N.stp st))
theorem sim_retO {i : Nat} : SimS Γ E (tRet (tVar i)) (sRetO i) := fun σ W0 W S en D I b0 N r => by
  unfold sRetO at r
  cases e : en[i]? with
  | none => rw [e] at r; exact r.elim
  | some s =>
    rw [e] at r
    cases s with
    | ow d =>
      obtain ⟨p, q, o, z⟩ := N.ow i d e
      exact ⟨_, q, r W p (.refl W) b0 I o z⟩
    | va d => exact r.elim
    | no => exact r.elim
theorem sim_retN : SimS Γ E tRetN sRetN := fun σ W0 W S en D I b0 N r => r W .non (.refl W) b0 I (by simp only [Rp])
theorem sim_next : SimS Γ E tNext sNext := fun σ W0 W S en D I b0 N r => r W σ (.refl W) b0 I N
theorem sim_break : SimS Γ E tBreak sBreak := fun σ W0 W S en D I b0 N r => r W σ (.refl W) b0 I N
theorem sim_cont : SimS Γ E tCont sCont := fun σ W0 W S en D I b0 N r => r W σ (.refl W) b0 I N
theorem ResS.seq {m1 m2 : En → M Fl} {t2 : TS} (h2 : SimS Γ E t2 m2) (r : ResS Γ E W0 W (sSeq m1 m2 en S) D) : ResS Γ E W0 W (m1 en S) { D with nx := t2 D } := by
  unfold sSeq M.bnd at r
  cases e : m1 en S with
  | ok f S' =>
    rw [e] at r
    cases f with
    | nx e' => exact fun W' σ' a b I' N' => h2 σ' W0 W' S' e' D I' b N' (ResS.mono r a)
    | bk e' => exact r
    | ct e' => exact r
    | rt d => exact r
    | ro d => exact r
  | exc c fs S' => rw [e] at r; exact r
  | stuck => rw [e] at r; exact r
theorem sim_seq {t1 t2 : TS} {m1 m2 : En → M Fl} (h1 : SimS Γ E t1 m1) (h2 : SimS Γ E t2 m2) : SimS Γ E (tSeq t1 t2) (sSeq m1 m2) := fun σ W0 W S en D I b0 N r => h1 σ W0 W S en _ I b0 N (r.seq h2)
theorem sim_ifS {t : TT} {mt : Nv → M Bool} {ta tb : TS} {ma mb : En → M Fl} (ht : SimT Γ (fun _ => E) t mt) (ha : SimS Γ E ta ma) (hb : SimS Γ E tb mb) : SimS Γ E (tIfS t ta tb) (sIf mt ma mb) := fun σ W0 W S en D I b0 N r => by
  refine ht σ (W.lend en σ) S (view true en) _ (N.lendOk I) N.envB ?_
  unfold sIf M.bnd at r
  cases e : mt (view true en) S with
  | ok c S' =>
    rw [e] at r
    intro W1 s I1
    have st := N.backStp s
    have r : ResS Γ E W0 W ((if c = true then ma en else mb en) S') D := r
    have r := ResS.mono r st.toAft
    cases c with
    | true =>
      rw [if_pos rfl] at r ⊢
      exact ha σ W0 (W1.back en σ) S' en D (N.backOk I s I1) (b0.tr st.toBas) (N.stp st) r
    | false =>
      rw [if_neg Bool.false_ne_true] at r ⊢
      exact hb σ W0 (W1.back en σ) S' en D (N.backOk I s I1) (b0.tr st.toBas) (N.stp st) r
  | exc c fs S' =>
    rw [e] at r
    refine ⟨r.1, fun W1 C dx vs s I1 h1 h2 h3 => ?_⟩
    have sb := N.backStp s
    exact r.2 (W1.back en σ) C dx vs sb.toAft (b0.tr sb.toBas) (N.backOk I s I1) h1 h2 (RpF.monoT (N.backTup I s) _ _ r.1 h3)
  | stuck => rw [e] at r; exact r
theorem sim_kill {t : TS} {m : En → M Fl} (i : Nat) (h : SimS Γ E t m) : SimS Γ E t (sKill i m) := fun σ W0 W S en D I b0 N r => h σ W0 W S _ D I b0 (N.kill i) r
theorem OwnAt.ne_of {p q : Addr} {d d' : Fw.D} (h : p ≠ q) : p ≠ q := h
theorem frz_en {i : Nat} {d : Fw.D} {p : Addr} {u : HO} (N : EnOk Γ W0 W en σ) (e : en[i]? = some (.ow d)) (q : σ[i]? = some (some (.ref p))) (hF : W.F p = none) (rp : Rp Γ.K (W.frz p u).ρ (W.frz p u).F d (.ref p)) : EnOk Γ W0 (W.frz p u) (en.set i (.va d)) σ := by
  have hl : i < en.length := (List.getElem?_eq_some_iff.mp e).1
  refine ⟨by simp [N.len], fun k x hk => ?_, fun k x hk => ?_, fun k l x y r h1 h2 h3 h4 => ?_⟩
  · rcases set_get hk with ⟨rfl, z, _⟩ | ⟨ne, hk⟩
    · cases z; exact ⟨_, q, rp⟩
    · obtain ⟨v, e1, r1⟩ := N.va k x hk
      exact ⟨v, e1, Rp.mono (frz_gro hF) _ _ r1⟩
  · rcases set_get hk with ⟨rfl, z, _⟩ | ⟨ne, hk⟩
    · cases z
    · obtain ⟨r, e1, o, z⟩ := N.ow k x hk
      have npr : r ≠ p := fun h => ne (N.dj k i x d p hk e (by rw [← h]; exact e1) q)
      refine ⟨r, e1, ⟨?_, o.r, o.v.mono (frz_gro hF) ?_⟩, z⟩
      · show upd W.F p u r = none
        rw [upd_ne npr]; exact o.f
      · show upd W.H p u r = W.H r
        exact upd_ne npr
  · rcases set_get h1 with ⟨rfl, z, _⟩ | ⟨n1, g1⟩
    · cases z
    · rcases set_get h2 with ⟨rfl, z, _⟩ | ⟨n2, g2⟩
      · cases z
      · exact N.dj k l x y r g1 g2 h3 h4
theorem sim_frz {t : TS} {m : En → M Fl} (i : Nat) (h : SimS Γ E t m) : SimS Γ E (tFzS t) (sFrz i m) := fun σ W0 W S en D I b0 N r => by
  unfold sFrz at r
  obtain ⟨d, e, r⟩ : ∃ d, en[i]? = some (.ow d) ∧ ResS Γ E W0 W (m (en.set i (.va d)) S) D := by
    cases e : en[i]? with
    | none => rw [e] at r; exact r.elim
    | some s =>
      rw [e] at r
      cases s with
      | ow d => exact ⟨d, rfl, r⟩
      | va d => exact r.elim
      | no => exact r.elim
  obtain ⟨p, q, o, z⟩ := N.ow i d e
  have fin : ∀ (u : HO), FrO u → Rp Γ.K (W.frz p u).ρ (W.frz p u).F d (.ref p) → t ⟨fun σ' H' => Fz (D.nx σ') H', fun v H' => Fz (D.rt v) H', fun σ' H' => Fz (D.bk σ') H', fun σ' H' => Fz (D.ct σ') H'⟩ σ (W.frz p u).H := fun u hu rp => by
    refine h σ W0 (W.frz p u) S (en.set i (.va d)) _ (I.frz o.f o.r hu) (b0.frz z o.v.there) (frz_en N e q o.f rp) ?_
    have r := ResS.mono r (W1 := W.frz p u) ⟨frz_gro o.f⟩
    revert r
    cases m (en.set i (.va d)) S with
    | ok f S' =>
      intro r
      cases f with
      | nx e' => exact fun W' σ' a b I' N' => .here (r W' σ' a b I' N')
      | bk e' => exact fun W' σ' a b I' N' => .here (r W' σ' a b I' N')
      | ct e' => exact fun W' σ' a b I' N' => .here (r W' σ' a b I' N')
      | rt x => exact fun W' v a b I' R => .here (r W' v a b I' R)
      | ro x => exact fun W' v a b I' R z => .here (r W' v a b I' R z)
    | exc c fs S' => exact fun r => r
    | stuck => exact fun r => r
  cases d with
  | lst ds =>
    obtain ⟨vs, eh, rp, eH⟩ := o.lstF I
    refine .here ?_
    have := fin (.lst vs) trivial rp
    rw [eH] at this; exact this
  | dic ds =>
    obtain ⟨vs, eh, _⟩ := o.v
    refine .lock (d := p) (u := .dK vs) eh trivial fun od => .here ?_
    obtain ⟨vs', eh', rp⟩ := o.dicF (od := od)
    rw [eh] at eh'; cases eh'
    exact fin (.frz od (.dK vs)) trivial rp
  | _ => exact o.v.elim
end
section
variable {X : Cx} {E : XK} {st : Stmt} {sts : List Stmt} {t u : TS} {m n : En → M Fl} {e c : Expr} {te ta tb : TE} {f g : En → M Sl} {pos : Pos} {i j : Nat}
theorem js_set {x : Str} {pos' : Pos} (hN : X.N.Nodup) (he : JM X E e te f) (hi : X.N[i]? = some x := by rfl) (hx : Loc X.env.scope x := by first | exact Or.inl rfl | exact Or.inr rfl) (hs : swapsWith e (some (.Name x pos')) pos.line X.env = pure false := by rfl)
    (hf : X.fn x = true ∨ X.env.scope.names.lookup x = some .local := by first | exact .inl rfl | exact .inr rfl) : JS X E (.Assign [.Name x pos'] e pos) (tAsg te (gName i)) (sAsg i f) := ⟨ps_set hN hi hx he.pe hs hf, sim_asg he.sim⟩
theorem js_ret (he : JM X E e te f) : JS X E (.Return (some e) pos) (tRet te) (sRet f) := ⟨ps_ret he.pe, sim_ret he.sim⟩
theorem js_retN : JS X E (.Return none pos) tRetN sRetN := ⟨ps_retN, sim_retN⟩
theorem js_retO {x : Str} {p : Pos} (hN : X.N[i]? = some x := by rfl) (hv : Vis X.env.scope x := by first | exact Or.inl rfl | exact Or.inr (Or.inl rfl) | exact Or.inr (Or.inr rfl)) (hd : (x == ("__debug__" : Str)) = false := by decide)
    (hcd : (x == ("__classdict__" : Str)) = false := by decide) : JS X E (.Return (some (.Name x p)) pos) (tRet (tVar i)) (sRetO i) := ⟨ps_ret (pe_var hN hv hd hcd), sim_retO⟩
theorem js_expr (he : JM X E e te f) (hs : swapsWith e none pos.line X.env = pure false := by rfl) : JS X E (.Expr e pos) (tDrop te) (sDrop f) := ⟨ps_expr he.pe hs, sim_drop he.sim⟩
theorem js_pass : JS X E (.Pass pos) tNext sNext := ⟨ps_pass, sim_next⟩
theorem js_break : JS X E (.Break pos) tBreak sBreak := ⟨ps_break, sim_break⟩
theorem js_cont : JS X E (.Continue pos) tCont sCont := ⟨ps_continue, sim_cont⟩
theorem js_if {a b : List Stmt} {tc : TT} {mc : Nv → M Bool} (hc : JT X (fun _ => E) c tc mc) (ha : JSs X E a t m) (hb : JSs X E b u n) : JS X E (.If c a b pos) (tIfS tc t u) (sIf mc m n) := ⟨ps_if hc.pt ha.ps hb.ps, sim_ifS hc.sim ha.sim hb.sim⟩
theorem jss_nil : JSs X E [] tNext sNext := ⟨pss_nil, sim_next⟩
theorem jss_one (h : JS X E st t m) : JSs X E [st] t m := ⟨pss_one h.ps, h.sim⟩
theorem jss_cons (h : JS X E st t m) (hs : JSs X E sts u n) : JSs X E (st :: sts) (tSeq t u) (sSeq m n) := ⟨pss_cons h.ps hs.ps, sim_seq h.sim hs.sim⟩
theorem js_kill {i : Nat} (h : JS X E st t m) : JS X E st t (sKill i m) := ⟨h.ps, sim_kill i h.sim⟩
theorem js_frz {i : Nat} (h : JS X E st t m) : JS X E st (tFzS t) (sFrz i m) := ⟨ps_fz h.ps, sim_frz i h.sim⟩
theorem js_par {x y : Str} {a b : Expr} {px py pt : Pos} {kt k2 pt2} (hN : X.N.Nodup) (ha : JM X E a ta f) (hb : JM X E b tb g) (hc : X.calm = true := by rfl) (hi : X.N[i]? = some x := by rfl) (hj : X.N[j]? = some y := by rfl) (hij : i ≠ j := by decide)
    (hx : X.env.scope.names.lookup x = some .local := by rfl) (hy : X.env.scope.names.lookup y = some .local := by rfl) (hw : swappedStores [.Tuple [.Name x px, .Name y py] kt pt] (.Tuple [a, b] k2 pt2) X.env = pure (some [x, y]) := by rfl)
    (hs : swapsWithSole [.Tuple [.Name x px, .Name y py] kt pt] (.Tuple [a, b] k2 pt2) pos.line X.env = pure false := by rfl) (st1 : starEach [a, b] X.env = (false, eval a X.env) :: starEach [b] X.env := by rfl) (st2 : starEach [b] X.env = (false, eval b X.env) :: starEach [] X.env := by rfl) :
    JS X E (.Assign [.Tuple [.Name x px, .Name y py] kt pt] (.Tuple [a, b] k2 pt2) pos) (tPar i j (tCons ta (tCons tb tNil))) (sPar i j f g) :=
  ⟨ps_par hc hN hi hj hij hx hy (pa_cons ha.pe (pa_cons hb.pe pa_nil st2) st1) hw hs, sim_par ha.sim hb.sim⟩
end
end Fw

namespace Fw
open PySem PySem.Spec PyProof.Rows L2

/-! ### what is walked -/
def Yld (Γ : Gm) (W0 : Wd) (J : It) (ds : List D) : Prop := ∀ W S, Aft W0 W → Ok Γ W S → ∀ i : Nat, (i = ds.length → J.stop i W.H) ∧
  ∀ d, ds[i]? = some d → J.go i W.H ∧ ∀ x H', J.yld i W.H x H' → ∃ W', W'.H = H' ∧ Stp W W' ∧ Ok Γ W' S ∧ Rp Γ.K W'.ρ W'.F d x
def SimI (Γ : Gm) (E : EK) (t : TI) (m : Nv → M (List D)) : Prop := ∀ σ W S env R, Ok Γ W S → EnvOk Γ W env σ → ResG Γ (E σ) W (m env S) (fun ds _ W' => ∀ J, Yld Γ W' J ds → R J W'.H) → t σ W.H R
structure JI (X : Cx) (E : EK) (tg iter : Expr) (t : TI) (m : Nv → M (List D)) : Prop where
  pi : PI X tg iter t
  sim : SimI (gm X) E t m
theorem PI.or {X : Cx} {tg iter : Expr} {t t' : TI} (h : PI X tg iter t) (h' : PI X tg iter t') : PI X tg iter (fun σ H R => t σ H R ∨ t' σ H R) := ⟨fun pins s σ H R I q => by
  rcases q with q | q
  · exact h.run pins s σ H R I q
  · exact h'.run pins s σ H R I q⟩
def kD : Key → D
  | .inl i => .int i
  | .inr x => .str x
open M in
def items : D → M (List D)
  | .lst ds => ret ds
  | .tup ds => ret ds
  | .scr ns => ret (ns.map .int)
  | .dic kvs => ret (kvs.map fun p => kD p.1)
  | .str z => ret (z.cps.toList.map fun c => .str ⟨#[c]⟩)
  | _ => stk
def mIter (me : Nv → M D) : Nv → M (List D) := fun env => M.bnd (me env) items
section
variable {Γ : Gm} {E : EK} {W0 W : Wd} {S : Sto} {a b : Addr} {ds es : List D} {vs us : List V}
theorem yld_seq (r : RpL Γ.K W0.ρ W0.F ds vs) {J : It} (hq : ∀ W S, Aft W0 W → Ok Γ W S → ∀ i : Nat, (vs.length = i → J.stop i W.H) ∧ ∀ x, vs[i]? = some x → J.go i W.H ∧ ∀ y H', J.yld i W.H y H' → H' = W.H ∧ y = x) : Yld Γ W0 J ds := fun W S af I i => by
  obtain ⟨h1, h2⟩ := hq W S af I i
  refine ⟨fun e => h1 (r.length.trans e.symm), fun d hd => ?_⟩
  obtain ⟨v, hv, rv⟩ := r.get hd
  obtain ⟨g, y⟩ := h2 v hv
  refine ⟨g, fun x H' hy => ?_⟩
  obtain ⟨e1, e2⟩ := y x H' hy
  exact ⟨W, e1.symm, .refl W, I, by rw [e2]; exact Rp.mono af.g _ _ rv⟩
theorem yld_list (hq : ∀ W S, Aft W0 W → Ok Γ W S → SqL Γ.K W.H a vs) (r : RpL Γ.K W0.ρ W0.F ds vs) : Yld Γ W0 (Itl Γ.K a) ds := yld_seq r fun W S af I i =>
  ⟨fun e => ⟨vs, hq W S af I, by omega⟩, fun x hx => ⟨⟨vs, x, hq W S af I, hx⟩, fun y H' h => ⟨h.1, by have q := h.2 vs (hq W S af I); rw [hx] at q; exact (Option.some.inj q).symm⟩⟩⟩
theorem yld_tup (hq : ∀ W S, Aft W0 W → Ok Γ W S → SqT Γ.K W.H a vs) (r : RpL Γ.K W0.ρ W0.F ds vs) : Yld Γ W0 (Itt Γ.K a) ds := yld_seq r fun W S af I i =>
  ⟨fun e => ⟨vs, hq W S af I, by omega⟩, fun x hx => ⟨⟨vs, x, hq W S af I, hx⟩, fun y H' h => ⟨h.1, by have q := h.2 vs (hq W S af I); rw [hx] at q; exact (Option.some.inj q).symm⟩⟩⟩
theorem rpL_ints {K : PySem.W.Frag} {ρ : List Addr} {F : Hp} : ∀ ns : List Int, RpL K ρ F (ns.map .int) (ns.map V.int)
  | [] => .nil
  | n :: ns => .cons rp_int (rpL_ints ns)
theorem rpL_signs {K : PySem.W.Frag} {ρ : List Addr} {F : Hp} : ∀ cs : List Nat, RpL K ρ F (cs.map fun c => .str ⟨#[c]⟩) (cs.map fun c => V.str ⟨#[c]⟩)
  | [] => .nil
  | c :: cs => .cons rp_str (rpL_signs cs)
theorem rp_kD {K : PySem.W.Frag} {ρ : List Addr} {F : Hp} (k : Key) : Rp K ρ F (kD k) (kV k) := by
  cases k <;> simp only [kD, kV, Rp]
theorem rpL_keys {K : PySem.W.Frag} {ρ : List Addr} {F : Hp} : ∀ {ds : List (Key × D)} {vs : List (Key × V)}, RpK K ρ F ds vs → RpL K ρ F (ds.map fun p => kD p.1) (vs.map fun p => kV p.1)
  | [], vs, h => by obtain rfl := h.inv0; exact .nil
  | (k, d) :: ds, vs, h => by
    obtain ⟨v, r, rfl, h1, h2⟩ := h.inv
    exact .cons (rp_kD k) (rpL_keys h2)
theorem yld_str (x : Str) : Yld Γ W0 (Its x) (x.cps.toList.map fun c => .str ⟨#[c]⟩) := yld_seq (rpL_signs x.cps.toList) fun W S af I i => by
  refine ⟨fun e => ?_, fun y hy => ?_⟩
  · show x.cps.size ≤ i
    simp at e; omega
  · rw [List.getElem?_map] at hy
    cases q : x.cps.toList[i]? with
    | none => rw [q] at hy; cases hy
    | some c =>
      rw [q] at hy
      have hi : i < x.cps.size := by have := (List.getElem?_eq_some_iff.mp q).1; simpa using this
      refine ⟨hi, fun z H' h => ⟨h.1, ?_⟩⟩
      obtain ⟨c', hc, rfl⟩ := h.2
      have : x.cps[i]? = some c := by simpa using q
      rw [this] at hc; cases hc
      exact Option.some.inj hy
theorem yld_keys {kvs : List (Key × D)} {vs : List (Key × V)} {od : Obj} (hF : W0.F a = some (.frz od (.dK vs))) (r : RpK Γ.K W0.ρ W0.F kvs vs) : Yld Γ W0 (Itk a od vs) (kvs.map fun p => kD p.1) := yld_seq (rpL_keys r) fun W S af I i => by
  have hH := I.fh a _ (af.g.f a _ hF)
  refine ⟨fun e => ⟨hH, by simp at e; omega⟩, fun y hy => ?_⟩
  rw [List.getElem?_map] at hy
  cases q : vs[i]? with
  | none => rw [q] at hy; cases hy
  | some p =>
    rw [q] at hy
    refine ⟨⟨hH, (List.getElem?_eq_some_iff.mp q).1⟩, fun z H' h => ⟨h.1, ?_⟩⟩
    obtain ⟨k, v, hk, rfl⟩ := h.2
    rw [q] at hk; cases hk
    exact Option.some.inj hy
theorem yld_vals {kvs : List (Key × D)} {vs : List (Key × V)} {od : Obj} (hF : W0.F a = some (.frz od (.dK vs))) (r : RpK Γ.K W0.ρ W0.F kvs vs) : Yld Γ W0 (Itd a od vs) (kvs.map (·.2)) := yld_seq r.vals fun W S af I i => by
  have hH := I.fh a _ (af.g.f a _ hF)
  refine ⟨fun e => ⟨hH, by simp at e; omega⟩, fun y hy => ?_⟩
  rw [List.getElem?_map] at hy
  cases q : vs[i]? with
  | none => rw [q] at hy; cases hy
  | some p =>
    rw [q] at hy
    refine ⟨⟨hH, (List.getElem?_eq_some_iff.mp q).1⟩, fun z H' h => ⟨h.1, ?_⟩⟩
    obtain ⟨k, hk⟩ := h.2
    rw [q] at hk; cases hk
    exact Option.some.inj hy
/-- each item in a new pair -/
theorem yld_pair {T : Addr} {H' : Hp} {x y : V} {d e : D} (I : Ok Γ W S) (hT : W.H T = none) (rx : Rp Γ.K W.ρ W.F d x) (ry : Rp Γ.K W.ρ W.F e y) (hH : H' = upd W.H T (.tup [x, y])) :
    ∃ W', W'.H = H' ∧ Stp W W' ∧ Ok Γ W' S ∧ Rp Γ.K W'.ρ W'.F (.tup [d, e]) (.ref T) := by
  refine ⟨W.add T (.tup [x, y]), hH.symm, .add I hT, I.add hT trivial, ?_⟩
  simp only [Rp]
  have g := Wd.add_gro (u := .tup [x, y]) (I.fnone hT)
  exact ⟨T, _, rfl, upd_same, .cons (Rp.mono g _ _ rx) (.cons (Rp.mono g _ _ ry) .nil)⟩
theorem RpK.get {K : PySem.W.Frag} {ρ : List Addr} {F : Hp} : ∀ {ds : List (Key × D)} {vs : List (Key × V)} {i : Nat} {p : Key × D}, RpK K ρ F ds vs → ds[i]? = some p → ∃ v, vs[i]? = some (p.1, v) ∧ Rp K ρ F p.2 v
  | [], vs, i, p, h, e => by simp at e
  | (k, d) :: ds, vs, 0, p, h, e => by
    obtain ⟨v, r, rfl, h1, h2⟩ := h.inv
    simp at e; subst e
    exact ⟨v, rfl, h1⟩
  | (k, d) :: ds, vs, i + 1, p, h, e => by
    obtain ⟨v, r, rfl, h1, h2⟩ := h.inv
    obtain ⟨w, e1, e2⟩ := RpK.get (i := i) h2 (by simpa using e)
    exact ⟨w, by simpa using e1, e2⟩
theorem yld_items {kvs : List (Key × D)} {vs : List (Key × V)} {od : Obj} (hF : W0.F a = some (.frz od (.dK vs))) (r : RpK Γ.K W0.ρ W0.F kvs vs) : Yld Γ W0 (Iti a od vs) (kvs.map fun p => .tup [kD p.1, p.2]) := fun W S af I i => by
  have hH := I.fh a _ (af.g.f a _ hF)
  refine ⟨fun e => ⟨hH, by simp at e; rw [r.length, e]; exact Nat.le_refl _⟩, fun d hd => ?_⟩
  rw [List.getElem?_map] at hd
  cases q : kvs[i]? with
  | none => rw [q] at hd; cases hd
  | some p =>
    rw [q] at hd
    have hd : D.tup [kD p.1, p.2] = d := Option.some.inj hd
    subst hd
    obtain ⟨v, hv, rv⟩ := r.get q
    refine ⟨⟨hH, (List.getElem?_eq_some_iff.mp hv).1⟩, fun x H' h => ?_⟩
    obtain ⟨T, k, u, hk, rfl, hT, eH⟩ := h
    rw [hv] at hk; cases hk
    exact yld_pair I hT (rp_kD _) (Rp.mono af.g _ _ rv) eH
theorem zip_get {α β : Type} {xs : List α} {ys : List β} {i : Nat} {p : α × β} (h : (xs.zip ys)[i]? = some p) : xs[i]? = some p.1 ∧ ys[i]? = some p.2 := by
  rw [List.getElem?_zip_eq_some] at h
  exact h
theorem yld_zip {J : It} (r1 : RpL Γ.K W0.ρ W0.F ds vs) (r2 : RpL Γ.K W0.ρ W0.F es us) (hq : ∀ W S, Aft W0 W → Ok Γ W S → ∀ i : Nat, (vs.length ≤ i ∨ us.length ≤ i → J.stop i W.H) ∧ ∀ x y, vs[i]? = some x → us[i]? = some y → J.go i W.H ∧
    ∀ z H', J.yld i W.H z H' → ∃ T, z = .ref T ∧ W.H T = none ∧ H' = upd W.H T (.tup [x, y])) : Yld Γ W0 J ((ds.zip es).map fun p => .tup [p.1, p.2]) := fun W S af I i => by
  obtain ⟨h1, h2⟩ := hq W S af I i
  refine ⟨fun e => h1 ?_, fun d hd => ?_⟩
  · rw [r1.length, r2.length]
    simp only [List.length_map, List.length_zip] at e
    omega
  · rw [List.getElem?_map] at hd
    cases q : (ds.zip es)[i]? with
    | none => rw [q] at hd; cases hd
    | some p =>
      rw [q] at hd
      have hd : D.tup [p.1, p.2] = d := Option.some.inj hd
      subst hd
      obtain ⟨q1, q2⟩ := zip_get q
      obtain ⟨v, hv, rv⟩ := r1.get q1
      obtain ⟨u, hu, ru⟩ := r2.get q2
      obtain ⟨g, y⟩ := h2 v u hv hu
      refine ⟨g, fun x H' h => ?_⟩
      obtain ⟨T, rfl, hT, eH⟩ := y x H' h
      exact yld_pair I hT (Rp.mono af.g _ _ rv) (Rp.mono af.g _ _ ru) eH
end
/-- the items of a value -/
def iAny (K : PySem.W.Frag) (te : TE) : TI := fun σ H R => iList K te σ H R ∨ iTup K te σ H R ∨ iStr te σ H R ∨ iKeys te σ H R
theorem pi_any {X : Cx} {tg e : Expr} {te : TE} (h : PE X e te) : PI X tg e (iAny X.K te) := PI.or (pi_list h) (PI.or (pi_tup h) (PI.or (pi_str h) (pi_keys h)))
section
variable {Γ : Gm} {E : EK} {te : TE} {me : Nv → M D}
theorem sim_iAny (se : SimE Γ E te me) : SimI Γ E (iAny Γ.K te) (mIter me) := fun σ W S env R I N h => by
  unfold mIter M.bnd at h
  cases e : me env S with
  | stuck => rw [e] at h; exact h.elim
  | exc c fs S' =>
    rw [e] at h
    exact .inl (se σ W S env _ I N (by rw [e]; exact h))
  | ok d S' =>
    rw [e] at h
    have go : ∀ {Q : VK}, (∀ W' v, Stp W W' → Ok Γ W' S' → Rp Γ.K W'.ρ W'.F d v → Q v W'.H) → te σ W.H Q := fun {Q} k => se σ W S env Q I N (by
      rw [e]; exact fun W' s I' v r => k W' v s I' r)
    cases d with
    | lst ds =>
      refine .inl (go fun W' v s I' r => ?_)
      simp only [Rp] at r
      obtain ⟨a, vs, rfl, hF, rl⟩ := r
      exact ⟨a, rfl, ⟨vs, I'.lst hF⟩, h W' s I' _ (yld_list (fun W S af I => I.lst (af.g.f a _ hF)) rl)⟩
    | tup ds =>
      refine .inr (.inl (go fun W' v s I' r => ?_))
      simp only [Rp] at r
      obtain ⟨a, vs, rfl, hF, rl⟩ := r
      exact ⟨a, rfl, ⟨vs, I'.tup hF⟩, h W' s I' _ (yld_tup (fun W S af I => I.tup (af.g.f a _ hF)) rl)⟩
    | scr ns =>
      refine .inl (go fun W' v s I' r => ?_)
      simp only [Rp] at r
      obtain ⟨a, o, rfl, hF⟩ := r
      exact ⟨a, rfl, ⟨_, I'.scr hF⟩, h W' s I' _ (yld_list (fun W S af I => I.scr (ScrAt.mono af.g hF)) (rpL_ints ns))⟩
    | str x =>
      refine .inr (.inr (.inl (go fun W' v s I' r => ?_)))
      simp only [Rp] at r
      subst r
      exact ⟨x, rfl, h W' s I' _ (yld_str x)⟩
    | dic kvs =>
      refine .inr (.inr (.inr (go fun W' v s I' r => ?_)))
      simp only [Rp] at r
      obtain ⟨a, vs, od, rfl, hF, rl⟩ := r
      exact ⟨a, od, rfl, .inl ⟨vs, I'.fh a _ hF, h W' s I' _ (yld_keys hF rl)⟩⟩
    | _ => exact h.elim
end
open M in
def itemsI : D → M (List D)
  | .dic kvs => ret (kvs.map fun p => .tup [kD p.1, p.2])
  | _ => stk
open M in
def itemsV : D → M (List D)
  | .dic kvs => ret (kvs.map (·.2))
  | _ => stk
def mItems (me : Nv → M D) : Nv → M (List D) := fun env => M.bnd (me env) itemsI
def mValues (me : Nv → M D) : Nv → M (List D) := fun env => M.bnd (me env) itemsV
def near62 (i : Int) : Bool := decide (-(2 ^ 62) ≤ i) && decide (i < 2 ^ 62)
def rngD (lo : Int) (n : Nat) : List D := (List.range n).map fun i : Nat => .int (lo + (i : Int))
open M in
def rng1 : List D → M (List D)
  | [.int j] => bnd (ass (near62 j)) fun _ => ret (rngD 0 j.toNat)
  | _ => stk
open M in
def rng2 : List D → M (List D)
  | [.int i, .int j] => bnd (ass (near62 i && near62 j)) fun _ => ret (rngD i (j - i).toNat)
  | _ => stk
open M in
def zipD : List D → M (List D)
  | [.lst xs, .lst ys] => ret ((xs.zip ys).map fun p => .tup [p.1, p.2])
  | [.tup xs, .tup ys] => ret ((xs.zip ys).map fun p => .tup [p.1, p.2])
  | _ => stk
def mIterA (f : List D → M (List D)) (ma : Nv → M (List D)) : Nv → M (List D) := fun env => M.bnd (ma env) f
section
variable {Γ : Gm} {E : EK} {te : TE} {me : Nv → M D} {ta : TA} {ma : Nv → M (List D)}
theorem sim_items (se : SimE Γ E te me) : SimI Γ E (iItems te) (mItems me) := fun σ W S env R I N h =>
  se σ W S env _ I N (h.bnd.imp fun d S' W' s I' h' v r => by
    cases d with
    | dic kvs =>
      simp only [Rp] at r
      obtain ⟨a, vs, od, rfl, hF, rl⟩ := r
      exact ⟨a, od, vs, rfl, I'.fh a _ hF, h'.ret I' _ (yld_items hF rl)⟩
    | _ => exact h'.elim)
theorem sim_values (se : SimE Γ E te me) : SimI Γ E (iVals te) (mValues me) := fun σ W S env R I N h =>
  se σ W S env _ I N (h.bnd.imp fun d S' W' s I' h' v r => by
    cases d with
    | dic kvs =>
      simp only [Rp] at r
      obtain ⟨a, vs, od, rfl, hF, rl⟩ := r
      exact ⟨a, od, vs, rfl, I'.fh a _ hF, h'.ret I' _ (yld_vals hF rl)⟩
    | _ => exact h'.elim)
theorem near62_of {i : Int} (h : near62 i = true) : -(2 ^ 62) ≤ i ∧ i < 2 ^ 62 := by
  obtain ⟨a, b⟩ := Bool.and_eq_true_iff.mp h
  exact ⟨of_decide_eq_true a, of_decide_eq_true b⟩
theorem yld_rng {W0 : Wd} (lo : Int) (n : Nat) : Yld Γ W0 (Itr lo n) (rngD lo n) := fun W S af I i => by
  refine ⟨fun e => ?_, fun d hd => ?_⟩
  · show n ≤ i
    simp [rngD] at e; omega
  · unfold rngD at hd
    rw [List.getElem?_map] at hd
    by_cases hi : i < n
    · rw [List.getElem?_range hi] at hd
      have hd : D.int (lo + (i : Int)) = d := Option.some.inj hd
      subst hd
      refine ⟨hi, fun x H' h => ⟨W, h.1.symm, .refl W, I, ?_⟩⟩
      rw [h.2]; exact rp_int
    · rw [List.getElem?_eq_none (by simpa using hi)] at hd; cases hd
theorem sim_rng1 (sa : SimA Γ E ta ma) : SimI Γ E (iRng1 ta) (mIterA rng1 ma) := fun σ W S env R I N h =>
  sa σ W S env _ I N (h.bnd.imp fun ds S' W' s I' h' vs r => by
    unfold rng1 at h'
    match ds, h', r with
    | [.int j], h', r =>
      obtain ⟨hc, h'⟩ := ResG.ass h'
      obtain ⟨v, q, rfl, r1, r2⟩ := r.inv
      obtain rfl := r2.inv0
      simp only [Rp] at r1; subst r1
      exact ⟨j, rfl, (near62_of hc).1, (near62_of hc).2, h'.ret I' _ (yld_rng 0 _)⟩)
theorem sim_rng2 (sa : SimA Γ E ta ma) : SimI Γ E (iRng2 ta) (mIterA rng2 ma) := fun σ W S env R I N h =>
  sa σ W S env _ I N (h.bnd.imp fun ds S' W' s I' h' vs r => by
    unfold rng2 at h'
    match ds, h', r with
    | [.int i, .int j], h', r =>
      obtain ⟨hc, h'⟩ := ResG.ass h'
      obtain ⟨c1, c2⟩ := Bool.and_eq_true_iff.mp hc
      obtain ⟨v, q, rfl, r1, r2⟩ := r.inv
      obtain ⟨u, q, rfl, r3, r4⟩ := r2.inv
      obtain rfl := r4.inv0
      simp only [Rp] at r1 r3; subst r1 r3
      exact ⟨i, j, rfl, ⟨(near62_of c1).1, (near62_of c1).2, (near62_of c2).1, (near62_of c2).2⟩, h'.ret I' _ (yld_rng i _)⟩)
theorem sim_zip (sa : SimA Γ E ta ma) : SimI Γ E (RZ.iZipA Γ.K ta) (mIterA zipD ma) := fun σ W S env R I N h =>
  sa σ W S env _ I N (h.bnd.imp fun ds S' W' s I' h' vs r => by
    unfold zipD at h'
    match ds, h', r with
    | [.lst xs, .lst ys], h', r =>
      obtain ⟨v, q, rfl, r1, r2⟩ := r.inv
      obtain ⟨u, q, rfl, r3, r4⟩ := r2.inv
      obtain rfl := r4.inv0
      simp only [Rp] at r1 r3
      obtain ⟨a, vs, rfl, ha, ra⟩ := r1
      obtain ⟨b, us, rfl, hb, rb⟩ := r3
      refine ⟨a, b, vs, us, rfl, .inl ⟨I'.lst ha, I'.lst hb, h'.ret I' _ (yld_zip ra rb fun W2 S2 af I2 i => ?_)⟩⟩
      have e1 := I2.lst (af.g.f a _ ha)
      have e2 := I2.lst (af.g.f b _ hb)
      refine ⟨fun hl => ⟨vs, us, e1, e2, hl⟩, fun x y hx hy => ⟨⟨vs, us, x, y, e1, e2, hx, hy⟩, fun z H' hz => ?_⟩⟩
      obtain ⟨T, x', y', rfl, hT, eH, q1, q2⟩ := hz
      have q1 := q1 vs e1
      have q2 := q2 us e2
      rw [hx] at q1; rw [hy] at q2; cases q1; cases q2
      exact ⟨T, rfl, hT, eH⟩
    | [.tup xs, .tup ys], h', r =>
      obtain ⟨v, q, rfl, r1, r2⟩ := r.inv
      obtain ⟨u, q, rfl, r3, r4⟩ := r2.inv
      obtain rfl := r4.inv0
      simp only [Rp] at r1 r3
      obtain ⟨a, vs, rfl, ha, ra⟩ := r1
      obtain ⟨b, us, rfl, hb, rb⟩ := r3
      refine ⟨a, b, vs, us, rfl, .inr ⟨I'.tup ha, I'.tup hb, h'.ret I' _ (yld_zip ra rb fun W2 S2 af I2 i => ?_)⟩⟩
      have e1 := I2.tup (af.g.f a _ ha)
      have e2 := I2.tup (af.g.f b _ hb)
      refine ⟨fun hl => ⟨vs, us, e1, e2, hl⟩, fun x y hx hy => ⟨⟨vs, us, x, y, e1, e2, hx, hy⟩, fun z H' hz => ?_⟩⟩
      obtain ⟨T, x', y', rfl, hT, eH, q1, q2⟩ := hz
      have q1 := q1 vs e1
      have q2 := q2 us e2
      rw [hx] at q1; rw [hy] at q2; cases q1; cases q2
      exact ⟨T, rfl, hT, eH⟩)
end
section
variable {X : Cx} {E : EK} {tg e e2 : Expr} {te : TE} {me : Nv → M D} {ta : TA} {ma : Nv → M (List D)} {p pos apos tpos : Pos} {elts : List Expr} {kk : Nat}
theorem ji_any (h : JE X E e te me) : JI X E tg e (iAny X.K te) (mIter me) := ⟨pi_any h.pe, sim_iAny h.sim⟩
theorem ji_items (h : JE X E e te me) (hb : attributeBase e "items" X.env (eval e X.env) = eval e X.env := by rfl) (hl : (apos.endLine == pos.line) = true := by rfl) : JI X E (.Tuple elts kk tpos) (.Call (.Attribute e "items" apos) [] [] pos) (iItems te) (mItems me) := ⟨pi_items h.pe hb hl, sim_items h.sim⟩
theorem ji_values (h : JE X E e te me) (hb : attributeBase e "values" X.env (eval e X.env) = eval e X.env := by rfl) (hl : (apos.endLine == pos.line) = true := by rfl) : JI X E tg (.Call (.Attribute e "values" apos) [] [] pos) (iVals te) (mValues me) := ⟨pi_values h.pe hb hl, sim_values h.sim⟩
theorem ji_rng1 (hm : X.mg "range" = none) (h : JAl X E [e] ta ma) (hg : Gl X "range" := by rfl) (hs : starEach [e] X.env = [(false, eval e X.env)] := by rfl) : JI X E tg (.Call (.Name "range" p) [e] [] pos) (iRng1 ta) (mIterA rng1 ma) := ⟨pi_range1 hg hm h.pa hs, sim_rng1 h.sim⟩
theorem ji_rng2 (hm : X.mg "range" = none) (h : JAl X E [e, e2] ta ma) (hg : Gl X "range" := by rfl) (hs : starEach [e, e2] X.env = [(false, eval e X.env), (false, eval e2 X.env)] := by rfl) (hs2 : starEach [e2] X.env = [(false, eval e2 X.env)] := by rfl) :
    JI X E tg (.Call (.Name "range" p) [e, e2] [] pos) (iRng2 ta) (mIterA rng2 ma) := ⟨pi_range2 hg hm h.pa hs hs2, sim_rng2 h.sim⟩
theorem ji_zip (hm : X.mg "zip" = none) (h : JAl X E [e, e2] ta ma) (hg : Gl X "zip" := by rfl) (hs : starEach [e, e2] X.env = (false, eval e X.env) :: starEach [e2] X.env := by rfl) (hpl : (backTo pos (starEach [e2] X.env)).any (·.1) = false := by rfl) :
    JI X E (.Tuple elts kk tpos) (.Call (.Name "zip" p) [e, e2] [] pos) (RZ.iZipA X.K ta) (mIterA zipD ma) := ⟨RZ.pi_zipA hg hm h.pa hs hpl, sim_zip h.sim⟩
end
end Fw

namespace Fw
open PySem PySem.Spec PyProof.Rows L2

/-! ### targets -/
def SimG (Γ : Gm) (g : TG) (tg : D → En → Option En) : Prop := ∀ W0 W S en σ d v (Q : L2.St → Hp → Prop), Ok Γ W S → EnOk Γ W0 W en σ → Rp Γ.K W.ρ W.F d v → ∀ en', tg d en = some en' → (∀ σ', EnOk Γ W0 W en' σ' → Q σ' W.H) → g v σ W.H Q
def SimGs (Γ : Gm) (g : TGs) (tg : List D → En → Option En) : Prop := ∀ W0 W S en σ ds vs (Q : L2.St → Hp → Prop), Ok Γ W S → EnOk Γ W0 W en σ → RpL Γ.K W.ρ W.F ds vs → ∀ en', tg ds en = some en' → (∀ σ', EnOk Γ W0 W en' σ' → Q σ' W.H) → g vs σ W.H Q
structure JG (X : Cx) (e : Expr) (g : TG) (tg : D → En → Option En) : Prop where
  pg : PG X e g
  sim : SimG (gm X) g tg
structure JGs (X : Cx) (es : List Expr) (g : TGs) (tg : List D → En → Option En) : Prop where
  pg : PGs X es g
  sim : SimGs (gm X) g tg
def tgN (j : Nat) : D → En → Option En := fun d en => some (en.set j (.va d))
def tgNil : List D → En → Option En := fun ds en => match ds with
  | [] => some en
  | _ => none
def tgCons (t : D → En → Option En) (r : List D → En → Option En) : List D → En → Option En := fun ds en => match ds with
  | d :: ds => (t d en).bind (r ds)
  | [] => none
def tgTup (n : Nat) (r : List D → En → Option En) : D → En → Option En := fun d en => match d with
  | .tup ds => if ds.length = n then r ds en else none
  | _ => none
section
variable {Γ : Gm} {g : TG} {gs : TGs} {t : D → En → Option En} {r : List D → En → Option En}
theorem sim_gName {j : Nat} : SimG Γ (gName j) (tgN j) := fun W0 W S en σ d v Q I N rv en' e k => by
  cases e
  exact k _ (N.setVa rv j)
theorem sim_gNil : SimGs Γ gNil tgNil := fun W0 W S en σ ds vs Q I N rv en' e k => by
  cases ds with
  | nil => cases e; exact ⟨rv.inv0, k σ N⟩
  | cons d ds => cases e
theorem sim_gCons (h : SimG Γ g t) (hs : SimGs Γ gs r) : SimGs Γ (gCons g gs) (tgCons t r) := fun W0 W S en σ ds vs Q I N rv en' e k => by
  cases ds with
  | nil => cases e
  | cons d ds =>
    obtain ⟨v, q, rfl, r1, r2⟩ := rv.inv
    obtain ⟨en1, e1, e2⟩ := Option.bind_eq_some_iff.mp e
    exact ⟨v, q, rfl, h W0 W S en σ d v _ I N r1 en1 e1 fun σ1 N1 => hs W0 W S en1 σ1 ds q Q I N1 r2 en' e2 k⟩
theorem sim_gTup {n : Nat} (hs : SimGs Γ gs r) : SimG Γ (gTup Γ.K n gs) (tgTup n r) := fun W0 W S en σ d v Q I N rv en' e k => by
  cases d with
  | tup ds =>
    have e : (if ds.length = n then r ds en else none) = some en' := e
    split at e
    · rename_i hl
      simp only [Rp] at rv
      obtain ⟨a, vs, rfl, ht, rl⟩ := rv
      exact ⟨a, vs, rfl, I.tup ht, rl.length.trans hl, hs W0 W S en σ ds vs Q I N rl en' e k⟩
    · cases e
  | _ => cases e
end
section
variable {X : Cx} {e : Expr} {es : List Expr} {g : TG} {gs : TGs} {t : D → En → Option En} {r : List D → En → Option En} {pos : Pos} {n k : Nat}
theorem jg_name {i : Nat} {x : Str} (hN : X.N.Nodup) (hi : X.N[i]? = some x := by rfl) (hx : Loc X.env.scope x := by first | exact Or.inl rfl | exact Or.inr rfl) (hf : X.fn x = true ∨ X.env.scope.names.lookup x = some .local := by first | exact .inl rfl | exact .inr rfl) : JG X (.Name x pos) (gName i) (tgN i) := ⟨pg_name hN hi hx hf, sim_gName⟩
theorem jgs_nil : JGs X [] gNil tgNil := ⟨pgs_nil, sim_gNil⟩
theorem jgs_cons (h : JG X e g t) (hs : JGs X es gs r) (hst : (assignEach (e :: es) X.env).map (·.2) = assign e X.env :: (assignEach es X.env).map (·.2) := by rfl) : JGs X (e :: es) (gCons g gs) (tgCons t r) := ⟨pgs_cons h.pg hs.pg hst, sim_gCons h.sim hs.sim⟩
theorem jg_tup (h : JGs X es gs r) (hc : X.calm = true := by rfl) (hn : (assignEach es X.env).length = n := by rfl) (hst : (assignEach es X.env).findIdx? (·.1) = none := by rfl) : JG X (.Tuple es k pos) (gTup X.K n gs) (tgTup n r) := ⟨pg_tup hc h.pg hn hst, sim_gTup h.sim⟩
end
/-! targets of a comprehension -/
def SimGv (Γ : Gm) (g : TG) (tg : D → Nv → Option Nv) (js : List Nat) : Prop := ∀ W S env σ d v (Q : L2.St → Hp → Prop), Ok Γ W S → EnvOk Γ W env σ → Rp Γ.K W.ρ W.F d v → ∀ env', tg d env = some env' → (∀ σ', EnvOk Γ W env' σ' → (∀ vs : List Nat, (∀ j, j ∈ js → j ∈ vs) → wipe σ' vs = wipe σ vs) → Q σ' W.H) → g v σ W.H Q
def SimGvs (Γ : Gm) (g : TGs) (tg : List D → Nv → Option Nv) (js : List Nat) : Prop := ∀ W S env σ ds vs (Q : L2.St → Hp → Prop), Ok Γ W S → EnvOk Γ W env σ → RpL Γ.K W.ρ W.F ds vs → ∀ env', tg ds env = some env' → (∀ σ', EnvOk Γ W env' σ' → (∀ vs : List Nat, (∀ j, j ∈ js → j ∈ vs) → wipe σ' vs = wipe σ vs) → Q σ' W.H) → g vs σ W.H Q
theorem wipe_set {σ : L2.St} {x : Option V} : ∀ {vs : List Nat} {j : Nat}, j ∈ vs → wipe (σ.set j x) vs = wipe σ vs
  | v :: vs, j, h => by
    by_cases e : j = v
    · subst e
      have q : ∀ ws : List Nat, (wipe (σ.set j x) ws).set j none = (wipe σ ws).set j none := fun ws => by
        induction ws with
        | nil => simp only [wipe, List.set_set]
        | cons w ws ih =>
          simp only [wipe]
          by_cases z : w = j
          · subst z; rw [List.set_set, List.set_set, ih]
          · rw [List.set_comm _ _ z, ih, List.set_comm _ _ (Ne.symm z)]
      exact q vs
    · have h' : j ∈ vs := by
        rcases List.mem_cons.mp h with z | z
        · exact absurd z e
        · exact z
      simp only [wipe]
      rw [wipe_set h']
theorem wipe_wipe (σ : L2.St) (vs : List Nat) : wipe (wipe σ vs) vs = wipe σ vs := by
  have q : ∀ us : List Nat, (∀ j, j ∈ us → j ∈ vs) → wipe (wipe σ us) vs = wipe σ vs := fun us => by
    induction us with
    | nil => exact fun _ => rfl
    | cons u us ih =>
      intro h
      simp only [wipe]
      rw [wipe_set (h u (List.mem_cons_self ..))]
      exact ih fun j hj => h j (List.mem_cons_of_mem _ hj)
  exact q vs fun _ h => h
def wipeN (env : Nv) : List Nat → Nv
  | [] => env
  | v :: vs => (wipeN env vs).set v none
def gvN (j : Nat) : D → Nv → Option Nv := fun d env => some (env.set j (some d))
def gvNil : List D → Nv → Option Nv := fun ds env => match ds with
  | [] => some env
  | _ => none
def gvCons (t : D → Nv → Option Nv) (r : List D → Nv → Option Nv) : List D → Nv → Option Nv := fun ds env => match ds with
  | d :: ds => (t d env).bind (r ds)
  | [] => none
def gvTup (n : Nat) (r : List D → Nv → Option Nv) : D → Nv → Option Nv := fun d env => match d with
  | .tup ds => if ds.length = n then r ds env else none
  | _ => none
section
variable {Γ : Gm} {g : TG} {gs : TGs} {t : D → Nv → Option Nv} {r : List D → Nv → Option Nv} {js ks : List Nat}
theorem EnvOk.wipe {W : Wd} {env : Nv} {σ : L2.St} (h : EnvOk Γ W env σ) : ∀ vs : List Nat, EnvOk Γ W (wipeN env vs) (L2.wipe σ vs)
  | [] => h
  | v :: vs => by
    have ih := EnvOk.wipe h vs
    simp only [wipeN, L2.wipe]
    refine ⟨by simp [ih.len], fun i d e => ?_⟩
    rcases set_get e with ⟨_, q, _⟩ | ⟨ne, e⟩
    · cases q
    · rw [List.getElem?_set_ne ne.symm]; exact ih.at_ i d e
theorem sim_gvName {j : Nat} : SimGv Γ (gName j) (gvN j) [j] := fun W S env σ d v Q I N rv env' e k => by
  cases e
  exact k _ (N.set rv j) fun vs hv => wipe_set (hv j (List.mem_cons_self ..))
theorem sim_gvNil : SimGvs Γ gNil gvNil [] := fun W S env σ ds vs Q I N rv env' e k => by
  cases ds with
  | nil => cases e; exact ⟨rv.inv0, k σ N fun _ _ => rfl⟩
  | cons d ds => cases e
theorem sim_gvCons (h : SimGv Γ g t js) (hs : SimGvs Γ gs r ks) : SimGvs Γ (gCons g gs) (gvCons t r) (js ++ ks) := fun W S env σ ds vs Q I N rv env' e k => by
  cases ds with
  | nil => cases e
  | cons d ds =>
    obtain ⟨v, q, rfl, r1, r2⟩ := rv.inv
    obtain ⟨en1, e1, e2⟩ := Option.bind_eq_some_iff.mp e
    exact ⟨v, q, rfl, h W S env σ d v _ I N r1 en1 e1 fun σ1 N1 w1 => hs W S en1 σ1 ds q Q I N1 r2 env' e2 fun σ2 N2 w2 => k σ2 N2 fun vs hv =>
      (w2 vs fun j hj => hv j (List.mem_append_right _ hj)).trans (w1 vs fun j hj => hv j (List.mem_append_left _ hj))⟩
theorem sim_gvTup {n : Nat} (hs : SimGvs Γ gs r ks) : SimGv Γ (gTup Γ.K n gs) (gvTup n r) ks := fun W S env σ d v Q I N rv env' e k => by
  cases d with
  | tup ds =>
    have e : (if ds.length = n then r ds env else none) = some env' := e
    split at e
    · rename_i hl
      simp only [Rp] at rv
      obtain ⟨a, vs, rfl, ht, rl⟩ := rv
      exact ⟨a, vs, rfl, I.tup ht, rl.length.trans hl, hs W S env σ ds vs Q I N rl env' e k⟩
    · cases e
  | _ => cases e
end
/-! ### comprehensions -/
def compM (tg : D → Nv → Option Nv) (t : Nv → M Bool) (e : Nv → M D) (env : Nv) : List D → M (List D)
  | [] => M.ret []
  | d :: ds => M.bnd (M.opt (tg d env)) fun env' => M.bnd (t env') fun b => if b = true then M.bnd (e env') fun y => M.bnd (compM tg t e env ds) fun ys => M.ret (y :: ys) else compM tg t e env ds
def mLc (mi : Nv → M (List D)) (tg : D → Nv → Option Nv) (t : Nv → M Bool) (e : Nv → M D) (vs : List Nat) : Nv → M D := fun env => M.bnd (mi env) fun ds => M.bnd (small ds.length) fun _ => M.bnd (M.calm (compM tg t e (wipeN env vs) ds)) fun ys => M.ret (.lst ys)
def mYes : Nv → M Bool := fun _ => M.ret true
section
variable {Γ : Gm} {E : EK} {W W0 W1 W2 : Wd} {S : Sto} {p : Addr} {α β : Type}
theorem ResG.bndA {E : XK} {m : M α} {f : α → M β} {k : β → Sto → Wd → Prop} (h : ResG Γ E W1 (M.bnd m f S) k) (s : Stp W1 W2) : ResG Γ E W2 (m S) fun a S' _ => ResG Γ E W1 (f a S') k := by
  unfold M.bnd at h
  cases q : m S with
  | ok a S' => rw [q] at h; exact fun W' _ _ => h
  | exc c fs S' => rw [q] at h; exact ResG.mono h s
  | stuck => rw [q] at h; exact h
/-- one's own list is written -/
def Wd.put (W : Wd) (p : Addr) (u : HO) : Wd := ⟨W.ρ, W.F, upd W.H p u⟩
theorem Ok.put {u : HO} (I : Ok Γ W S) (hF : W.F p = none) (hr : p ∉ W.ρ) : Ok Γ (W.put p u) S := by
  refine ⟨fun a o h => ?_, I.fk, I.len, I.nd, I.rf, fun n a o h1 h2 => ?_⟩
  · show upd W.H p u a = some o
    have h' : W.F a = some o := h
    rw [upd_ne (fun e => by subst e; rw [hF] at h'; cases h')]; exact I.fh a o h'
  · have ha : a ∈ W.ρ := List.mem_iff_getElem?.mpr ⟨n, h1⟩
    refine (I.so n a o h1 h2).gro (Gro.refl _ _).tup ?_
    show upd W.H p u a = W.H a
    exact upd_ne fun e => hr (by rw [← e]; exact ha)
theorem Bas.put {u : HO} (b : Bas W0 W) (h0 : W0.H p = none) : Bas W0 (W.put p u) := ⟨b.new, b.rho, fun a o e n => by
  show upd W.H p u a = some o
  rw [upd_ne (fun z => by subst z; rw [h0] at e; cases e)]; exact b.keep a o e n, fun a e => by
  have e : upd W.H p u a = none := e
  by_cases z : a = p
  · subst z; rw [upd_same] at e; cases e
  · rw [upd_ne z] at e; exact b.dom a e⟩
theorem Stp.put {u : HO} (b : Stp W0 W) (h0 : W0.H p = none) : Stp W0 (W.put p u) := ⟨⟨b.g⟩, b.toBas.put h0⟩
theorem sim_lc {wi : TI} {g : TG} {tt : TT} {te : TE} {vs js : List Nat} {mi : Nv → M (List D)} {tg : D → Nv → Option Nv} {mt : Nv → M Bool} {me : Nv → M D} (hi : SimI Γ E wi mi) (hg : SimGv Γ g tg js) (hjs : ∀ j, j ∈ js → j ∈ vs)
    (ht : SimT Γ (fun _ => E0) tt mt) (he : SimE Γ (fun _ => E0) te me) : SimO Γ E (tLc wi g tt te vs) (mLc mi tg mt me vs) := fun σ W S env Q I N h => by
  refine hi σ W S env _ I N (h.bnd.imp fun ds S1 W1 s1 I1 h1 J hJ D hD => ?_)
  have hW : W.H D = none := s1.dom D hD
  have N1 := N.mono s1.toAft
  obtain ⟨hsz, h1⟩ := h1.small
  -- the comprehension's result, anchored at W1
  have h2 : ResG Γ E0 W1 (compM tg mt me (wipeN env vs) ds S1) fun ys S' _ => ResG Γ (E σ) W1 (M.ret (.lst ys) S') (Ko Γ W Q) := by
    unfold M.bnd at h1
    cases q : M.calm (compM tg mt me (wipeN env vs) ds) S1 with
    | ok ys S' =>
      rw [q] at h1
      have q2 : compM tg mt me (wipeN env vs) ds S1 = .ok ys S' := by
        unfold M.calm at q
        cases z : compM tg mt me (wipeN env vs) ds S1 with
        | ok a b => rw [z] at q; exact q
        | exc a b c => rw [z] at q; cases q
        | stuck => rw [z] at q; cases q
      rw [q2]
      exact fun _ _ _ => h1
    | exc c fs S' =>
      unfold M.calm at q
      cases z : compM tg mt me (wipeN env vs) ds S1 with
      | ok a b => rw [z] at q; cases q
      | exc a b c => rw [z] at q; cases q
      | stuck => rw [z] at q; cases q
    | stuck => rw [q] at h1; exact h1.elim
  refine ⟨fun i m H => m = ds.length - i ∧ i ≤ ds.length ∧ ∃ Wi Si acc, Wi.H = H ∧ Stp W1 Wi ∧ Ok Γ Wi Si ∧ OwnAt Γ Wi D (.lst acc) ∧ acc.length ≤ i ∧
    ResG Γ E0 W1 (compM tg mt me (wipeN env vs) (ds.drop i) Si) fun ys S' _ => ResG Γ (E σ) W1 (M.ret (.lst (acc ++ ys)) S') (Ko Γ W Q), ⟨ds.length, by simp, Nat.zero_le _, W1.lay D (.lst []), S1, [], rfl, .lay hD, I1.lay hD, ⟨I1.fnone hD, fun z => I1.rhoH z hD, [], upd_same, .nil⟩, Nat.le_refl _, by simpa using h2⟩, ?_⟩
  rintro i m H ⟨rfl, hi', Wi, Si, acc, rfl, si, Ii, Di, la, ri⟩
  obtain ⟨y1, y2⟩ := hJ Wi Si si.toAft Ii i
  by_cases hl : i < ds.length
  · right
    have hd : ds[i]? = some ds[i] := by simp [hl]
    have dr : ds.drop i = ds[i] :: ds.drop (i + 1) := List.drop_eq_getElem_cons hl
    rw [dr] at ri
    obtain ⟨go, yl⟩ := y2 _ hd
    refine ⟨go, fun H' => ∃ m', m' < ds.length - i ∧ (m' = ds.length - (i + 1) ∧ i + 1 ≤ ds.length ∧ ∃ Wi Si acc, Wi.H = H' ∧ Stp W1 Wi ∧ Ok Γ Wi Si ∧ OwnAt Γ Wi D (.lst acc) ∧ acc.length ≤ i + 1 ∧
      ResG Γ E0 W1 (compM tg mt me (wipeN env vs) (ds.drop (i + 1)) Si) fun ys S' _ => ResG Γ (E σ) W1 (M.ret (.lst (acc ++ ys)) S') (Ko Γ W Q)), fun H' z => z, fun x H' hx => ?_⟩
    obtain ⟨W2, rfl, s2, I2, rx⟩ := yl x H' hx
    have st2 := si.trans s2
    simp only [compM] at ri
    cases htg : tg ds[i] (wipeN env vs) with
    | none => rw [htg] at ri; exact ri.elim
    | some env' =>
      rw [htg] at ri
      simp only [M.opt_some, M.ret_bnd] at ri
      refine hg W2 Si (wipeN env vs) (wipe σ vs) ds[i] x _ I2 ((N1.mono st2.toAft).wipe vs) rx env' htg fun σ2 N2 w2 => ⟨?_, ?_⟩
      · rw [w2 vs hjs, wipe_wipe]
      · refine ht σ2 W2 Si env' _ I2 N2 ((ri.bndA st2).imp fun b S3 W3 s3 I3 r3 => ?_)
        have st3 := st2.trans s3
        cases b with
        | true =>
          rw [if_pos rfl] at r3 ⊢
          refine he σ2 W3 S3 env' _ I3 (N2.mono s3.toAft) ((r3.bndA st3).imp fun y S4 W4 s4 I4 r4 v rv => ?_)
          have st4 := st3.trans s4
          have D4 := ((Di.mono s2).mono s3).mono s4
          obtain ⟨av, e4, ra⟩ := D4.v
          have r5 : ResG Γ E0 W1 (compM tg mt me (wipeN env vs) (ds.drop (i + 1)) S4) fun ys S' _ => ResG Γ (E σ) W1 (M.ret (.lst ((acc ++ [y]) ++ ys)) S') (Ko Γ W Q) := by
            have q := r4.bndA (.refl W1)
            refine q.imp fun ys S' W' s' I' r' => ?_
            have q2 : ResG Γ (E σ) W1 (M.ret (.lst (acc ++ y :: ys)) S') (Ko Γ W Q) := r' W' s' I'
            rw [List.append_assoc]
            exact q2
          have hacc : acc.length < sizeLine := Nat.lt_of_lt_of_le (Nat.lt_of_le_of_lt la hl) hsz
          refine ⟨av, e4, by rw [ra.length]; exact hacc, ds.length - (i + 1), by omega, rfl, hl, W4.put D (.lst (av ++ [v])), S4, acc ++ [y], rfl, st4.put hD, I4.put D4.f D4.r, ⟨D4.f, D4.r, av ++ [v], upd_same, ra.append (.cons rv .nil)⟩, by simp; omega, r5⟩
        | false =>
          rw [if_neg Bool.false_ne_true] at r3 ⊢
          exact ⟨ds.length - (i + 1), by omega, rfl, hl, W3, S3, acc, rfl, st3, I3, (Di.mono s2).mono s3, Nat.le_succ_of_le la, r3⟩
  · left
    have e : i = ds.length := by omega
    refine ⟨y1 e, ?_⟩
    have dr : ds.drop i = [] := by rw [e]; simp
    rw [dr] at ri
    simp only [compM] at ri
    have q : ResG Γ (E σ) W1 (M.ret (.lst (acc ++ [])) Si) (Ko Γ W Q) := ri Wi si Ii
    rw [List.append_nil] at q
    exact q Wi si Ii D Di hW
end
end Fw

namespace Fw
open PySem PySem.Spec PyProof.Rows L2

/-! ### loops -/
def loopM (tg : D → En → Option En) (mb : En → M Fl) : List D → En → M Fl
  | [], en => M.ret (.nx en)
  | d :: ds, en => M.bnd (M.opt (tg d en)) fun en1 => M.bnd (mb en1) fun f => match f with
    | .nx e => loopM tg mb ds e
    | .ct e => loopM tg mb ds e
    | .bk e => M.ret (.nx e)
    | .rt d => M.ret (.rt d)
    | .ro d => M.ret (.ro d)
def sFor (mi : Nv → M (List D)) (tg : D → En → Option En) (mb : En → M Fl) : En → M Fl := fun en => M.bnd (mi (view false en)) fun ds => loopM tg mb ds en
def whileM (mt : Nv → M Bool) (mb : En → M Fl) : Nat → En → M Fl
  | 0, _ => M.stk
  | n + 1, en => M.bnd (mt (view true en)) fun c => if c = true then M.bnd (mb en) fun f => match f with
    | .nx e => whileM mt mb n e
    | .ct e => whileM mt mb n e
    | .bk e => M.ret (.nx e)
    | .rt d => M.ret (.rt d)
    | .ro d => M.ret (.ro d) else M.ret (.nx en)
def killL (is : List Nat) (en : En) : En := is.foldl (fun e i => e.set i .no) en
def Fl.kill (is : List Nat) : Fl → Fl
  | .nx e => .nx (killL is e)
  | .bk e => .bk (killL is e)
  | .ct e => .ct (killL is e)
  | f => f
/-- behind a statement some slots are forgotten -/
def sEnd (is : List Nat) (m : En → M Fl) : En → M Fl := fun en => M.bnd (m en) fun f => M.ret (f.kill is)
section
variable {Γ : Gm} {E : XK} {W0 W W1 : Wd} {S : Sto} {en : En} {σ : L2.St} {D : Ends}
theorem EnOk.killL (N : EnOk Γ W0 W en σ) : ∀ is : List Nat, EnOk Γ W0 W (Fw.killL is en) σ := fun is => by
  induction is generalizing en with
  | nil => exact N
  | cons i is ih => exact ih (N.kill i)
theorem sim_end {t : TS} {m : En → M Fl} (is : List Nat) (h : SimS Γ E t m) : SimS Γ E t (sEnd is m) := fun σ W0 W S en D I b0 N r => by
  refine h σ W0 W S en D I b0 N ?_
  unfold sEnd M.bnd at r
  cases e : m en S with
  | ok f S' =>
    rw [e] at r
    cases f with
    | nx e' => exact fun W' σ' a b I' N' => r W' σ' a b I' (N'.killL is)
    | bk e' => exact fun W' σ' a b I' N' => r W' σ' a b I' (N'.killL is)
    | ct e' => exact fun W' σ' a b I' N' => r W' σ' a b I' (N'.killL is)
    | rt d => exact r
    | ro d => exact r
  | exc c fs S' => rw [e] at r; exact r
  | stuck => rw [e] at r; exact r
theorem sim_for {wi : TI} {g : TG} {tb : TS} {mi : Nv → M (List Fw.D)} {tg : Fw.D → En → Option En} {mb : En → M Fl} (hi : SimI Γ (fun _ => E) wi mi) (hg : SimG Γ g tg) (hb : SimS Γ E tb mb) : SimS Γ E (tFor wi g tb) (sFor mi tg mb) := fun σ W0 W S en D I b0 N r => by
  refine hi σ W S (view false en) _ I N.env ((r.expr b0).imp fun ds S1 W1 s1 I1 r1 J hJ => ?_)
  refine ⟨fun i m σ H => m = ds.length - i ∧ i ≤ ds.length ∧ ∃ Wi Si ei, Wi.H = H ∧ Aft W1 Wi ∧ Bas W0 Wi ∧ Ok Γ Wi Si ∧ EnOk Γ W0 Wi ei σ ∧ ResS Γ E W0 Wi (loopM tg mb (ds.drop i) ei Si) D,
    ⟨ds.length, by simp, Nat.zero_le _, W1, S1, en, rfl, .refl W1, b0.tr s1.toBas, I1, N.stp s1, by simpa using r1⟩, ?_⟩
  rintro i m σi H ⟨rfl, hi', Wi, Si, ei, rfl, ai, bi, Ii, Ni, ri⟩
  obtain ⟨y1, y2⟩ := hJ Wi Si ai Ii i
  by_cases hl : i < ds.length
  · right
    have hd : ds[i]? = some ds[i] := by simp [hl]
    have dr : ds.drop i = ds[i] :: ds.drop (i + 1) := List.drop_eq_getElem_cons hl
    rw [dr] at ri
    obtain ⟨go, yl⟩ := y2 _ hd
    refine ⟨go, fun σ' H' => ∃ Wi Si ei, Wi.H = H' ∧ Aft W1 Wi ∧ Bas W0 Wi ∧ Ok Γ Wi Si ∧ EnOk Γ W0 Wi ei σ' ∧ ResS Γ E W0 Wi (loopM tg mb (ds.drop (i + 1)) ei Si) D, fun σ' H' z => ⟨ds.length - (i + 1), by omega, rfl, hl, z⟩, fun x H' hx => ?_⟩
    obtain ⟨W2, rfl, s2, I2, rx⟩ := yl x H' hx
    simp only [loopM] at ri
    cases htg : tg ds[i] ei with
    | none => rw [htg] at ri; exact ri.elim
    | some e2 =>
      rw [htg] at ri
      simp only [M.opt_some, M.ret_bnd] at ri
      refine hg W0 W2 Si ei σi ds[i] x _ I2 (Ni.stp s2) rx e2 htg fun σ2 N2 => ?_
      refine hb σ2 W0 W2 Si e2 _ I2 (bi.tr s2.toBas) N2 ?_
      have ri := ResS.mono ri s2.toAft
      have a2 := ai.trans s2.toAft
      unfold M.bnd at ri
      cases e : mb e2 Si with
      | ok f S' =>
        rw [e] at ri
        cases f with
        | nx e' => exact fun W' σ' a b I' N' => ⟨W', S', e', rfl, a2.trans a, b, I', N', ResS.mono ri a⟩
        | ct e' => exact fun W' σ' a b I' N' => ⟨W', S', e', rfl, a2.trans a, b, I', N', ResS.mono ri a⟩
        | bk e' => exact ri
        | rt d => exact ri
        | ro d => exact ri
      | exc c fs S' => rw [e] at ri; exact ri
      | stuck => rw [e] at ri; exact ri
  · left
    have e : i = ds.length := by omega
    refine ⟨y1 e, ?_⟩
    have dr : ds.drop i = [] := by rw [e]; simp
    rw [dr] at ri
    exact ri Wi σi (.refl Wi) bi Ii Ni
theorem sim_while {c : TT} {tb : TS} {mt : Nv → M Bool} {mb : En → M Fl} (n : Nat) (hc : SimT Γ (fun _ => E) c mt) (hb : SimS Γ E tb mb) : SimS Γ E (tWhile c tb) (whileM mt mb n) := fun σ W0 W S en D I b0 N r => by
  refine ⟨fun m σ H => ∃ Wi Si ei, Wi.H = H ∧ Bas W0 Wi ∧ Aft W Wi ∧ Ok Γ Wi Si ∧ EnOk Γ W0 Wi ei σ ∧ ResS Γ E W0 Wi (whileM mt mb m ei Si) D, ⟨n, W, S, en, rfl, b0, .refl W, I, N, r⟩, ?_⟩
  rintro m σi H ⟨Wi, Si, ei, rfl, bi, ai, Ii, Ni, ri⟩
  cases m with
  | zero => exact ri.elim
  | succ m =>
    simp only [whileM] at ri
    refine hc σi (Wi.lend ei σi) Si (view true ei) _ (Ni.lendOk Ii) Ni.envB ?_
    rw [M.bnd_app (mt (view true ei))] at ri
    cases e : mt (view true ei) Si with
    | ok b S1 =>
      rw [e] at ri
      intro W1 s I1
      have st := Ni.backStp s
      have Ib := Ni.backOk Ii s I1
      have Nb := Ni.stp st
      cases b with
      | true =>
        have ri := ResS.mono (r := M.bnd (mb ei) (fun f => match f with
          | .nx e => whileM mt mb m e
          | .ct e => whileM mt mb m e
          | .bk e => M.ret (.nx e)
          | .rt d => M.ret (.rt d)
          | .ro d => M.ret (.ro d)) S1) ri st.toAft
        rw [if_pos rfl]
        refine ⟨fun σ' H' => ∃ Wi Si ei, Wi.H = H' ∧ Bas W0 Wi ∧ Aft W Wi ∧ Ok Γ Wi Si ∧ EnOk Γ W0 Wi ei σ' ∧ ResS Γ E W0 Wi (whileM mt mb m ei Si) D, fun σ' H' z => ⟨m, Nat.lt_succ_self m, z⟩, ?_⟩
        refine hb σi W0 (W1.back ei σi) S1 ei _ Ib (bi.tr st.toBas) Nb ?_
        rw [M.bnd_app] at ri
        cases e2 : mb ei S1 with
        | ok f S' =>
          rw [e2] at ri
          cases f with
          | nx e' => exact fun W' σ' a b I' N' => ⟨W', S', e', rfl, b, (ai.trans st.toAft).trans a, I', N', ResS.mono ri a⟩
          | ct e' => exact fun W' σ' a b I' N' => ⟨W', S', e', rfl, b, (ai.trans st.toAft).trans a, I', N', ResS.mono ri a⟩
          | bk e' => exact ri
          | rt d => exact ri
          | ro d => exact ri
        | exc c fs S' => rw [e2] at ri; exact ri
        | stuck => rw [e2] at ri; exact ri
      | false =>
        have ri := ResS.mono (r := M.ret (.nx ei) S1) ri st.toAft
        rw [if_neg Bool.false_ne_true]
        exact ri (W1.back ei σi) σi (.refl _) (bi.tr st.toBas) Ib Nb
    | exc c fs S' =>
      rw [e] at ri
      refine ⟨ri.1, fun W1 C dx vs s I1 h1 h2 h3 => ?_⟩
      have sb := Ni.backStp s
      exact ri.2 (W1.back ei σi) C dx vs sb.toAft (bi.tr sb.toBas) (Ni.backOk Ii s I1) h1 h2 (RpF.monoT (Ni.backTup Ii s) _ _ ri.1 h3)
    | stuck => rw [e] at ri; exact ri
/-- a, b, c = e -/
def sUnp (f : En → M Sl) (tg : Fw.D → En → Option En) : En → M Fl := fun en => M.bnd (f en) fun s => match s with
  | .va d => M.bnd (M.opt (tg d en)) fun en1 => M.ret (.nx en1)
  | _ => M.stk
theorem sim_unp {te : TE} {g : TG} {f : En → M Sl} {tg : Fw.D → En → Option En} (h : SimM Γ E te f) (hg : SimG Γ g tg) : SimS Γ E (tAsg te g) (sUnp f tg) := fun σ W0 W S en D I b0 N r =>
  h σ W0 W S en _ I N ((r.expr b0).imp fun s S' W' st I' r' v sv => by
    cases s with
    | va d =>
      have r' : ResS Γ E W0 W' (M.bnd (M.opt (tg d en)) (fun en1 => M.ret (.nx en1)) S') D := r'
      cases e : tg d en with
      | none => rw [e] at r'; exact r'.elim
      | some e2 =>
        rw [e] at r'
        exact hg W0 W' S' en σ d v _ I' (N.stp st) sv e2 e fun σ' N' => r' W' σ' (.refl W') (b0.tr st.toBas) I' N'
    | _ => exact r'.elim)
/-- x op= e of values -/
def sAug (i : Nat) (op : Fw.D → Fw.D → M Fw.D) (me : Nv → M Fw.D) : En → M Fl := fun en => match en[i]? with
  | some (.va x) => M.bnd (me (view true en)) fun y => M.bnd (M.ass (y.imm)) fun _ => M.bnd (op x y) fun z => M.ret (.nx (en.set i (.va z)))
  | _ => M.stk
end
section
variable {X : Cx} {E : XK} {c e iter tg : Expr} {body : List Stmt} {te : TE} {wi : TI} {g : TG} {tb : TS} {t : TT} {mi : Nv → M (List D)} {ug : D → En → Option En} {mb : En → M Fl} {mt : Nv → M Bool} {f : En → M Sl} {pos : Pos} {st : Stmt} {ts : TS} {m : En → M Fl} {sts : List Stmt}
theorem js_end (is : List Nat) (h : JS X E st ts m) : JS X E st ts (sEnd is m) := ⟨h.ps, sim_end is h.sim⟩
theorem jss_end (is : List Nat) (h : JSs X E sts ts m) : JSs X E sts ts (sEnd is m) := ⟨h.ps, sim_end is h.sim⟩
theorem js_for (hp : PassesOwn (model X.prog X.w) X.A X.env X.xe) (hi : JI X (fun _ => E) tg iter wi mi) (hg : JG X tg g ug) (hb : JSs X E body tb mb) (hc : X.calm = true := by rfl) (hx : ∀ v, foldedSetIterable iter X.env v = pure v := by intro _; rfl) : JS X E (.For tg iter body [] pos) (tFor wi g tb) (sFor mi ug mb) :=
  ⟨ps_for hp hc hi.pi hg.pg hb.ps (hs := hx), sim_for hi.sim hg.sim hb.sim⟩
theorem js_while {n : Nat} (hp : PassesOwn (model X.prog X.w) X.A X.env X.xe) (hc : JT X (fun _ => E) c t mt) (hb : JSs X E body tb mb) : JS X E (.While c body [] pos) (tWhile t tb) (whileM mt mb n) := ⟨ps_while hp hc.pt hb.ps, sim_while n hc.sim hb.sim⟩
theorem js_unp (he : JM X E e te f) (hg : JG X tg g ug) (hs : swapsWithSole [tg] e pos.line X.env = pure false := by rfl) (hw : swappedStores [tg] e X.env = pure none := by rfl) (h1 : (assignEach [tg] X.env).map (·.2) = [assign tg X.env] := by rfl) : JS X E (.Assign [tg] e pos) (tAsg te g) (sUnp f ug) := ⟨ps_asg he.pe hg.pg hs hw (h1 := h1), sim_unp he.sim hg.sim⟩
end
/-! ### list comprehensions -/
structure JGv (X : Cx) (tg : Expr) (g : TG) (t : D → Nv → Option Nv) (js : List Nat) : Prop where
  pg : PG X tg g
  sim : SimGv (gm X) g t js
structure JGvs (X : Cx) (es : List Expr) (g : TGs) (t : List D → Nv → Option Nv) (js : List Nat) : Prop where
  pg : PGs X es g
  sim : SimGvs (gm X) g t js
structure JTs (X : Cx) (E : EK) (ifs : List Expr) (t : TT) (m : Nv → M Bool) : Prop where
  pt : PTs X ifs t
  sim : SimT (gm X) E t m
section
variable {X : Cx} {e c : Expr} {es : List Expr} {g : TG} {gs : TGs} {t : D → Nv → Option Nv} {r : List D → Nv → Option Nv} {pos : Pos} {n k : Nat} {js ks : List Nat} {E : EK} {tt : TT} {mt : Nv → M Bool}
theorem jv_name {i : Nat} {x : Str} (hN : X.N.Nodup) (hi : X.N[i]? = some x := by rfl) (hx : Loc X.env.scope x := by first | exact Or.inl rfl | exact Or.inr rfl) (hf : X.fn x = true ∨ X.env.scope.names.lookup x = some .local := by first | exact .inl rfl | exact .inr rfl) : JGv X (.Name x pos) (gName i) (gvN i) [i] := ⟨pg_name hN hi hx hf, sim_gvName⟩
theorem jvs_nil : JGvs X [] gNil gvNil [] := ⟨pgs_nil, sim_gvNil⟩
theorem jvs_cons (h : JGv X e g t js) (hs : JGvs X es gs r ks) (hst : (assignEach (e :: es) X.env).map (·.2) = assign e X.env :: (assignEach es X.env).map (·.2) := by rfl) : JGvs X (e :: es) (gCons g gs) (gvCons t r) (js ++ ks) := ⟨pgs_cons h.pg hs.pg hst, sim_gvCons h.sim hs.sim⟩
theorem jv_tup {K : PySem.W.Frag} (h : JGvs X es gs r js) (hK : X.K = K := by rfl) (hc : X.calm = true := by rfl) (hn : (assignEach es X.env).length = n := by rfl) (hst : (assignEach es X.env).findIdx? (·.1) = none := by rfl) : JGv X (.Tuple es k pos) (gTup K n gs) (gvTup n r) js := by
  subst hK; exact ⟨pg_tup hc h.pg hn hst, sim_gvTup h.sim⟩
theorem jts_nil : JTs X E [] tYes mYes := ⟨pts_nil, fun σ W S env Q I N h => ResG.ret h I⟩
theorem jts_one (h : JT X E c tt mt) : JTs X E [c] tt mt := ⟨pts_one h.pt, h.sim⟩
end
abbrev bk0 (X : Cx) (s : Shared) (H : Hp) (scope : Scope) (cl : List (Str × Addr)) (C : Addr) (fp : List Addr) : Cx := X.blk s H scope (compEnvC scope cl C X.env) fp
section
variable {X : Cx} {E : EK} {elt tg iter : Expr} {ifs : List Expr} {scope : Scope} {own : List (Str × Nat)} {pos : Pos} {wi : TI} {g : TG} {tt : TT} {te : TE} {mi : Nv → M (List D)} {ug : D → Nv → Option Nv} {js : List Nat} {mt : Nv → M Bool} {me : Nv → M D}
/-- what a mirror asks, as a reading -/
def tM (Γ : Gm) (E : EK) (m : Nv → M D) : TE := fun σ H Q => ∃ W S env, W.H = H ∧ Ok Γ W S ∧ EnvOk Γ W env σ ∧ ResG Γ (E σ) W (m env S) (Kd Γ Q)
def tTM (Γ : Gm) (E : EK) (m : Nv → M Bool) : TT := fun σ H Q => ∃ W S env, W.H = H ∧ Ok Γ W S ∧ EnvOk Γ W env σ ∧ ResG Γ (E σ) W (m env S) (fun b _ W' => Q b W'.H)
theorem JE.can {e : Expr} {m : Nv → M D} (h : JE X E e te m) : PE X e (tM (gm X) E m) := ⟨fun pins s σ H Q I ⟨W, S, env, eH, Io, N, r⟩ => by
  subst eH; exact h.pe.run pins s σ _ Q I (h.sim σ W S env Q Io N r)⟩
theorem JTs.can {es : List Expr} {m : Nv → M Bool} (h : JTs X E es tt m) : PTs X es (tTM (gm X) E m) := ⟨fun pins s σ H Q I ⟨W, S, env, eH, Io, N, r⟩ => by
  subst eH; exact h.pt.run pins s σ _ Q I (h.sim σ W S env Q Io N r)⟩
theorem sim_tM {Γ : Gm} {m : Nv → M D} : SimE Γ E (tM Γ E m) m := fun σ W S env Q I N r => ⟨W, S, env, rfl, I, N, r⟩
theorem sim_tTM {Γ : Gm} {m : Nv → M Bool} : SimT Γ E (tTM Γ E m) m := fun σ W S env Q I N r => ⟨W, S, env, rfl, I, N, r⟩
/-- the parts of a list comprehension -/
structure LcP (X : Cx) (E : EK) (elt tg iter : Expr) (ifs : List Expr) (scope : Scope) (own : List (Str × Nat)) (wi : TI) (g : TG) (mi : Nv → M (List D)) (ug : D → Nv → Option Nv) (js : List Nat) (mt : Nv → M Bool) (me : Nv → M D) : Prop where
  hi : JI X E tg iter wi mi
  ok : BlkOk X.N X.env.scope scope own
  hg : ∀ (s : Shared) (H : Hp) (C : Addr) (cl : List (Str × Addr)) (fp : List Addr), JGv (bk0 X s H scope cl C fp) tg g ug js
  ht : ∀ (s : Shared) (H : Hp) (C : Addr) (cl : List (Str × Addr)) (fp : List Addr), ∃ tt, JTs (bk0 X s H scope cl C fp) (fun _ => E0) ifs tt mt
  he : ∀ (s : Shared) (H : Hp) (C : Addr) (cl : List (Str × Addr)) (fp : List Addr), ∃ te, JE (bk0 X s H scope cl C fp) (fun _ => E0) elt te me
  hj : ∀ j, j ∈ js → j ∈ own.map (·.2)
  hs : ∀ x, foldedSetIterable iter X.env x = pure x
def sh0 : Shared := {}
abbrev tLcM (X : Cx) (wi : TI) (g : TG) (mt : Nv → M Bool) (me : Nv → M D) (vs : List Nat) : TE := tLc wi g (tTM (gm X) (fun _ => E0) mt) (tM (gm X) (fun _ => E0) me) vs
theorem LcP.pt (h : LcP X E elt tg iter ifs scope own wi g mi ug js mt me) (s : Shared) (H : Hp) (C : Addr) (cl : List (Str × Addr)) (fp : List Addr) : PTs (bk0 X s H scope cl C fp) ifs (tTM (gm X) (fun _ => E0) mt) := by
  obtain ⟨t, j⟩ := h.ht s H C cl fp
  exact j.can
theorem LcP.pe (h : LcP X E elt tg iter ifs scope own wi g mi ug js mt me) (s : Shared) (H : Hp) (C : Addr) (cl : List (Str × Addr)) (fp : List Addr) : PE (bk0 X s H scope cl C fp) elt (tM (gm X) (fun _ => E0) me) := by
  obtain ⟨t, j⟩ := h.he s H C cl fp
  exact j.can
theorem LcP.sim (h : LcP X E elt tg iter ifs scope own wi g mi ug js mt me) : SimO (gm X) E (tLcM X wi g mt me (own.map (·.2))) (mLc mi ug mt me (own.map (·.2))) :=
  sim_lc h.hi.sim (h.hg sh0 (fun _ => none) 0 [] []).sim h.hj sim_tTM sim_tM
theorem LcP.jo (h : LcP X E elt tg iter ifs scope own wi g mi ug js mt me) (hN : X.N.Nodup) (hc : X.calm = true := by rfl) : JO X E (.ListComp elt [⟨tg, iter, ifs, 0⟩] scope pos) (tLcM X wi g mt me (own.map (·.2))) (mLc mi ug mt me (own.map (·.2))) :=
  ⟨pe_lc hc hN h.hi.pi h.ok (fun s H C cl fp => (h.hg s H C cl fp).pg) h.pt h.pe h.hs, h.sim⟩
end
section
variable {X : Cx} {E : XK} {elt tg iter : Expr} {ifs : List Expr} {scope : Scope} {own : List (Str × Nat)} {pos py spos : Pos} {wi : TI} {g : TG} {tt : TT} {te : TE} {mi : Nv → M (List D)} {ug : D → Nv → Option Nv} {js : List Nat} {mt : Nv → M Bool} {me : Nv → M D} {i : Nat} {y : Str}
/-- y = [..], the statement of its own -/
theorem js_setLc {o : Bool} (h : LcP X (fun _ => E) elt tg iter ifs scope own wi g mi ug js mt me) (hN : X.N.Nodup) (hsw : swapsWith (.ListComp elt [⟨tg, iter, ifs, 0⟩] scope pos) (some (.Name y py)) spos.line X.env = pure true)
    (hy : X.N[i]? = some y := by rfl) (hyl : X.env.scope.names.lookup y = some .local := by rfl) (hc : X.calm = true := by rfl) : JS X E (.Assign [.Name y py] (.ListComp elt [⟨tg, iter, ifs, 0⟩] scope pos) spos) (tFzS (tAsg (tLcM X wi g mt me (own.map (·.2))) (gName i)))
      (sAsg i (if o = true then sO (mLc mi ug mt me (own.map (·.2))) else sF (mLc mi ug mt me (own.map (·.2))))) := by
  have p := ps_setLc (i := i) hc hN hy hyl hsw h.hi.pi h.ok (fun s H C cl fp => (h.hg s H C cl fp).pg) h.pt h.pe h.hs
  refine ⟨ps_fz p, fun σ W0 W S en D I b0 N r => .here ?_⟩
  cases o with
  | true => exact sim_asg (sim_sO h.sim) σ W0 W S en _ I b0 N (by
      revert r
      rw [if_pos rfl]
      cases sAsg i (sO (mLc mi ug mt me (own.map (·.2)))) en S with
      | ok f S' =>
        intro r
        cases f with
        | nx e' => exact fun W' σ' a b I' N' => .here (r W' σ' a b I' N')
        | bk e' => exact fun W' σ' a b I' N' => .here (r W' σ' a b I' N')
        | ct e' => exact fun W' σ' a b I' N' => .here (r W' σ' a b I' N')
        | rt x => exact fun W' v a b I' R => .here (r W' v a b I' R)
        | ro x => exact fun W' v a b I' R z => .here (r W' v a b I' R z)
      | exc c fs S' => exact fun r => r
      | stuck => exact fun r => r)
  | false =>
    rw [if_neg Bool.false_ne_true] at r
    exact sim_asg (te := tFz (tLcM X wi g mt me (own.map (·.2)))) (sim_sF h.sim) σ W0 W S en D I b0 N r
end
end Fw

namespace Fw
open PySem PySem.Spec PyProof.Rows L2

theorem CallR.or {X : Cx} {f : Value} {r r' : List V → Hp → VK → Prop} (h : CallR X f r) (h' : CallR X f r') : CallR X f (fun xs H Q => r xs H Q ∨ r' xs H Q) := by
  intro pins s σ H xs us Q I rx q
  rcases q with q | q
  · exact h pins s σ H xs us Q I rx q
  · exact h' pins s σ H xs us Q I rx q
def CallSimO (Γ : Gm) (r : List V → Hp → VK → Prop) (op : List D → M D) : Prop := ∀ (E : XK) W0 W S xs dxs Q, Stp W0 W → Ok Γ W S → RpL Γ.K W.ρ W.F dxs xs → ResG Γ E W (op dxs S) (Ko Γ W0 Q) → r xs W.H Q
section
variable {X : Cx} {E : EK} {Γ : Gm} {e : Expr} {es : List Expr} {t : TA} {m : Nv → M (List D)} {x : Str} {p pos : Pos} {id : String} {r : List V → Hp → VK → Prop} {op : List D → M D}
theorem sim_cb (h : CallSim Γ r op) (ha : SimA Γ E t m) : SimE Γ E (tCB r t) (mCall op m) := fun σ W S env Q I N q =>
  ha σ W S env _ I N (q.bnd.imp fun ds S' W' s I' q' vs rs => h _ W' S' vs ds Q I' rs q')
theorem sim_cbO (h : CallSimO Γ r op) (ha : SimA Γ E t m) : SimO Γ E (tCB r t) (mCall op m) := fun σ W S env Q I N q =>
  ha σ W S env _ I N (q.bnd.imp fun ds S' W' s I' q' vs rs => h _ W W' S' vs ds Q s I' rs q')
theorem je_cb (hc : CallR X (.builtin id) r) (hs : CallSim (gm X) r op) (hv : bootBuiltins x = some (.builtin id)) (hm : X.mg x = none) (ha : JAl X E (e :: es) t m) (hg : Gl X x := by rfl) (hn : x ≠ "__name__" := by decide) (hdb : (x == ("__debug__" : Str)) = false := by decide)
    (he : starEach (e :: es) X.env = (false, eval e X.env) :: starEach es X.env := by rfl) (hpl : (backTo pos (starEach es X.env)).any (·.1) = false := by rfl) : JE X E (.Call (.Name x p) (e :: es) [] pos) (tCB r t) (mCall op m) := ⟨pe_callB hc hg hm hv ha.pa hn hdb he hpl, sim_cb hs ha.sim⟩
theorem jo_cb (hc : CallR X (.builtin id) r) (hs : CallSimO (gm X) r op) (hv : bootBuiltins x = some (.builtin id)) (hm : X.mg x = none) (ha : JAl X E (e :: es) t m) (hg : Gl X x := by rfl) (hn : x ≠ "__name__" := by decide) (hdb : (x == ("__debug__" : Str)) = false := by decide)
    (he : starEach (e :: es) X.env = (false, eval e X.env) :: starEach es X.env := by rfl) (hpl : (backTo pos (starEach es X.env)).any (·.1) = false := by rfl) : JO X E (.Call (.Name x p) (e :: es) [] pos) (tCB r t) (mCall op m) := ⟨pe_callB hc hg hm hv ha.pa hn hdb he hpl, sim_cbO hs ha.sim⟩
theorem je_ct (hc : CallR X (.type id) r) (hs : CallSim (gm X) r op) (hv : bootBuiltins x = some (.type id)) (hm : X.mg x = none) (ha : JAl X E (e :: es) t m) (hg : Gl X x := by rfl) (hn : x ≠ "__name__" := by decide) (hdb : (x == ("__debug__" : Str)) = false := by decide)
    (he : starEach (e :: es) X.env = (false, eval e X.env) :: starEach es X.env := by rfl) (hpl : (backTo pos (starEach es X.env)).any (·.1) = false := by rfl) : JE X E (.Call (.Name x p) (e :: es) [] pos) (tCB r t) (mCall op m) := ⟨pe_callTy hc hg hm hv ha.pa hn hdb he hpl, sim_cb hs ha.sim⟩
theorem jo_ct (hc : CallR X (.type id) r) (hs : CallSimO (gm X) r op) (hv : bootBuiltins x = some (.type id)) (hm : X.mg x = none) (ha : JAl X E (e :: es) t m) (hg : Gl X x := by rfl) (hn : x ≠ "__name__" := by decide) (hdb : (x == ("__debug__" : Str)) = false := by decide)
    (he : starEach (e :: es) X.env = (false, eval e X.env) :: starEach es X.env := by rfl) (hpl : (backTo pos (starEach es X.env)).any (·.1) = false := by rfl) : JO X E (.Call (.Name x p) (e :: es) [] pos) (tCB r t) (mCall op m) := ⟨pe_callTy hc hg hm hv ha.pa hn hdb he hpl, sim_cbO hs ha.sim⟩
end
theorem RpL.one {K : PySem.W.Frag} {ρ : List Addr} {F : Hp} {d : D} {vs : List V} (h : RpL K ρ F [d] vs) : ∃ v, vs = [v] ∧ Rp K ρ F d v := by
  obtain ⟨v, r, rfl, h1, h2⟩ := h.inv
  obtain rfl := h2.inv0
  exact ⟨v, rfl, h1⟩
theorem RpL.two {K : PySem.W.Frag} {ρ : List Addr} {F : Hp} {d e : D} {vs : List V} (h : RpL K ρ F [d, e] vs) : ∃ v u, vs = [v, u] ∧ Rp K ρ F d v ∧ Rp K ρ F e u := by
  obtain ⟨v, r, rfl, h1, h2⟩ := h.inv
  obtain ⟨u, rfl, h3⟩ := h2.one
  exact ⟨v, u, rfl, h1, h3⟩
/-! ### len -/
open M in
def bLen : List D → M D
  | [.lst ds] => ret (.int (ds.length : Int))
  | [.tup ds] => ret (.int (ds.length : Int))
  | [.scr ns] => ret (.int (ns.length : Int))
  | [.dic ks] => ret (.int (ks.length : Int))
  | [.bdic ks] => ret (.int (ks.length : Int))
  | [.str z] => bnd (small z.length) fun _ => ret (.int (z.length : Int))
  | _ => stk
def rLenAny (K : PySem.W.Frag) : List V → Hp → VK → Prop := fun xs H Q => (∃ x n, xs = [x] ∧ LenV K x H n ∧ Q (.int n) H) ∨ ∃ a kvs, xs = [V.ref a] ∧ Rd H a (.dK kvs) ∧ Q (.int (kvs.length : Int)) H
theorem call_lenDR {X : Cx} : CallR X (.builtin "len") (fun xs H Q => ∃ a kvs, xs = [V.ref a] ∧ Rd H a (.dK kvs) ∧ Q (.int (kvs.length : Int)) H) := by
  intro pins s σ H xs us Q I r h
  obtain ⟨a, kvs, rfl, hd, q⟩ := h
  rw [Vals.ref1 r]
  obtain ⟨z, lo, vs, rel, dd⟩ := dk_rd I.hok hd
  have hl : kvs.length = vs.length := rel.length
  have hn := line63
  have hz : sizeLine = 16777216 := sizeLine_eq
  refine call_len_dict lo dd (by omega) ?_
  rw [hl] at q
  exact ⟨.int _, H, I.tok _, ⟨_, rfl⟩, q⟩
theorem cr_lenAny {X : Cx} : CallR X (.builtin "len") (rLenAny X.K) := CallR.or call_len call_lenDR
section
variable {Γ : Gm}
theorem sim_len : CallSim Γ (rLenAny Γ.K) bLen := by
  intro E W S xs ds Q I r h
  unfold bLen at h
  match ds, h, r with
  | [.lst ds], h, r =>
    obtain ⟨v, rfl, rv⟩ := r.one
    simp only [Rp] at rv
    obtain ⟨a, vs, rfl, hF, rl⟩ := rv
    refine .inl ⟨_, vs.length, rfl, .inl ⟨vs, I.lst hF, rfl⟩, ?_⟩
    rw [rl.length]; exact ResG.ret h I _ rp_int
  | [.tup ds], h, r =>
    obtain ⟨v, rfl, rv⟩ := r.one
    simp only [Rp] at rv
    obtain ⟨a, vs, rfl, hF, rl⟩ := rv
    refine .inl ⟨_, vs.length, rfl, .inr ⟨vs, I.tup hF, rfl⟩, ?_⟩
    rw [rl.length]; exact ResG.ret h I _ rp_int
  | [.scr ns], h, r =>
    obtain ⟨v, rfl, rv⟩ := r.one
    simp only [Rp] at rv
    obtain ⟨a, o, rfl, hF⟩ := rv
    refine .inl ⟨_, _, rfl, .inl ⟨_, I.scr hF, rfl⟩, ?_⟩
    rw [List.length_map]; exact ResG.ret h I _ rp_int
  | [.dic ks], h, r =>
    obtain ⟨v, rfl, rv⟩ := r.one
    simp only [Rp] at rv
    obtain ⟨a, vs, od, rfl, hF, rl⟩ := rv
    refine .inr ⟨a, vs, rfl, I.dic hF, ?_⟩
    rw [rl.length]; exact ResG.ret h I _ rp_int
  | [.bdic ks], h, r =>
    obtain ⟨v, rfl, rv⟩ := r.one
    simp only [Rp] at rv
    obtain ⟨a, vs, rfl, hF, rl⟩ := rv
    refine .inr ⟨a, vs, rfl, I.bdic hF, ?_⟩
    rw [rl.length]; exact ResG.ret h I _ rp_int
  | [.str z], h, r =>
    obtain ⟨v, rfl, rv⟩ := r.one
    simp only [Rp] at rv
    subst rv
    obtain ⟨hl, h⟩ := ResG.small h
    exact .inl ⟨_, z.length, rfl, ⟨hl, rfl⟩, ResG.ret h I _ rp_int⟩
end
/-! ### abs, int -/
open M in
def bAbs : List D → M D
  | [.int i] => ret (.int (if i < 0 then -i else i))
  | _ => stk
open M in
def bInt : List D → M D
  | [.int i] => ret (.int i)
  | [.bl k] => ret (.int (if k then 1 else 0))
  | _ => stk
def rAbs : List V → Hp → VK → Prop := fun xs H Q => ∃ i, xs = [.int i] ∧ Q (.int (if i < 0 then -i else i)) H
def rInt1 : List V → Hp → VK → Prop := fun xs H Q => (∃ i, xs = [.int i] ∧ Q (.int i) H) ∨ ∃ k, xs = [.bl k] ∧ Q (.int (if k then 1 else 0)) H
theorem cr_abs {X : Cx} : CallR X (.builtin "abs") rAbs := call_abs
theorem cr_int1 {X : Cx} : CallR X (.type "int") rInt1 := call_int1
section
variable {Γ : Gm}
theorem sim_abs : CallSim Γ rAbs bAbs := by
  intro E W S xs ds Q I r h
  unfold bAbs at h
  match ds, h, r with
  | [.int i], h, r =>
    obtain ⟨v, rfl, rv⟩ := r.one
    simp only [Rp] at rv
    subst rv
    exact ⟨i, rfl, ResG.ret h I _ rp_int⟩
theorem sim_int1 : CallSim Γ rInt1 bInt := by
  intro E W S xs ds Q I r h
  unfold bInt at h
  match ds, h, r with
  | [.int i], h, r =>
    obtain ⟨v, rfl, rv⟩ := r.one
    simp only [Rp] at rv
    subst rv
    exact .inl ⟨i, rfl, ResG.ret h I _ rp_int⟩
  | [.bl k], h, r =>
    obtain ⟨v, rfl, rv⟩ := r.one
    simp only [Rp] at rv
    subst rv
    exact .inr ⟨k, rfl, ResG.ret h I _ rp_int⟩
end
/-! ### lists of ints, of truth values -/
def intsD : List D → Option (List Int)
  | [] => some []
  | .int i :: r => (intsD r).map (i :: ·)
  | _ :: _ => none
def blsD : List D → Option (List Bool)
  | [] => some []
  | .bl i :: r => (blsD r).map (i :: ·)
  | _ :: _ => none
theorem intsD_eq : ∀ {ds : List D} {ns : List Int}, intsD ds = some ns → ds = ns.map .int
  | [], ns, h => by simp only [intsD] at h; cases h; rfl
  | .int i :: r, ns, h => by
    simp only [intsD] at h
    obtain ⟨ms, e, rfl⟩ := Option.map_eq_some_iff.mp h
    rw [intsD_eq e]; rfl
theorem blsD_eq : ∀ {ds : List D} {ns : List Bool}, blsD ds = some ns → ds = ns.map .bl
  | [], ns, h => by simp only [blsD] at h; cases h; rfl
  | .bl i :: r, ns, h => by
    simp only [blsD] at h
    obtain ⟨ms, e, rfl⟩ := Option.map_eq_some_iff.mp h
    rw [blsD_eq e]; rfl
theorem rpL_intsI {K : PySem.W.Frag} {ρ : List Addr} {F : Hp} : ∀ {ns : List Int} {vs : List V}, RpL K ρ F (ns.map .int) vs → vs = ns.map V.int
  | [], vs, h => h.inv0
  | n :: ns, vs, h => by
    obtain ⟨v, r, rfl, h1, h2⟩ := RpL.inv h
    simp only [Rp] at h1
    rw [h1, rpL_intsI h2]; rfl
theorem rpL_blsI {K : PySem.W.Frag} {ρ : List Addr} {F : Hp} : ∀ {ns : List Bool} {vs : List V}, RpL K ρ F (ns.map .bl) vs → vs = ns.map V.bl
  | [], vs, h => h.inv0
  | n :: ns, vs, h => by
    obtain ⟨v, r, rfl, h1, h2⟩ := RpL.inv h
    simp only [Rp] at h1
    rw [h1, rpL_blsI h2]; rfl
open M in
def bSum : List D → M D
  | [.lst ds] => bnd (opt (intsD ds)) fun ns => ret (.int ns.sum)
  | _ => stk
open M in
def bAny : List D → M D
  | [.lst ds] => bnd (opt (blsD ds)) fun bs => ret (.bl (bs.any id))
  | _ => stk
open M in
def bAll : List D → M D
  | [.lst ds] => bnd (opt (blsD ds)) fun bs => ret (.bl (bs.all id))
  | _ => stk
def maxL : List Int → Int
  | [] => 0
  | [a] => a
  | a :: b :: r => let m := maxL (b :: r); if a < m then m else a
theorem maxL_spec : ∀ {l : List Int}, l ≠ [] → maxL l ∈ l ∧ ∀ y, y ∈ l → y ≤ maxL l
  | [], h => absurd rfl h
  | [a], _ => by simp [maxL]
  | a :: b :: r, _ => by
    obtain ⟨h1, h2⟩ := maxL_spec (l := b :: r) (by simp)
    simp only [maxL]
    refine ⟨?_, fun y hy => ?_⟩
    · split
      · exact List.mem_cons_of_mem _ h1
      · exact List.mem_cons_self ..
    · rcases List.mem_cons.mp hy with rfl | hy
      · split <;> omega
      · have := h2 y hy
        split <;> omega
open M in
def bMax : List D → M D
  | [.lst ds] => bnd (opt (intsD ds)) fun ns => bnd (ass (decide (0 < ns.length))) fun _ => ret (.int (maxL ns))
  | [.int i, .int j] => ret (.int (if j > i then j else i))
  | _ => stk
section
variable {Γ : Gm}
theorem sim_sum : CallSim Γ (rSum Γ.K) bSum := by
  intro E W S xs ds Q I r h
  unfold bSum at h
  match ds, h, r with
  | [.lst ds], h, r =>
    obtain ⟨ns, e, g⟩ := ResG.opt h
    obtain rfl := intsD_eq e
    obtain ⟨v, rfl, rv⟩ := r.one
    simp only [Rp] at rv
    obtain ⟨a, vs, rfl, hF, rl⟩ := rv
    obtain rfl := rpL_intsI rl
    exact ⟨a, ns, rfl, I.lst hF, ResG.ret g I _ rp_int⟩
theorem sim_any : CallSim Γ (rAny Γ.K) bAny := by
  intro E W S xs ds Q I r h
  unfold bAny at h
  match ds, h, r with
  | [.lst ds], h, r =>
    obtain ⟨ns, e, g⟩ := ResG.opt h
    obtain rfl := blsD_eq e
    obtain ⟨v, rfl, rv⟩ := r.one
    simp only [Rp] at rv
    obtain ⟨a, vs, rfl, hF, rl⟩ := rv
    obtain rfl := rpL_blsI rl
    exact ⟨a, ns, rfl, I.lst hF, ResG.ret g I _ rp_bl⟩
theorem sim_all : CallSim Γ (rAll Γ.K) bAll := by
  intro E W S xs ds Q I r h
  unfold bAll at h
  match ds, h, r with
  | [.lst ds], h, r =>
    obtain ⟨ns, e, g⟩ := ResG.opt h
    obtain rfl := blsD_eq e
    obtain ⟨v, rfl, rv⟩ := r.one
    simp only [Rp] at rv
    obtain ⟨a, vs, rfl, hF, rl⟩ := rv
    obtain rfl := rpL_blsI rl
    exact ⟨a, ns, rfl, I.lst hF, ResG.ret g I _ rp_bl⟩
def rMax2 : List V → Hp → VK → Prop := fun xs H Q => ∃ i j, xs = [.int i, .int j] ∧ Q (.int (if j > i then j else i)) H
abbrev rMaxA (K : PySem.W.Frag) : List V → Hp → VK → Prop := fun xs H Q => rMax K xs H Q ∨ rMax2 xs H Q
theorem cr_maxA {X : Cx} (hc : X.calm = true) : CallR X (.builtin "max") (rMaxA X.K) := CallR.or (cr_max hc) (call_max2 hc)
theorem sim_max : CallSim Γ (rMaxA Γ.K) bMax := by
  intro E W S xs ds Q I r h
  unfold bMax at h
  match ds, h, r with
  | [.lst ds], h, r =>
    obtain ⟨ns, e, g⟩ := ResG.opt h
    obtain ⟨hl, g⟩ := ResG.ass g
    have hl := of_decide_eq_true hl
    obtain rfl := intsD_eq e
    obtain ⟨v, rfl, rv⟩ := r.one
    simp only [Rp] at rv
    obtain ⟨a, vs, rfl, hF, rl⟩ := rv
    obtain rfl := rpL_intsI rl
    refine .inl ⟨a, ns, rfl, I.lst hF, hl, fun m hm hy => ?_⟩
    obtain ⟨g1, g2⟩ := maxL_spec (l := ns) (by intro z; rw [z] at hl; exact absurd hl (by decide))
    have e : m = maxL ns := Int.le_antisymm (g2 m hm) (hy _ g1)
    rw [e]; exact ResG.ret g I _ rp_int
  | [.int i, .int j], h, r =>
    obtain ⟨v, u, rfl, r1, r2⟩ := r.two
    simp only [Rp] at r1 r2
    subst r1 r2
    exact .inr ⟨i, j, rfl, ResG.ret h I _ rp_int⟩
/-! ### tuple, list -/
end
open M in
def bTuple : List D → M D
  | [.lst ds] => ret (.tup ds)
  | [.tup ds] => ret (.tup ds)
  | [.scr ns] => ret (.tup (ns.map .int))
  | _ => stk
def rTupOf (K : PySem.W.Frag) : List V → Hp → VK → Prop := fun xs H Q => ∃ p ys, xs = [.ref p] ∧ ((SqL K H p ys ∧ ∀ l, H l = none → Q (.ref l) (upd H l (.tup ys))) ∨ (SqT K H p ys ∧ Q (.ref p) H))
theorem cr_tupOf {X : Cx} : CallR X (.type "tuple") (rTupOf X.K) := call_tuple_of
open M in
def bList : List D → M D
  | [.lst ds] => ret (.lst ds)
  | [.tup ds] => ret (.lst ds)
  | [.scr ns] => ret (.lst (ns.map .int))
  | [.dic ks] => ret (.lst (ks.map fun p => kD p.1))
  | [.bdic ks] => ret (.lst (ks.map fun p => kD p.1))
  | _ => stk
def rListOf (K : PySem.W.Frag) : List V → Hp → VK → Prop := fun xs H Q => (∃ p ys, xs = [.ref p] ∧ (SqL K H p ys ∨ SqT K H p ys) ∧ ∀ l, H l = none → Q (.ref l) (upd H l (.lst ys))) ∨
  ∃ (a : Addr) (kvs : List (Key × V)), xs = [.ref a] ∧ Rd H a (.dK kvs) ∧ ∀ p, H p = none → Q (.ref p) (upd H p (.lst (kvs.map fun kv => kV kv.1)))
theorem cr_listOf {X : Cx} (hc : X.calm = true) : CallR X (.type "list") (rListOf X.K) := CallR.or call_list_of (call_listD hc)
section
variable {Γ : Gm}
theorem sim_tuple : CallSim Γ (rTupOf Γ.K) bTuple := by
  intro E W S xs ds Q I r h
  unfold bTuple at h
  match ds, h, r with
  | [.lst ds], h, r =>
    obtain ⟨v, rfl, rv⟩ := r.one
    simp only [Rp] at rv
    obtain ⟨a, vs, rfl, hF, rl⟩ := rv
    exact ⟨a, vs, rfl, .inl ⟨I.lst hF, fun p hp => new_tup I rl h p hp⟩⟩
  | [.tup ds], h, r =>
    obtain ⟨v, rfl, rv⟩ := r.one
    have rv0 := rv
    simp only [Rp] at rv
    obtain ⟨a, vs, rfl, hF, rl⟩ := rv
    exact ⟨a, vs, rfl, .inr ⟨I.tup hF, ResG.ret h I _ rv0⟩⟩
  | [.scr ns], h, r =>
    obtain ⟨v, rfl, rv⟩ := r.one
    simp only [Rp] at rv
    obtain ⟨a, o, rfl, hF⟩ := rv
    exact ⟨a, _, rfl, .inl ⟨I.scr hF, fun p hp => new_tup I (rpL_ints ns) h p hp⟩⟩
theorem sim_list : CallSimO Γ (rListOf Γ.K) bList := by
  intro E W0 W S xs ds Q s I r h
  unfold bList at h
  match ds, h, r with
  | [.lst ds], h, r =>
    obtain ⟨v, rfl, rv⟩ := r.one
    simp only [Rp] at rv
    obtain ⟨a, vs, rfl, hF, rl⟩ := rv
    exact .inl ⟨a, vs, rfl, .inl (I.lst hF), fun p hp => lay_lst I rl h s p hp⟩
  | [.tup ds], h, r =>
    obtain ⟨v, rfl, rv⟩ := r.one
    simp only [Rp] at rv
    obtain ⟨a, vs, rfl, hF, rl⟩ := rv
    exact .inl ⟨a, vs, rfl, .inr (I.tup hF), fun p hp => lay_lst I rl h s p hp⟩
  | [.scr ns], h, r =>
    obtain ⟨v, rfl, rv⟩ := r.one
    simp only [Rp] at rv
    obtain ⟨a, o, rfl, hF⟩ := rv
    exact .inl ⟨a, _, rfl, .inl (I.scr hF), fun p hp => lay_lst I (rpL_ints ns) h s p hp⟩
  | [.dic ks], h, r =>
    obtain ⟨v, rfl, rv⟩ := r.one
    simp only [Rp] at rv
    obtain ⟨a, vs, od, rfl, hF, rl⟩ := rv
    exact .inr ⟨a, vs, rfl, I.dic hF, fun p hp => lay_lst I (rpL_keys rl) h s p hp⟩
  | [.bdic ks], h, r =>
    obtain ⟨v, rfl, rv⟩ := r.one
    simp only [Rp] at rv
    obtain ⟨a, vs, rfl, hF, rl⟩ := rv
    exact .inr ⟨a, vs, rfl, I.bdic hF, fun p hp => lay_lst I (rpL_keys rl) h s p hp⟩
end
open M in
def bDict : List D → M D
  | [.dic ks] => ret (.dic ks)
  | [.bdic ks] => ret (.dic ks)
  | _ => stk
def rDictOf : List V → Hp → VK → Prop := fun xs H Q => ∃ (a : Addr) (kvs : List (Key × V)), xs = [.ref a] ∧ Rd H a (.dK kvs) ∧ ∀ p, H p = none → Q (.ref p) (upd H p (.dK kvs))
theorem cr_dictOf {X : Cx} : CallR X (.type "dict") rDictOf := call_dictD
theorem sim_dict {Γ : Gm} : CallSimO Γ rDictOf bDict := by
  intro E W0 W S xs ds Q s I r h
  unfold bDict at h
  match ds, h, r with
  | [.dic ks], h, r =>
    obtain ⟨v, rfl, rv⟩ := r.one
    simp only [Rp] at rv
    obtain ⟨a, vs, od, rfl, hF, rl⟩ := rv
    exact ⟨a, vs, rfl, I.dic hF, fun p hp => lay_dic I rl h s p hp⟩
  | [.bdic ks], h, r =>
    obtain ⟨v, rfl, rv⟩ := r.one
    simp only [Rp] at rv
    obtain ⟨a, vs, rfl, hF, rl⟩ := rv
    exact ⟨a, vs, rfl, I.bdic hF, fun p hp => lay_dic I rl h s p hp⟩
end Fw

namespace Fw
open PySem PySem.Spec PyProof.Rows L2

/-! ### sorted -/
def insL {α : Type} (le : α → α → Bool) (a : α) : List α → List α
  | [] => [a]
  | b :: r => if le a b = true then a :: b :: r else b :: insL le a r
def srt {α : Type} (le : α → α → Bool) : List α → List α
  | [] => []
  | a :: r => insL le a (srt le r)
structure Tot {α : Type} (le : α → α → Bool) : Prop where
  tot : ∀ a b, le a b = true ∨ le b a = true
  tr : ∀ a b c, le a b = true → le b c = true → le a c = true
  anti : ∀ a b, le a b = true → le b a = true → a = b
section
variable {α : Type} {le : α → α → Bool}
theorem insL_perm (a : α) : ∀ l : List α, (insL le a l).Perm (a :: l)
  | [] => .refl _
  | b :: r => by
    simp only [insL]
    split
    · exact .refl _
    · exact ((insL_perm a r).cons b).trans (List.Perm.swap a b r)
theorem srt_perm : ∀ l : List α, (srt le l).Perm l
  | [] => .refl _
  | a :: r => (insL_perm a _).trans ((srt_perm r).cons a)
theorem insL_pw (T : Tot le) (a : α) : ∀ l : List α, l.Pairwise (fun x y => le x y = true) → (insL le a l).Pairwise (fun x y => le x y = true)
  | [], _ => List.pairwise_singleton _ _
  | b :: r, h => by
    simp only [insL]
    obtain ⟨h1, h2⟩ := List.pairwise_cons.mp h
    by_cases e : le a b = true
    · rw [if_pos e]
      refine List.pairwise_cons.mpr ⟨fun y hy => ?_, h⟩
      rcases List.mem_cons.mp hy with rfl | hy
      · exact e
      · exact T.tr _ _ _ e (h1 y hy)
    · rw [if_neg e]
      refine List.pairwise_cons.mpr ⟨fun y hy => ?_, insL_pw T a r h2⟩
      rcases List.mem_cons.mp ((insL_perm a r).mem_iff.mp hy) with rfl | hy
      · exact (T.tot y b).resolve_left e
      · exact h1 y hy
theorem srt_pw (T : Tot le) : ∀ l : List α, (srt le l).Pairwise (fun x y => le x y = true)
  | [] => .nil
  | a :: r => insL_pw T a _ (srt_pw T r)
theorem srt_uniq (T : Tot le) : ∀ {l m : List α}, l.Perm m → l.Pairwise (fun x y => le x y = true) → m.Pairwise (fun x y => le x y = true) → l = m
  | [], m, p, _, _ => (List.Perm.nil_eq p)
  | a :: l, m, p, h1, h2 => by
    cases m with
    | nil => exact absurd p.length_eq (by simp)
    | cons b m =>
      obtain ⟨a1, a2⟩ := List.pairwise_cons.mp h1
      obtain ⟨b1, b2⟩ := List.pairwise_cons.mp h2
      have e : a = b := by
        have ha : a ∈ b :: m := p.mem_iff.mp (List.mem_cons_self ..)
        have hb : b ∈ a :: l := p.mem_iff.mpr (List.mem_cons_self ..)
        rcases List.mem_cons.mp ha with e | ha
        · exact e
        · rcases List.mem_cons.mp hb with e | hb
          · exact e.symm
          · exact T.anti _ _ (a1 b hb) (b1 a ha)
      subst e
      rw [srt_uniq T (p.cons_inv) a2 b2]
end
def leI (a b : Int) : Bool := decide (a ≤ b)
def leP (p q : Int × Int) : Bool := decide (p.1 < q.1) || (decide (p.1 = q.1) && decide (p.2 ≤ q.2))
theorem leI_tot : Tot leI := ⟨fun a b => by simp only [leI, decide_eq_true_eq]; omega, fun a b c => by simp only [leI, decide_eq_true_eq]; omega, fun a b => by simp only [leI, decide_eq_true_eq]; omega⟩
theorem leP_iff {p q : Int × Int} : leP p q = true ↔ p.1 < q.1 ∨ (p.1 = q.1 ∧ p.2 ≤ q.2) := by
  simp only [leP, Bool.or_eq_true, Bool.and_eq_true, decide_eq_true_eq]
theorem leP_tot : Tot leP := ⟨fun a b => by simp only [leP_iff]; omega, fun a b c => by simp only [leP_iff]; omega, fun a b => by
  simp only [leP_iff]; intro h1 h2
  exact Prod.ext (by omega) (by omega)⟩
def pD (p : Int × Int) : D := .tup [.int p.1, .int p.2]
def prsD : List D → Option (List (Int × Int))
  | [] => some []
  | .tup [.int a, .int b] :: r => (prsD r).map ((a, b) :: ·)
  | _ :: _ => none
theorem prsD_eq : ∀ {ds : List D} {ns : List (Int × Int)}, prsD ds = some ns → ds = ns.map pD
  | [], ns, h => by simp only [prsD] at h; cases h; rfl
  | .tup [.int a, .int b] :: r, ns, h => by
    simp only [prsD] at h
    obtain ⟨ms, e, rfl⟩ := Option.map_eq_some_iff.mp h
    rw [prsD_eq e]; rfl
open M in
def bSorted : List D → M D
  | [.lst ds] => match intsD ds with
    | some ns => ret (.lst ((srt leI ns).map .int))
    | none => match prsD ds with
      | some ps => ret (.lst ((srt leP ps).map pD))
      | none => stk
  | _ => stk
abbrev rSortedA (K : PySem.W.Frag) : List V → Hp → VK → Prop := fun xs H Q => rSortedI K xs H Q ∨ rSortedPO K xs H Q
theorem cr_sortedA {X : Cx} : CallR X (.builtin "sorted") (rSortedA X.K) := CallR.or cr_sortedI cr_sortedPO
section
variable {Γ : Gm}
/-- the pair at a value -/
def pairAt (H : Hp) : V → Int × Int
  | .ref t => match H t with
    | some (.tup [.int a, .int b]) => (a, b)
    | _ => (0, 0)
  | _ => (0, 0)
theorem rpL_prs {W : Wd} {S : Sto} (I : Ok Γ W S) : ∀ {ps : List (Int × Int)} {vs : List V}, RpL Γ.K W.ρ W.F (ps.map pD) vs → vs.map (pairAt W.H) = ps ∧ ∀ v, v ∈ vs → ∃ t, v = .ref t ∧ W.F t = some (.tup [.int (pairAt W.H v).1, .int (pairAt W.H v).2])
  | [], vs, h => by obtain rfl := h.inv0; exact ⟨rfl, fun v hv => by cases hv⟩
  | p :: ps, vs, h => by
    obtain ⟨v, r, rfl, h1, h2⟩ := RpL.inv h
    simp only [pD, Rp] at h1
    obtain ⟨t, us, rfl, hF, ru⟩ := h1
    obtain ⟨x, y, rfl, r1, r2⟩ := ru.two
    simp only [Rp] at r1 r2
    subst r1 r2
    have e : pairAt W.H (.ref t) = p := by
      simp only [pairAt]
      rw [I.fh _ _ hF]
    obtain ⟨e2, h3⟩ := rpL_prs I h2
    refine ⟨by rw [List.map_cons, e, e2], fun u hu => ?_⟩
    rcases List.mem_cons.mp hu with rfl | hu
    · exact ⟨t, rfl, by rw [e]; exact hF⟩
    · exact h3 u hu
theorem rpL_of_prs {K : PySem.W.Frag} {ρ : List Addr} {F : Hp} {k : V → Int × Int} : ∀ {vs : List V}, (∀ v, v ∈ vs → ∃ t, v = .ref t ∧ F t = some (.tup [.int (k v).1, .int (k v).2])) → RpL K ρ F ((vs.map k).map pD) vs
  | [], _ => .nil
  | v :: vs, h => by
    obtain ⟨t, rfl, hF⟩ := h v (List.mem_cons_self ..)
    refine .cons ?_ (rpL_of_prs fun u hu => h u (List.mem_cons_of_mem _ hu))
    simp only [pD, Rp]
    exact ⟨t, _, rfl, hF, .cons rp_int (.cons rp_int .nil)⟩
theorem sim_sorted : CallSimO Γ (rSortedA Γ.K) bSorted := by
  intro E W0 W S xs ds Q s I r h
  unfold bSorted at h
  match ds, h, r with
  | [.lst ds], h, r =>
    obtain ⟨v, rfl, rv⟩ := r.one
    simp only [Rp] at rv
    obtain ⟨a, vs, rfl, hF, rl⟩ := rv
    simp only [] at h
    cases e : intsD ds with
    | some ns =>
      rw [e] at h
      obtain rfl := intsD_eq e
      obtain rfl := rpL_intsI rl
      refine .inl ⟨a, ns, rfl, I.lst hF, fun ns' p pm pw hp => ?_⟩
      have e2 : ns' = srt leI ns := srt_uniq leI_tot (pm.trans (srt_perm ns).symm) (pw.imp fun h => by simpa [leI] using h) (srt_pw leI_tot ns)
      rw [e2]
      exact lay_lst I (rpL_ints _) h s p hp
    | none =>
      cases e2 : prsD ds with
      | none => rw [e, e2] at h; exact h.elim
      | some ps =>
        rw [e, e2] at h
        obtain rfl := prsD_eq e2
        obtain ⟨k1, k2⟩ := rpL_prs I rl
        refine .inr ⟨a, vs, pairAt W.H, rfl, I.lst hF, fun x hx => ?_, fun ys p hs hb hp => ?_⟩
        · obtain ⟨t, e3, hF3⟩ := k2 x hx
          exact ⟨t, e3, I.fh _ _ hF3⟩
        · have e4 : ys.map (pairAt W.H) = srt leP ps := by
            refine srt_uniq leP_tot ?_ ?_ (srt_pw leP_tot ps)
            · rw [← k1]
              exact (hb.perm.map _).trans (srt_perm _).symm
            · rw [List.pairwise_map]
              refine hs.imp fun {x y} h => ?_
              have q := SrtO.lexB_no.mp h
              rw [leP_iff]; omega
          have rr := rpL_of_prs (K := Γ.K) (ρ := W.ρ) (F := W.F) (k := pairAt W.H) (vs := ys) fun v hv => k2 v (hb.perm.mem_iff.mp hv)
          rw [e4] at rr
          exact lay_lst I rr h s p hp
end
/-! ### slices -/
open M in
def pInt : D → M Int
  | .int i => ret i
  | _ => stk
def mNone : Nv → M (Option Int) := fun _ => M.ret none
def mSome (m : Nv → M D) : Nv → M (Option Int) := fun env => M.bnd (m env) fun d => M.bnd (pInt d) fun i => M.ret (some i)
def SimP (Γ : Gm) (E : EK) (t : TO) (m : Nv → M (Option Int)) : Prop := ∀ σ W S env Q, Ok Γ W S → EnvOk Γ W env σ → ResG Γ (E σ) W (m env S) (fun o _ W' => Q o W'.H) → t σ W.H Q
structure JP (X : Cx) (E : EK) (e : Option Expr) (t : TO) (m : Nv → M (Option Int)) : Prop where
  po : PO X e t
  sim : SimP (gm X) E t m
def cutD (xs : List D) (lo hi : Option Int) : List D := (xs.drop (HT.sIx xs.length 0 lo)).take (HT.sIx xs.length xs.length hi - HT.sIx xs.length 0 lo)
open M in
def oCut (x : D) (lo hi : Option Int) : M D := match x with
  | .lst ds => ret (.lst (cutD ds lo hi))
  | .tup ds => ret (.tup (cutD ds lo hi))
  | .scr ns => ret (.lst (cutD (ns.map .int) lo hi))
  | .str z => bnd (small z.length) fun _ => ret (.str (cutS z lo hi))
  | _ => stk
def mCut (e : Nv → M D) (l h : Nv → M (Option Int)) : Nv → M D := fun env => M.bnd (e env) fun x => M.bnd (l env) fun lo => M.bnd (h env) fun hi => oCut x lo hi
abbrev rCutV (K : PySem.W.Frag) : V → Option Int → Option Int → Hp → VK → Prop := fun x lo hi H Q => rSlL K x lo hi H Q ∨ (rSlA K x lo hi H Q ∨ rSlS x lo hi H Q)
theorem sl_any {X : Cx} : SlR X (rCutV X.K) := SlR.or sl_list (SlR.or sl_tupA sl_str)
theorem cut_rp {K : PySem.W.Frag} {ρ : List Addr} {F : Hp} {ds : List D} {vs : List V} (r : RpL K ρ F ds vs) (lo hi : Option Int) : RpL K ρ F (cutD ds lo hi) (cutV vs lo hi) := by
  unfold cutD cutV
  rw [r.length]
  exact (r.drop _).take _
section
variable {X : Cx} {E : EK} {Γ : Gm} {e : Expr} {te : TE} {me : Nv → M D} {tl th : TO} {ml mh : Nv → M (Option Int)} {lo hi : Option Expr} {pos p2 : Pos}
theorem jp_none : JP X E none tNoPart mNone := ⟨po_none, fun σ W S env Q I N h => ResG.ret h I⟩
theorem jp_some (h : JE X E e te me) : JP X E (some e) (tPart te) (mSome me) := ⟨po_some h.pe, fun σ W S env Q I N r => h.sim σ W S env _ I N (r.bnd.imp fun d S' W' s I' r' v rv => by
  cases d with
  | int i => simp only [Rp] at rv; exact ⟨i, rv, ResG.ret r' I'⟩
  | _ => exact r'.elim)⟩
/-- a slice as a value; of a list: a new one -/
theorem sim_cut (se : SimE Γ E te me) (sl : SimP Γ E tl ml) (sh : SimP Γ E th mh) : SimE Γ E (tFz (tSl (rCutV Γ.K) te tl th)) (mCut me ml mh) := fun σ W S env Q I N h =>
  se σ W S env _ I N (h.bnd.imp fun x S1 W1 s1 I1 h1 v rv => sl σ W1 S1 env _ I1 (N.mono s1.toAft) (h1.bnd.imp fun lo S2 W2 s2 I2 h2 => sh σ W2 S2 env _ I2 (N.mono (s1.trans s2).toAft) (h2.bnd.imp fun hi S3 W3 s3 I3 h3 => by
    have rv := Rp.mono s3.g _ _ (Rp.mono s2.g _ _ rv)
    unfold oCut at h3
    match x, h3, rv with
    | .lst ds, h3, rv =>
      simp only [Rp] at rv
      obtain ⟨a, vs, rfl, hF, rl⟩ := rv
      exact .inl ⟨a, vs, rfl, I3.lst hF, fun p hp => .here (new_lst I3 (cut_rp rl _ _) h3 p hp)⟩
    | .scr ns, h3, rv =>
      simp only [Rp] at rv
      obtain ⟨a, o, rfl, hF⟩ := rv
      exact .inl ⟨a, _, rfl, I3.scr hF, fun p hp => .here (new_lst I3 (cut_rp (rpL_ints ns) _ _) h3 p hp)⟩
    | .tup ds, h3, rv =>
      have rv0 := rv
      simp only [Rp] at rv
      obtain ⟨a, vs, rfl, hF, rl⟩ := rv
      refine .inr (.inl ⟨a, vs, rfl, I3.tup hF, fun hw => .here ?_, fun _ p hp => .here (new_tup I3 (cut_rp rl _ _) h3 p hp)⟩)
      have e : cutD ds lo hi = ds := by
        unfold cutD
        rw [rl.length] at hw
        rw [hw.1, hw.2]; simp
      have h4 : ResG Γ (E σ) W3 (M.ret (.tup (cutD ds lo hi)) S3) (Kd Γ Q) := h3
      rw [e] at h4
      exact ResG.ret h4 I3 _ rv0
    | .str z, h3, rv =>
      simp only [Rp] at rv; subst rv
      obtain ⟨hl, h3⟩ := ResG.small h3
      exact .inr (.inr ⟨z, rfl, hl, .here (ResG.ret h3 I3 _ rp_str)⟩))))
theorem je_cut (h : JE X E e te me) (hl : JP X E lo tl ml) (hh : JP X E hi th mh) : JE X E (.Subscript e (.Slice lo hi none p2) pos) (tFz (tSl (rCutV X.K) te tl th)) (mCut me ml mh) := ⟨pe_fz (pe_slice sl_any h.pe hl.po hh.po), sim_cut h.sim hl.sim hh.sim⟩
end
open M in
def oRev : D → M D
  | .lst ds => ret (.lst ds.reverse)
  | .scr ns => ret (.lst (ns.map .int).reverse)
  | _ => stk
section
variable {X : Cx} {E : EK} {Γ : Gm} {e : Expr} {te : TE} {me : Nv → M D} {k : Nat} {p1 p2 p3 pos : Pos}
theorem sim_rev (se : SimE Γ E te me) : SimO Γ E (tRevL Γ.K te) (mUn oRev me) := fun σ W S env Q I N h =>
  se σ W S env _ I N (h.bnd.imp fun x S1 W1 s1 I1 h1 v rv => by
    unfold oRev at h1
    match x, h1, rv with
    | .lst ds, h1, rv =>
      simp only [Rp] at rv
      obtain ⟨a, vs, rfl, hF, rl⟩ := rv
      exact ⟨a, vs, rfl, I1.lst hF, fun p hp => lay_lst I1 rl.reverse h1 s1 p hp⟩
    | .scr ns, h1, rv =>
      simp only [Rp] at rv
      obtain ⟨a, o, rfl, hF⟩ := rv
      exact ⟨a, _, rfl, I1.scr hF, fun p hp => lay_lst I1 (rpL_ints ns).reverse h1 s1 p hp⟩)
theorem jo_rev (h : JE X E e te me) : JO X E (.Subscript e (.Slice none none (some (.UnaryOp .USub (.Constant (.int 1) k p1) p2)) p3) pos) (tRevL X.K te) (mUn oRev me) := ⟨pe_revL h.pe, sim_rev h.sim⟩
theorem je_ix {b : Expr} {tb : TE} {mb : Nv → M D} (hu : X.A.units + 1 < cLine) (ha : JE X E e te me) (hb : JE X E b tb mb) (hs : PlainIx b := by exact fun _ _ => rfl) : JE X E (.Subscript e b pos) (tOp (rIxAny X.K) te tb) (mOp oIx me mb) := ⟨pe_ix (ix_any hu) ha.pe hb.pe hs, sim_op sim_ix ha.sim hb.sim⟩
/-! a is b on values -/
theorem je_isN {b : Expr} {tb : TE} {mb : Nv → M D} (ha : JE X E e te me) (hb : JE X E b tb mb) : JE X E (.Compare e [.Is] [b] pos) (tOp rIsN2 te tb) (mOp oIsN me mb) := je_cmp op_isN sim_isN ha hb
theorem je_notN {b : Expr} {tb : TE} {mb : Nv → M D} (ha : JE X E e te me) (hb : JE X E b tb mb) : JE X E (.Compare e [.IsNot] [b] pos) (tOp rNotN2 te tb) (mOp oNotN me mb) := je_cmp op_notN sim_notN ha hb
end
/-! ### repr -/
open M in
def bRepr : List D → M D
  | [d] => match d.py with
    | some p => bnd (ass (p.showable && decide (p.depth ≤ 64) && decide (p.shown.length ≤ sizeLine))) fun _ => ret (.str p.shown)
    | none => stk
  | _ => stk
def rRepr (K : PySem.W.Frag) : List V → Hp → VK → Prop := fun xs H Q => ∃ v d, xs = [v] ∧ Dp K H v d ∧ d.showable = true ∧ d.depth ≤ 64 ∧ d.shown.length ≤ sizeLine ∧ Q (.str d.shown) H
theorem sim_repr {Γ : Gm} : CallSim Γ (rRepr Γ.K) bRepr := by
  intro E W S xs ds Q I r h
  unfold bRepr at h
  match ds, h, r with
  | [d], h, r =>
    obtain ⟨v, rfl, rv⟩ := r.one
    simp only [] at h
    cases e : d.py with
    | none => rw [e] at h; exact h.elim
    | some p =>
      rw [e] at h
      obtain ⟨hc, h⟩ := ResG.ass h
      obtain ⟨c1, c2⟩ := Bool.and_eq_true_iff.mp hc
      obtain ⟨c0, c1⟩ := Bool.and_eq_true_iff.mp c1
      exact ⟨v, p, rfl, Rp.dp I _ _ _ rv e, c0, of_decide_eq_true c1, of_decide_eq_true c2, ResG.ret h I _ rp_str⟩
mutual
theorem dp_noDict {K : PySem.W.Frag} {H : Hp} : ∀ (d : PyData) (v : V), Dp K H v d → d.hasDict = false
  | .none, _, _ => by simp only [PyData.hasDict]
  | .bool _, _, _ => by simp only [PyData.hasDict]
  | .int _, _, _ => by simp only [PyData.hasDict]
  | .str _, _, _ => by simp only [PyData.hasDict]
  | .list ds, v, h => by
    simp only [PyData.hasDict]
    cases h with
    | lst _ ha => exact dp_noDictAll ds _ ha
  | .tuple ds, v, h => by
    simp only [PyData.hasDict]
    cases h with
    | tup _ ha => exact dp_noDictAll ds _ ha
  | .dict _, v, h => by cases h
theorem dp_noDictAll {K : PySem.W.Frag} {H : Hp} : ∀ (ds : List PyData) (vs : List V), DpAll K H vs ds → PyData.hasDictAll ds = false
  | [], _, _ => by simp only [PyData.hasDictAll]
  | d :: ds, vs, h => by
    cases h with
    | cons h1 h2 =>
      simp only [PyData.hasDictAll, dp_noDict d _ h1, dp_noDictAll ds _ h2, Bool.or_self]
end
theorem cr_repr {X : Cx} (hg : X.A.guards = some []) (hu : X.A.units + 100 < cLine) : CallR X (.builtin "repr") (rRepr X.K) := by
  intro pins s σ H xs us Q I r h
  obtain ⟨v, d, rfl, hd, hs, hdp, hsz, q⟩ := h
  obtain ⟨u, rfl, ru⟩ := vals1 r
  obtain ⟨as, rd⟩ := Dp.reads I d v u hd ru
  have fin : ∀ t', EP X pins σ Q (.str d.shown t') { s with toks := s.toks + 1 } := fun t' => ⟨.str _, H, I.tok _, ⟨_, rfl⟩, q⟩
  cases hd with
  | non => cases ru; exact P.repr_of_none (by simpa only [PyData.shown] using fin _)
  | bl b => cases ru; exact P.repr_of_bool (by simpa only [PyData.shown] using fin _)
  | int i =>
    obtain ⟨t, rfl⟩ := ru
    exact P.repr_of_int (by simpa only [PyData.showable, decide_eq_true_eq] using hs) (by simpa only [PyData.shown] using fin _)
  | str z =>
    obtain ⟨t, rfl⟩ := ru
    exact P.repr_of_str (by simpa only [PyData.shown] using fin _) (by simpa only [PyData.shown] using hsz)
  | lst hl ha =>
    rename_i a ys ds
    cases ru
    refine repr_of_reads' rd hs (PyData.noDict_hsm (dp_noDict _ _ (.lst hl ha))) hg (by omega) (fun _ _ h => h) (fun h' t' tk hk => ?_) hsz
    exact ⟨.str _, H, I.kept hk, ⟨_, rfl⟩, q⟩
  | tup hl ha =>
    rename_i a ys ds
    cases ru
    refine repr_of_reads' rd hs (PyData.noDict_hsm (dp_noDict _ _ (.tup hl ha))) hg (by omega) (fun _ _ h => h) (fun h' t' tk hk => ?_) hsz
    exact ⟨.str _, H, I.kept hk, ⟨_, rfl⟩, q⟩
end Fw

namespace Fw
open PySem PySem.Spec PyProof.Rows L2

/-! ### one's own dicts lent locked -/
inductive LkE (t : TE) (σ : L2.St) : Hp → VK → Prop
  | here {H : Hp} {Q : VK} : t σ H Q → LkE t σ H Q
  | lock {H : Hp} {Q : VK} {d : Addr} {u : HO} : H d = some u → Mut (some u) → (∀ od, LkE t σ (upd H d (.frz od u)) fun v H' => H' d = some (.frz od u) ∧ Q v (upd H' d u)) → LkE t σ H Q
theorem LkE.run {X : Cx} {pins : List (Addr × Obj)} {σ : L2.St} {s : Shared} {t : TE} {e : Expr} {H : Hp} {Q : VK} (p : PE X e t) (h : LkE t σ H Q) : Inv X pins σ H s → wpAny (model X.prog X.w) X.A (eval e X.env) (EP X pins σ Q) X.xe s := by
  induction h with
  | here r => exact fun I => p.run pins s σ _ _ I r
  | @lock H Q d u e m _ ih =>
    intro I
    obtain ⟨od, I1⟩ := I.lock e m
    refine thn (ih od I1) fun v s1 ⟨x, H1, I2, r, e2, q⟩ => ?_
    exact ⟨x, _, I2.unlock e2 (I.nofrz e m), r, q⟩
theorem pe_lk {X : Cx} {e : Expr} {t : TE} (h : PE X e t) : PE X e (LkE t) := ⟨fun pins s σ H Q I hw => hw.run h I⟩
inductive LkT (t : TT) (σ : L2.St) : Hp → (Bool → Hp → Prop) → Prop
  | here {H : Hp} {Q : Bool → Hp → Prop} : t σ H Q → LkT t σ H Q
  | lock {H : Hp} {Q : Bool → Hp → Prop} {d : Addr} {u : HO} : H d = some u → Mut (some u) → (∀ od, LkT t σ (upd H d (.frz od u)) fun v H' => H' d = some (.frz od u) ∧ Q v (upd H' d u)) → LkT t σ H Q
theorem LkT.run {X : Cx} {pins : List (Addr × Obj)} {σ : L2.St} {s : Shared} {t : TT} {e : Expr} {H : Hp} {Q : Bool → Hp → Prop} (p : PT X e t) (h : LkT t σ H Q) : Inv X pins σ H s → wpAny (model X.prog X.w) X.A (PySem.isTrue e X.env (eval e X.env)) (TP X pins σ Q) X.xe s := by
  induction h with
  | here r => exact fun I => p.run pins s σ _ _ I r
  | @lock H Q d u e m _ ih =>
    intro I
    obtain ⟨od, I1⟩ := I.lock e m
    refine thn (ih od I1) fun v s1 ⟨H1, I2, e2, q⟩ => ?_
    exact ⟨_, I2.unlock e2 (I.nofrz e m), q⟩
theorem pt_lk {X : Cx} {e : Expr} {t : TT} (h : PT X e t) : PT X e (LkT t) := ⟨fun pins s σ H Q I hw => hw.run h I⟩
def lkO (ods : Addr → Obj) (a : Addr) : Option HO → Option HO
  | some (.dK vs) => some (.frz (ods a) (.dK vs))
  | o => o
open Classical in
noncomputable def lockA (ods : Addr → Obj) (as : List Addr) (H : Hp) : Hp := fun b => if b ∈ as then lkO ods b (H b) else H b
open Classical in
noncomputable def unlA (as : List Addr) (H H' : Hp) : Hp := fun b => if b ∈ as then H b else H' b
def ob0 : Obj := { cls := .type "list", dict := none, data := .seq #[] 0, slots := #[] }
section
variable {σ : L2.St}
theorem lockA_cons {a : Addr} {as : List Addr} {H : Hp} {vs : List (Key × V)} {od : Obj} {ods : Addr → Obj} (e : H a = some (.dK vs)) (na : a ∉ as) : lockA (fun b => if b = a then od else ods b) (a :: as) H = lockA ods as (upd H a (.frz od (.dK vs))) := by
  funext b
  by_cases hb : b = a
  · subst hb
    show (if b ∈ b :: as then lkO _ b (H b) else H b) = (if b ∈ as then lkO ods b (upd H b _ b) else upd H b _ b)
    rw [if_pos List.mem_cons_self, if_neg na, upd_same, e]
    simp only [lkO, if_pos]
  · show (if b ∈ a :: as then lkO _ b (H b) else H b) = (if b ∈ as then lkO ods b (upd H a _ b) else upd H a _ b)
    rw [upd_ne hb]
    by_cases hm : b ∈ as
    · rw [if_pos (List.mem_cons_of_mem _ hm), if_pos hm]
      unfold lkO
      split <;> simp_all
    · rw [if_neg (fun z => by rcases List.mem_cons.mp z with z | z; exact hb z; exact hm z), if_neg hm]
theorem unlA_cons {a : Addr} {as : List Addr} {H H' : Hp} {vs : List (Key × V)} {u : HO} (e : H a = some (.dK vs)) (na : a ∉ as) : upd (unlA as (upd H a u) H') a (.dK vs) = unlA (a :: as) H H' := by
  funext b
  by_cases hb : b = a
  · subst hb
    show upd (unlA as (upd H b u) H') b (.dK vs) b = if b ∈ b :: as then H b else H' b
    rw [if_pos List.mem_cons_self, upd_same, e]
  · show upd (unlA as (upd H a u) H') a (.dK vs) b = if b ∈ a :: as then H b else H' b
    rw [upd_ne hb]
    show (if b ∈ as then upd H a u b else H' b) = if b ∈ a :: as then H b else H' b
    rw [upd_ne hb]
    by_cases hm : b ∈ as
    · rw [if_pos (List.mem_cons_of_mem _ hm), if_pos hm]
    · have hn : b ∉ a :: as := fun z => by
        rcases List.mem_cons.mp z with z | z
        · exact hb z
        · exact hm z
      rw [if_neg hm, if_neg hn]
theorem lock_head {a : Addr} {as : List Addr} {H H' : Hp} {vs : List (Key × V)} {od : Obj} {ods : Addr → Obj} (e : H a = some (.dK vs)) (na : a ∉ as) (h : ∀ b ∈ a :: as, H' b = lkO (fun b => if b = a then od else ods b) b (H b)) :
    (∀ b ∈ as, H' b = lkO ods b (upd H a (.frz od (.dK vs)) b)) ∧ unlA as (upd H a (.frz od (.dK vs))) H' a = some (.frz od (.dK vs)) := by
  refine ⟨fun b hb => ?_, ?_⟩
  · have ne : b ≠ a := fun z => na (z ▸ hb)
    rw [h b (List.mem_cons_of_mem _ hb), upd_ne ne]
    unfold lkO
    split <;> simp_all
  · show (if a ∈ as then _ else H' a) = _
    rw [if_neg na, h a List.mem_cons_self, e]
    simp only [lkO, if_pos]
theorem LkE.list {t : TE} : ∀ (as : List Addr) (H : Hp) (Q : VK), as.Nodup → (∀ a ∈ as, ∃ vs, H a = some (.dK vs)) → (∀ ods (Q' : VK), (∀ v H', (∀ a ∈ as, H' a = lkO ods a (H a)) → Q v (unlA as H H') → Q' v H') → t σ (lockA ods as H) Q') → LkE t σ H Q
  | [], H, Q, _, _, h => .here (by
    have q := h (fun _ => ob0) Q fun v H' _ q => q
    exact q)
  | a :: as, H, Q, nd, dd, h => by
    obtain ⟨vs, e⟩ := dd a List.mem_cons_self
    have na := (List.nodup_cons.mp nd).1
    refine .lock e trivial fun od => LkE.list as _ _ (List.nodup_cons.mp nd).2 (fun b hb => ?_) fun ods Q' k => ?_
    · obtain ⟨us, e'⟩ := dd b (List.mem_cons_of_mem _ hb)
      exact ⟨us, by rw [upd_ne (fun z => na (by rw [← z]; exact hb))]; exact e'⟩
    · rw [← lockA_cons e na]
      refine h _ Q' fun v H' h1 h2 => ?_
      obtain ⟨k1, k2⟩ := lock_head e na h1
      exact k v H' k1 ⟨k2, by rw [unlA_cons e na]; exact h2⟩
theorem LkT.list {t : TT} : ∀ (as : List Addr) (H : Hp) (Q : Bool → Hp → Prop), as.Nodup → (∀ a ∈ as, ∃ vs, H a = some (.dK vs)) → (∀ ods (Q' : Bool → Hp → Prop), (∀ v H', (∀ a ∈ as, H' a = lkO ods a (H a)) → Q v (unlA as H H') → Q' v H') → t σ (lockA ods as H) Q') → LkT t σ H Q
  | [], H, Q, _, _, h => .here (by
    have q := h (fun _ => ob0) Q fun v H' _ q => q
    exact q)
  | a :: as, H, Q, nd, dd, h => by
    obtain ⟨vs, e⟩ := dd a List.mem_cons_self
    have na := (List.nodup_cons.mp nd).1
    refine .lock e trivial fun od => LkT.list as _ _ (List.nodup_cons.mp nd).2 (fun b hb => ?_) fun ods Q' k => ?_
    · obtain ⟨us, e'⟩ := dd b (List.mem_cons_of_mem _ hb)
      exact ⟨us, by rw [upd_ne (fun z => na (by rw [← z]; exact hb))]; exact e'⟩
    · rw [← lockA_cons e na]
      refine h _ Q' fun v H' h1 h2 => ?_
      obtain ⟨k1, k2⟩ := lock_head e na h1
      exact k v H' k1 ⟨k2, by rw [unlA_cons e na]; exact h2⟩
end
/-! the addresses -/
open Classical in
noncomputable def nub : List Addr → List Addr
  | [] => []
  | a :: r => if a ∈ nub r then nub r else a :: nub r
theorem mem_nub {a : Addr} : ∀ {l : List Addr}, a ∈ nub l ↔ a ∈ l
  | [] => by simp [nub]
  | b :: r => by
    unfold nub
    by_cases h : b ∈ nub r
    · rw [if_pos h, List.mem_cons, mem_nub (l := r)]
      exact ⟨.inr, fun z => z.elim (fun e => by rw [e]; exact mem_nub.mp h) id⟩
    · rw [if_neg h, List.mem_cons, List.mem_cons, mem_nub (l := r)]
theorem nodup_nub : ∀ l : List Addr, (nub l).Nodup
  | [] => by simp [nub]
  | b :: r => by
    unfold nub
    by_cases h : b ∈ nub r
    · rw [if_pos h]; exact nodup_nub r
    · rw [if_neg h]; exact List.nodup_cons.mpr ⟨h, nodup_nub r⟩
def refOf : Option V → Option Addr
  | some (.ref a) => some a
  | _ => none
theorem lent_list (en : En) (σ : L2.St) (H : Hp) : ∃ as : List Addr, as.Nodup ∧ ∀ a, a ∈ as ↔ Lent en σ a ∧ ∃ vs, H a = some (.dK vs) := by
  classical
  refine ⟨nub ((σ.filterMap refOf).filter fun a => decide (Lent en σ a ∧ ∃ vs, H a = some (.dK vs))), nodup_nub _, fun a => ?_⟩
  rw [mem_nub, List.mem_filter, decide_eq_true_eq]
  refine ⟨fun h => h.2, fun h => ⟨?_, h⟩⟩
  obtain ⟨⟨i, d, e, q⟩, _⟩ := h
  exact List.mem_filterMap.mpr ⟨_, List.mem_of_getElem? q, rfl⟩
open Classical in
noncomputable def Wd.lendL (W : Wd) (en : En) (σ : L2.St) (ods : Addr → Obj) : Wd := ⟨W.ρ, fun a => if Lent en σ a then lkO ods a (W.H a) else W.F a, fun a => if Lent en σ a then lkO ods a (W.H a) else W.H a⟩
open Classical in
noncomputable def Wd.backL (W1 W : Wd) (en : En) (σ : L2.St) : Wd := ⟨W1.ρ, fun a => if Lent en σ a then none else W1.F a, fun a => if Lent en σ a then W.H a else W1.H a⟩
def Sl.seeL : Sl → Option D
  | .no => none
  | .va d => some d
  | .ow d => some d
def viewL (en : En) : Nv := en.map Sl.seeL
section
variable {Γ : Gm} {W0 W W1 : Wd} {S : Sto} {en : En} {σ : L2.St} {d : D} {p : Addr} {ods : Addr → Obj}
theorem lkO_some {a : Addr} {o : Option HO} (h : o ≠ none) : lkO ods a o ≠ none := by
  unfold lkO
  split <;> simp_all
theorem lkO_none {a : Addr} {o : Option HO} (h : lkO ods a o = none) : o = none := by
  unfold lkO at h
  split at h <;> simp_all
theorem llF {a : Addr} (l : Lent en σ a) : (W.lendL en σ ods).F a = lkO ods a (W.H a) := if_pos l
theorem llFN {a : Addr} (l : ¬ Lent en σ a) : (W.lendL en σ ods).F a = W.F a := if_neg l
theorem llH {a : Addr} (l : Lent en σ a) : (W.lendL en σ ods).H a = lkO ods a (W.H a) := if_pos l
theorem llHN {a : Addr} (l : ¬ Lent en σ a) : (W.lendL en σ ods).H a = W.H a := if_neg l
theorem blF {a : Addr} (l : Lent en σ a) : (W1.backL W en σ).F a = none := if_pos l
theorem blFN {a : Addr} (l : ¬ Lent en σ a) : (W1.backL W en σ).F a = W1.F a := if_neg l
theorem blH {a : Addr} (l : Lent en σ a) : (W1.backL W en σ).H a = W.H a := if_pos l
theorem blHN {a : Addr} (l : ¬ Lent en σ a) : (W1.backL W en σ).H a = W1.H a := if_neg l
theorem llHnone {a : Addr} (h : (W.lendL en σ ods).H a = none) : W.H a = none := by
  by_cases l : Lent en σ a
  · rw [llH l] at h; exact lkO_none h
  · rw [llHN l] at h; exact h
theorem EnOk.ll_gro (h : EnOk Γ W0 W en σ) : Gro W.ρ (W.lendL en σ ods).ρ W.F (W.lendL en σ ods).F := ⟨fun a u e => by
  by_cases l : Lent en σ a
  · obtain ⟨d, o, _⟩ := h.lent l
    rw [o.f] at e; cases e
  · rw [llFN l]; exact e, fun _ _ h => h⟩
theorem lkO_kind {a : Addr} {o u : HO} (k : FrO o) (nt : ∀ x, o ≠ .tup x) (h : lkO ods a (some o) = some u) : FrO u ∧ ∀ x, u ≠ .tup x := by
  unfold lkO at h
  split at h
  · cases h; exact ⟨trivial, fun _ z => nomatch z⟩
  · cases h; exact ⟨k, nt⟩
theorem EnOk.llOk (h : EnOk Γ W0 W en σ) (I : Ok Γ W S) : Ok Γ (W.lendL en σ ods) S := by
  refine ⟨fun a u e => ?_, fun a u e => ?_, I.len, I.nd, fun a ha => ?_, fun n a o h1 h2 => ?_⟩
  · by_cases l : Lent en σ a
    · rw [llF l] at e; rw [llH l]; exact e
    · rw [llFN l] at e; rw [llHN l]; exact I.fh a u e
  · by_cases l : Lent en σ a
    · rw [llF l] at e
      obtain ⟨d, o, _⟩ := h.lent l
      obtain ⟨u', e', k, nt⟩ := o.v.kind
      rw [e'] at e; exact (lkO_kind k nt e).1
    · rw [llFN l] at e; exact I.fk a u e
  · by_cases l : Lent en σ a
    · obtain ⟨d, o, _⟩ := h.lent l
      exact absurd ha o.r
    · rw [llFN l]; exact I.rf a ha
  · have nl : ¬ Lent en σ a := fun l => by
      obtain ⟨d, o, _⟩ := h.lent l
      exact o.r (List.mem_iff_getElem?.mpr ⟨n, h1⟩)
    exact (I.so n a o h1 h2).gro h.ll_gro.tup (llHN nl)
theorem EnOk.envL (h : EnOk Γ W0 W en σ) : EnvOk Γ (W.lendL en σ ods) (viewL en) σ := ⟨by unfold viewL; rw [List.length_map]; exact h.len, fun i d e => by
  unfold viewL at e
  rw [List.getElem?_map] at e
  cases q : en[i]? with
  | none => rw [q] at e; cases e
  | some s =>
    rw [q] at e
    cases s with
    | no => cases e
    | va x =>
      cases e
      obtain ⟨v, q1, r⟩ := h.va i d q
      exact ⟨v, q1, Rp.mono h.ll_gro _ _ r⟩
    | ow x =>
      cases e
      obtain ⟨p, q1, o, z⟩ := h.ow i d q
      refine ⟨_, q1, ?_⟩
      have l : Lent en σ p := ⟨i, d, q, q1⟩
      have hv := o.v
      cases d with
      | lst ds =>
        obtain ⟨vs, eh, r⟩ := hv
        simp only [Rp]
        exact ⟨p, vs, rfl, (llF l).trans (by rw [eh]; rfl), RpL.mono h.ll_gro _ _ r⟩
      | dic ds =>
        obtain ⟨vs, eh, r⟩ := hv
        simp only [Rp]
        exact ⟨p, vs, ods p, rfl, (llF l).trans (by rw [eh]; rfl), RpK.mono h.ll_gro _ _ r⟩
      | _ => exact hv.elim⟩
theorem EnOk.blTup (h : EnOk Γ W0 W en σ) (s : Stp (W.lendL en σ ods) W1) : GroT W1.ρ (W1.backL W en σ).ρ W1.F (W1.backL W en σ).F := ⟨fun a u e => by
  have nl : ¬ Lent en σ a := fun l => by
    obtain ⟨d, o, _⟩ := h.lent l
    obtain ⟨u', e', k, n⟩ := o.v.kind
    obtain ⟨w, ew⟩ := ne_some (lkO_some (ods := ods) (a := a) (some_ne e'))
    have q := s.g.f a w (by rw [llF l]; exact ew)
    rw [e] at q; cases q
    rw [e'] at ew
    exact (lkO_kind k n ew).2 _ rfl
  rw [blFN nl]; exact e, fun _ _ h => h⟩
theorem EnOk.blStp (h : EnOk Γ W0 W en σ) (s : Stp (W.lendL en σ ods) W1) : Stp W (W1.backL W en σ) := by
  refine ⟨⟨⟨fun a u e => ?_, fun n a e => s.g.r n a e⟩⟩, ⟨fun a e e' => ?_, fun a ha => ?_, fun a o e n => ?_, fun a e => ?_⟩⟩
  · have nl : ¬ Lent en σ a := fun l => by
      obtain ⟨d, o, _⟩ := h.lent l
      rw [o.f] at e; cases e
    rw [blFN nl]
    exact s.g.f a u (by rw [llFN nl]; exact e)
  · by_cases l : Lent en σ a
    · exact absurd (blF l) e'
    · rw [blFN l] at e'
      exact llHnone (s.new a ((llFN l).trans e) e')
  · rcases s.rho a ha with z | z
    · exact .inl z
    · exact .inr (llHnone z)
  · by_cases l : Lent en σ a
    · rw [blH l]; exact e
    · rw [blHN l]; exact s.keep a o ((llHN l).trans e) n
  · by_cases l : Lent en σ a
    · rw [blH l] at e; exact e
    · rw [blHN l] at e; exact llHnone (s.dom a e)
theorem EnOk.blOk {S' : Sto} (h : EnOk Γ W0 W en σ) (s : Stp (W.lendL en σ ods) W1) (I1 : Ok Γ W1 S') : Ok Γ (W1.backL W en σ) S' := by
  refine ⟨fun a u e => ?_, fun a u e => ?_, I1.len, I1.nd, fun a ha => ?_, fun n a o h1 h2 => ?_⟩
  · by_cases l : Lent en σ a
    · rw [blF l] at e; cases e
    · rw [blFN l] at e; rw [blHN l]; exact I1.fh a u e
  · by_cases l : Lent en σ a
    · rw [blF l] at e; cases e
    · rw [blFN l] at e; exact I1.fk a u e
  · by_cases l : Lent en σ a
    · exact blF l
    · rw [blFN l]; exact I1.rf a ha
  · have nl : ¬ Lent en σ a := fun l => by
      obtain ⟨d, o, _⟩ := h.lent l
      have n1 := s.nrho (p := a) o.r (by rw [llH l]; exact lkO_some o.v.there)
      exact n1 (List.mem_iff_getElem?.mpr ⟨n, h1⟩)
    exact (I1.so n a o h1 h2).gro (h.blTup s) (blHN nl)
theorem EnOk.llSame (h : EnOk Γ W0 W en σ) (I : Ok Γ W S) (s : Stp (W.lendL en σ ods) W1) {a : Addr} (l : Lent en σ a) : W1.H a = lkO ods a (W.H a) := by
  obtain ⟨d, o, _⟩ := h.lent l
  rw [s.same (p := a) o.r (by rw [llH l]; exact lkO_some o.v.there), llH l]
theorem EnOk.unl {as : List Addr} (h : EnOk Γ W0 W en σ) (I : Ok Γ W S) (s : Stp (W.lendL en σ ods) W1) (ha : ∀ a, a ∈ as ↔ Lent en σ a ∧ ∃ vs, W.H a = some (.dK vs)) : unlA as W.H W1.H = (W1.backL W en σ).H := by
  funext a
  show (if a ∈ as then W.H a else W1.H a) = _
  by_cases l : Lent en σ a
  · rw [blH l]
    by_cases m : a ∈ as
    · rw [if_pos m]
    · rw [if_neg m, h.llSame I s l]
      unfold lkO
      split
      · rename_i vs e
        exact absurd ((ha a).mpr ⟨l, vs, e⟩) m
      · rfl
  · rw [blHN l, if_neg (fun m => l ((ha a).mp m).1)]
theorem lock_eq {as : List Addr} (ha : ∀ a, a ∈ as ↔ Lent en σ a ∧ ∃ vs, W.H a = some (.dK vs)) : lockA ods as W.H = (W.lendL en σ ods).H := by
  funext a
  show (if a ∈ as then lkO ods a (W.H a) else W.H a) = _
  by_cases l : Lent en σ a
  · rw [llH l]
    by_cases m : a ∈ as
    · rw [if_pos m]
    · rw [if_neg m]
      unfold lkO
      split
      · rename_i vs e
        exact absurd ((ha a).mpr ⟨l, vs, e⟩) m
      · rfl
  · rw [llHN l, if_neg (fun m => l ((ha a).mp m).1)]
end
def sVL (me : Nv → M D) : En → M Sl := fun en => M.bnd (M.calm (me (viewL en))) fun d => if d.imm = true then M.ret (.va d) else M.stk
def sOL (mo : Nv → M D) : En → M Sl := fun en => M.bnd (M.calm (mo (viewL en))) fun d => if d.immC = true then M.ret (.ow d) else M.stk
def sIfL (t : Nv → M Bool) (a b : En → M Fl) : En → M Fl := fun en => M.bnd (M.calm (t (viewL en))) fun c => if c = true then a en else b en
section
variable {Γ : Gm} {E : XK} {W0 W W1 : Wd} {S : Sto} {en : En} {σ : L2.St} {te : TE} {me : Nv → M D}
theorem calmG {α β : Type} {E' : XK} {WL : Wd} {m : M α} {f : α → M β} {k : β → Sto → Wd → Prop} {k' : α → Sto → Wd → Prop} (h : ResG Γ E W (M.bnd (M.calm m) f S) k) (q : ∀ a S' W', Stp WL W' → Ok Γ W' S' → ResG Γ E W (f a S') k → k' a S' W') : ResG Γ E' WL (m S) k' := by
  unfold M.bnd M.calm at h
  cases e : m S with
  | ok d S' => rw [e] at h; exact fun W' s I' => q d S' W' s I' h
  | exc c fs S' => rw [e] at h; exact h.elim
  | stuck => rw [e] at h; exact h.elim
theorem sim_sVL {E' : EK} (h : SimE Γ E' te me) : SimM Γ E (LkE te) (sVL me) := fun σ W0 W S en Q I N r => by
  obtain ⟨as, nd, ha⟩ := lent_list en σ W.H
  refine LkE.list as W.H Q nd (fun a m => ((ha a).mp m).2) fun ods Q' k => ?_
  rw [lock_eq ha]
  refine h σ (W.lendL en σ ods) S (viewL en) Q' (N.llOk I) N.envL (calmG r fun d S' W' s I' r' v rv => ?_)
  refine k v W'.H (fun a m => N.llSame I s ((ha a).mp m).1) ?_
  rw [N.unl I s ha]
  by_cases hi : d.imm = true
  · rw [if_pos hi] at r'
    exact r' (W'.backL W en σ) (N.blStp s) (N.blOk s I') v (Rp.monoT (N.blTup s) d v hi rv)
  · rw [if_neg hi] at r'; exact r'.elim
theorem back_ownL {p : Addr} {d : D} {ods : Addr → Obj} (N : EnOk Γ W0 W en σ) (s : Stp (W.lendL en σ ods) W1) (o : OwnAt Γ W1 p d) (hp : (W.lendL en σ ods).H p = none) (hi : d.immC = true) : OwnAt Γ (W1.backL W en σ) p d := by
  have nl : ¬ Lent en σ p := fun l => by
    obtain ⟨d, o, _⟩ := N.lent l
    exact o.v.there (llHnone hp)
  refine ⟨by rw [blFN nl]; exact o.f, o.r, ?_⟩
  have ov := o.v
  cases d with
  | lst ds => obtain ⟨vs, e, r⟩ := ov; exact ⟨vs, (blHN nl).trans e, RpL.monoT (N.blTup s) _ _ hi r⟩
  | dic ds => obtain ⟨vs, e, r⟩ := ov; exact ⟨vs, (blHN nl).trans e, RpK.monoT (N.blTup s) _ _ hi r⟩
  | _ => exact ov.elim
theorem sim_sOL {E' : EK} (h : SimO Γ E' te me) : SimM Γ E (LkE te) (sOL me) := fun σ W0 W S en Q I N r => by
  obtain ⟨as, nd, ha⟩ := lent_list en σ W.H
  refine LkE.list as W.H Q nd (fun a m => ((ha a).mp m).2) fun ods Q' k => ?_
  rw [lock_eq ha]
  refine h σ (W.lendL en σ ods) S (viewL en) Q' (N.llOk I) N.envL (calmG r fun d S' W' s I' r' p o hp => ?_)
  refine k (.ref p) W'.H (fun a m => N.llSame I s ((ha a).mp m).1) ?_
  rw [N.unl I s ha]
  by_cases hi : d.immC = true
  · rw [if_pos hi] at r'
    exact r' (W'.backL W en σ) (N.blStp s) (N.blOk s I') (.ref p) ⟨p, rfl, back_ownL N s o hp hi, llHnone hp⟩
  · rw [if_neg hi] at r'; exact r'.elim
theorem sim_ifL {E' : EK} {t : TT} {mt : Nv → M Bool} {ta tb : TS} {ma mb : En → M Fl} (ht : SimT Γ E' t mt) (ha : SimS Γ E ta ma) (hb : SimS Γ E tb mb) : SimS Γ E (tIfS (LkT t) ta tb) (sIfL mt ma mb) := fun σ W0 W S en D I b0 N r => by
  obtain ⟨as, nd, hm⟩ := lent_list en σ W.H
  refine LkT.list as W.H _ nd (fun a m => ((hm a).mp m).2) fun ods Q' k => ?_
  rw [lock_eq hm]
  refine ht σ (W.lendL en σ ods) S (viewL en) Q' (N.llOk I) N.envL ?_
  unfold sIfL M.bnd M.calm at r
  cases e : mt (viewL en) S with
  | ok c S' =>
    rw [e] at r
    intro W1 s I1
    refine k c W1.H (fun a m => N.llSame I s ((hm a).mp m).1) ?_
    rw [N.unl I s hm]
    have st := N.blStp s
    have r : ResS Γ E W0 W ((if c = true then ma en else mb en) S') D := r
    have r := ResS.mono r st.toAft
    cases c with
    | true =>
      rw [if_pos rfl] at r ⊢
      exact ha σ W0 (W1.backL W en σ) S' en D (N.blOk s I1) (b0.tr st.toBas) (N.stp st) r
    | false =>
      rw [if_neg Bool.false_ne_true] at r ⊢
      exact hb σ W0 (W1.backL W en σ) S' en D (N.blOk s I1) (b0.tr st.toBas) (N.stp st) r
  | exc c fs S' => rw [e] at r; exact r.elim
  | stuck => rw [e] at r; exact r.elim
end
section
variable {X : Cx} {E : XK} {E' : EK} {e c : Expr} {te : TE} {me : Nv → M D} {t u : TS} {m n : En → M Fl} {pos : Pos}
theorem jm_vL (h : JE X E' e te me) : JM X E e (LkE te) (sVL me) := ⟨pe_lk h.pe, sim_sVL h.sim⟩
theorem jm_oL (h : JO X E' e te me) : JM X E e (LkE te) (sOL me) := ⟨pe_lk h.pe, sim_sOL h.sim⟩
theorem js_ifL {a b : List Stmt} {tc : TT} {mc : Nv → M Bool} (hc : JT X E' c tc mc) (ha : JSs X E a t m) (hb : JSs X E b u n) : JS X E (.If c a b pos) (tIfS (LkT tc) t u) (sIfL mc m n) := ⟨ps_if (pt_lk hc.pt) ha.ps hb.ps, sim_ifL hc.sim ha.sim hb.sim⟩
end
end Fw

namespace Fw
open PySem PySem.Spec PyProof.Rows L2

/-! ### the store's objects: reading, writing -/
section
variable {Γ : Gm} {W W1 W0 : Wd} {S : Sto} {a : Addr} {n : Nat} {o : SO}
theorem nodup_inj {α : Type} : ∀ {l : List α}, l.Nodup → ∀ {i j : Nat} (hi : i < l.length) (hj : j < l.length), l[i] = l[j] → i = j
  | [], _, i, j, hi, _, _ => absurd hi (Nat.not_lt_zero _)
  | a :: r, h, 0, 0, _, _, _ => rfl
  | a :: r, h, 0, j + 1, hi, hj, e => absurd (by rw [List.getElem_cons_zero, List.getElem_cons_succ] at e; rw [e]; exact List.getElem_mem _) (List.nodup_cons.mp h).1
  | a :: r, h, i + 1, 0, hi, hj, e => absurd (by rw [List.getElem_cons_zero, List.getElem_cons_succ] at e; rw [← e]; exact List.getElem_mem _) (List.nodup_cons.mp h).1
  | a :: r, h, i + 1, j + 1, hi, hj, e => congrArg (· + 1) (nodup_inj (List.nodup_cons.mp h).2 _ _ (by simpa using e))
theorem Ok.set {u : HO} (I : Ok Γ W S) (hn : W.ρ[n]? = some a) (h : SoOk Γ (W.put a u) a o) : Ok Γ (W.put a u) (S.set n o) := by
  have hm : a ∈ W.ρ := List.mem_iff_getElem?.mpr ⟨n, hn⟩
  refine ⟨fun b v e => ?_, I.fk, by rw [List.length_set]; exact I.len, I.nd, I.rf, fun k b v h1 h2 => ?_⟩
  · show upd W.H a u b = some v
    rw [upd_ne (fun z => by
      have e' : W.F b = some v := e
      rw [z, I.rf a hm] at e'; cases e')]
    exact I.fh b v e
  · by_cases hk : k = n
    · subst hk
      have h1 : W.ρ[k]? = some b := h1
      rw [hn] at h1; cases h1
      have hl : k < S.length := by rw [← I.len]; exact (List.getElem?_eq_some_iff.mp hn).1
      rw [List.getElem?_set_self hl] at h2
      cases h2
      exact h
    · rw [List.getElem?_set_ne (Ne.symm hk)] at h2
      have h1 : W.ρ[k]? = some b := h1
      refine (I.so k b v h1 h2).gro (Gro.refl _ _).tup ?_
      show upd W.H a u b = W.H b
      refine upd_ne fun z => hk ?_
      subst z
      have l1 := (List.getElem?_eq_some_iff.mp h1)
      have l2 := (List.getElem?_eq_some_iff.mp hn)
      exact nodup_inj I.nd l1.1 l2.1 (l1.2.trans l2.2.symm)
theorem Stp.setρ {u : HO} (hm : a ∈ W.ρ) : Stp W (W.put a u) := ⟨⟨.refl _ _⟩, ⟨fun b h h' => absurd h h', fun b h => .inl h, fun b v e n => by
  show upd W.H a u b = some v
  rw [upd_ne (fun z => by subst z; exact n hm)]; exact e, fun b e => by
  have e : upd W.H a u b = none := e
  by_cases z : b = a
  · subst z; rw [upd_same] at e; cases e
  · rw [upd_ne z] at e; exact e⟩⟩
theorem Rp.objAt {v : V} (h : Rp Γ.K W.ρ W.F (.obj n) v) : ∃ a, v = .ref a ∧ W.ρ[n]? = some a := by simpa only [Rp] using h
theorem put_rp {u : HO} {d : D} {v : V} (h : Rp Γ.K W.ρ W.F d v) : Rp Γ.K (W.put a u).ρ (W.put a u).F d v := h
end
def sGet (n : Nat) : M SO := fun S => match S[n]? with
  | some o => .ok o S
  | none => .stuck
def sPut (n : Nat) (o : SO) : M Unit := fun S => .ok () (S.set n o)
/-- the store's thing behind a value -/
def soOf : D → M (Nat × SO)
  | .obj n => M.bnd (sGet n) fun o => M.ret (n, o)
  | _ => M.stk
section
variable {Γ : Gm} {E : XK} {W : Wd} {S : Sto} {α : Type}
theorem ResG.so {d : D} {v : V} {f : Nat × SO → M α} {k : α → Sto → Wd → Prop} (I : Ok Γ W S) (r : Rp Γ.K W.ρ W.F d v) (h : ResG Γ E W (M.bnd (soOf d) f S) k) :
    ∃ n a o, v = .ref a ∧ W.ρ[n]? = some a ∧ S[n]? = some o ∧ SoOk Γ W a o ∧ ResG Γ E W (f (n, o) S) k := by
  cases d with
  | obj n =>
    obtain ⟨a, rfl, e⟩ := r.objAt
    obtain ⟨o, e2, ok⟩ := I.obj e
    refine ⟨n, a, o, rfl, e, e2, ok, ?_⟩
    have q : M.bnd (soOf (.obj n)) f S = f (n, o) S := by
      show M.bnd (M.bnd (sGet n) fun o => M.ret (n, o)) f S = _
      unfold M.bnd sGet
      simp only [e2, M.ret_app]
    rw [q] at h; exact h
  | _ => exact h.elim
/-- the store written -/
theorem ResG.put {f : Unit → M α} {k : α → Sto → Wd → Prop} {n : Nat} {a : Addr} {o : SO} {u : HO} (I : Ok Γ W S) (e : W.ρ[n]? = some a) (h : ResG Γ E W (M.bnd (sPut n o) f S) k) (q : SoOk Γ (W.put a u) a o) :
    Ok Γ (W.put a u) (S.set n o) ∧ ResG Γ E (W.put a u) (f () (S.set n o)) k := by
  refine ⟨I.set e q, ?_⟩
  have h : ResG Γ E W (f () (S.set n o)) k := h
  exact h.mono (.setρ (List.mem_iff_getElem?.mpr ⟨n, e⟩))
end
/-! ### e.f -/
def fldD (c f : Str) (d : D) : M D := M.bnd (soOf d) fun p => match p.2 with
  | .ins c' fs => M.bnd (M.ass (decide (c' = c))) fun _ => M.opt (fs.lookup f)
  | _ => M.stk
def rFld (K : PySem.W.Frag) (f : Str) : V → Hp → VK → Prop := fun x H1 Q => ∃ a C dx fs v, x = .ref a ∧ H1 a = some (.ins C dx fs) ∧ Cls K C ∧ NoAttr K C f ∧ fs.lookup f = some v ∧ Q v H1
theorem sim_fld {Γ : Gm} {c f : Str} {C : Addr} (hm : Γ.mg c = some (.ref C)) (hc : Cls Γ.K C) (hn : NoAttr Γ.K C f) : UnSim Γ (rFld Γ.K f) (fldD c f) := fun E W S x dx Q I r h => by
  unfold fldD at h
  obtain ⟨n, a, o, rfl, e, e2, ok, h⟩ := ResG.so I r h
  cases o with
  | ins c' fs =>
    dsimp only at h
    obtain ⟨hc', h3⟩ := ResG.ass h
    have ec : c' = c := of_decide_eq_true hc'
    rw [← M.bnd_ret (M.opt _)] at h3
    obtain ⟨d, hd, h4⟩ := ResG.opt h3
    obtain ⟨_, C', dx, vs, hm', eh, rf⟩ := ok
    rw [ec, hm] at hm'; cases hm'
    obtain ⟨v, hv, rv⟩ := rf.look hd
    exact ⟨a, C, dx, vs, v, rfl, eh, hc, hn, hv, h4.ret I v rv⟩
  | _ => exact h.elim
section
variable {X : Cx} {E : EK} {e : Expr} {te : TE} {me : Nv → M D} {pos : Pos} {c f : Str} {C : Addr}
theorem je_fld (hm : X.mg c = some (.ref C)) (hc : Cls X.K C) (hn : NoAttr X.K C f) (he : JE X E e te me) (hb : attributeBase e f X.env (eval e X.env) = eval e X.env := by rfl) : JE X E (.Attribute e f pos) (tFld X.K te f) (mUn (fldD c f) me) :=
  ⟨pe_fld he.pe hb, sim_un (Γ := gm X) (sim_fld hm hc hn) he.sim⟩
end
/-! ### e.f = v, as an effect -/
def fldPut (c f : Str) (y d : D) : M D := M.bnd (M.ass y.imm) fun _ => M.bnd (soOf d) fun p => match p.2 with
  | .ins c' fs => M.bnd (M.ass (decide (c' = c) && decide (fs.length < 1000))) fun _ => M.bnd (sPut p.1 (.ins c' (putD f y fs))) fun _ => M.ret .non
  | _ => M.stk
def mOp2 (op : D → D → M D) (a b : Nv → M D) : Nv → M D := fun env => M.bnd (a env) fun x => M.bnd (b env) fun y => op x y
theorem RpF.put {K : PySem.W.Frag} {ρ : List Addr} {F : Hp} {f : Str} {d : D} {v : V} (hd : Rp K ρ F d v) : ∀ {ds : List (Str × D)} {vs : List (Str × V)}, RpF K ρ F ds vs → RpF K ρ F (putD f d ds) (putF f v vs)
  | [], vs, h => by obtain rfl := h.inv0; exact .cons hd .nil
  | (k, d') :: ds, vs, h => by
    obtain ⟨v', r, rfl, h1, h2⟩ := h.inv
    unfold putD putF
    by_cases e : k = f
    · rw [if_pos e, if_pos e]; exact .cons hd h2
    · rw [if_neg e, if_neg e]; exact .cons h1 (RpF.put hd h2)
theorem immF_put {f : Str} {d : D} (hd : d.imm = true) : ∀ {ds : List (Str × D)}, immF ds = true → immF (putD f d ds) = true
  | [], _ => by simp [immF, putD, hd]
  | (k, d') :: ds, h => by
    simp only [immF, List.all_cons, Bool.and_eq_true] at h
    unfold putD
    split
    · simp only [immF, List.all_cons, Bool.and_eq_true]; exact ⟨hd, h.2⟩
    · simp only [immF, List.all_cons, Bool.and_eq_true]; exact ⟨h.1, immF_put (ds := ds) hd h.2⟩
def rFldPut (K : PySem.W.Frag) (f : Str) : R2 := fun y x H2 Q => ∃ a C dx fs, x = .ref a ∧ H2 a = some (.ins C dx fs) ∧ Cls K C ∧ NoAttr K C f ∧ fs.length < 1000 ∧ Q .non (upd H2 a (.ins C dx (putF f y fs)))
theorem sim_fldPut {Γ : Gm} {c f : Str} {C : Addr} (hm : Γ.mg c = some (.ref C)) (hc : Cls Γ.K C) (hn : NoAttr Γ.K C f) : OpSim Γ (rFldPut Γ.K f) (fldPut c f) := fun E W S y x dy dx Q I ry rx h => by
  unfold fldPut at h
  obtain ⟨hi, h⟩ := ResG.ass h
  obtain ⟨n, a, o, rfl, e, e2, ok, h⟩ := ResG.so I rx h
  cases o with
  | ins c' fs =>
    dsimp only at h
    obtain ⟨hc', h3⟩ := ResG.ass h
    clear h
    obtain ⟨h1, h2⟩ := Bool.and_eq_true_iff.mp hc'
    have ec : c' = c := of_decide_eq_true h1
    subst ec
    obtain ⟨hi2, C', dx', vs, hm', eh, rf⟩ := ok
    rw [hm] at hm'; cases hm'
    refine ⟨a, C, dx', vs, rfl, eh, hc, hn, by rw [rf.length]; exact of_decide_eq_true h2, ?_⟩
    obtain ⟨I2, h4⟩ := ResG.put (u := .ins C dx' (putF f y vs)) (o := .ins c' (putD f dy fs)) I e h3 ⟨immF_put hi hi2, C, dx', _, hm, upd_same, RpF.put ry rf⟩
    exact h4.ret I2 _ rp_non
  | _ => exact h.elim
section
variable {X : Cx} {E : XK} {o e : Expr} {te to : TE} {me mo : Nv → M D} {pos pos' : Pos} {c f : Str} {C : Addr}
theorem js_fld (hm : X.mg c = some (.ref C)) (hc : Cls X.K C) (hn : NoAttr X.K C f) (ho : JE X (fun _ => E) o to mo) (he : JE X (fun _ => E) e te me) (hs : swapsWith e (some (.Attribute o f pos')) pos.line X.env = pure false := by rfl) :
    JS X E (.Assign [.Attribute o f pos'] e pos) (tDrop (tOp (rFldPut X.K f) te to)) (sDrop (sV (mOp (fldPut c f) me mo))) :=
  ⟨⟨fun pins s σ H D I h => (ps_fld ho.pe he.pe hs).run pins s σ H D I h⟩, sim_drop (sim_sV (sim_op (Γ := gm X) (sim_fldPut hm hc hn) he.sim ho.sim))⟩
theorem js_fldL {E' : EK} (hm : X.mg c = some (.ref C)) (hc : Cls X.K C) (hn : NoAttr X.K C f) (ho : JE X (fun _ => E) o to mo) (he : JE X (fun _ => E) e te me) (hs : swapsWith e (some (.Attribute o f pos')) pos.line X.env = pure false := by rfl) :
    JS X E (.Assign [.Attribute o f pos'] e pos) (tDrop (tOp (rFldPut X.K f) te to)) (sDrop (sN (mOp (fldPut c f) me mo))) :=
  ⟨⟨fun pins s σ H D I h => (ps_fld ho.pe he.pe hs).run pins s σ H D I h⟩, sim_drop (sim_sN (sim_op (Γ := gm X) (sim_fldPut hm hc hn) he.sim ho.sim))⟩
end
/-! ### lists of the store -/
def oIxS (x y : D) : M D := match x with
  | .obj n => M.bnd (sGet n) fun o => match o, y with
    | .lst ds, .int i => M.opt (atI ds i)
    | .dic kvs, k => M.bnd (M.opt k.key) fun k => M.opt (dlook kvs k)
    | _, _ => M.stk
  | _ => oIx x y
theorem soOf_obj {α : Type} {n : Nat} {f : SO → M α} : M.bnd (sGet n) f = M.bnd (soOf (.obj n)) fun p => f p.2 := by
  unfold soOf
  simp only [M.bnd_bnd, M.ret_bnd]
theorem sim_ixS {Γ : Gm} : OpSim Γ (rIxAny Γ.K) oIxS := by
  intro E W S x y dx dy Q I rx ry h
  cases dx with
  | obj n =>
    have h : ResG Γ E W (M.bnd (sGet n) (fun o => match o, dy with
      | .lst ds, .int i => M.opt (atI ds i)
      | .dic kvs, k => M.bnd (M.opt k.key) fun k => M.opt (dlook kvs k)
      | _, _ => M.stk) S) (Kd Γ Q) := h
    rw [soOf_obj] at h
    obtain ⟨n, a, o, rfl, e, e2, ok, h⟩ := ResG.so I rx h
    simp only [] at h
    split at h
    · rw [← M.bnd_ret (M.opt _)] at h
      obtain ⟨d, hd, h⟩ := h.opt
      obtain ⟨_, vs, eh, r⟩ := ok
      simp only [Rp] at ry
      subst ry
      obtain ⟨v, hv, rv⟩ := atI_map r hd
      exact .inl (.inl ⟨a, vs, _, v, rfl, rfl, .inl (.inl eh), hv, h.ret I _ rv⟩)
    · obtain ⟨k, hk, h⟩ := h.opt
      rw [← M.bnd_ret (M.opt _)] at h
      obtain ⟨d, hd, h⟩ := h.opt
      obtain ⟨_, vs, eh, rk⟩ := ok
      obtain rfl := key_kV ry hk
      obtain ⟨v, hv, rv⟩ := rk.look_some hd
      exact .inr ⟨a, v, rfl, .inl ⟨vs, k, .inl eh, rfl, hv.symm⟩, h.ret I _ rv⟩
    · exact h.elim
  | _ => exact sim_ix E W S x y _ dy Q I rx ry h
/-- a list of the store as a value for a moment -/
def snap (x : D) : M D := match x with
  | .obj n => M.bnd (sGet n) fun o => match o with
    | .lst ds => M.ret (.lst ds)
    | _ => M.stk
  | d => M.ret d
def oEqS (x y : D) : M D := M.bnd (snap x) fun x => M.bnd (snap y) fun y => oEq x y
def oNeS (x y : D) : M D := M.bnd (snap x) fun x => M.bnd (snap y) fun y => oNe x y
theorem ResG.snap {Γ : Gm} {E : XK} {W : Wd} {S : Sto} {α : Type} {d : D} {v : V} {f : D → M α} {k : α → Sto → Wd → Prop} (I : Ok Γ W S) (r : Rp Γ.K W.ρ W.F d v) (h : ResG Γ E W (M.bnd (snap d) f S) k) :
    ∃ d', (∀ p, d'.py = some p → Dp Γ.K W.H v p) ∧ ResG Γ E W (f d' S) k := by
  cases d with
  | obj n =>
    have h : ResG Γ E W (M.bnd (M.bnd (sGet n) fun o => match o with
      | .lst ds => M.ret (.lst ds)
      | _ => M.stk) f S) k := h
    rw [M.bnd_bnd, soOf_obj] at h
    obtain ⟨n, a, o, rfl, e, e2, ok, h⟩ := ResG.so I r h
    cases o with
    | lst ds =>
      obtain ⟨_, vs, eh, rl⟩ := ok
      refine ⟨.lst ds, fun p hp => ?_, h⟩
      simp only [D.py] at hp
      cases q : pyL ds with
      | none => rw [q] at hp; cases hp
      | some ps =>
        rw [q] at hp; cases hp
        exact .lst (.inl (.inl eh)) (RpL.dp I ds vs ps rl q)
    | _ => exact h.elim
  | _ => exact ⟨_, fun p hp => Rp.dp I _ _ _ r hp, h⟩
theorem sim_eqS {Γ : Gm} : OpSim Γ (rEqD Γ.K) oEqS := by
  intro E W S x y dx dy Q I rx ry h
  unfold oEqS at h
  obtain ⟨d1, p1, h⟩ := ResG.snap I rx h
  obtain ⟨d2, p2, h⟩ := ResG.snap I ry h
  unfold oEq at h
  cases hd : d1.py with
  | none => rw [hd] at h; exact h.elim
  | some d =>
    cases he : d2.py with
    | none => rw [hd, he] at h; exact h.elim
    | some e =>
      rw [hd, he] at h
      obtain ⟨hc, h⟩ := ResG.ass h
      obtain ⟨a, b⟩ := Bool.and_eq_true_iff.mp hc
      exact ⟨d, e, p1 d hd, p2 e he, a, b, h.ret I _ rp_bl⟩
theorem sim_neS {Γ : Gm} : OpSim Γ (rNeD Γ.K) oNeS := by
  intro E W S x y dx dy Q I rx ry h
  unfold oNeS at h
  obtain ⟨d1, p1, h⟩ := ResG.snap I rx h
  obtain ⟨d2, p2, h⟩ := ResG.snap I ry h
  unfold oNe at h
  cases hd : d1.py with
  | none => rw [hd] at h; exact h.elim
  | some d =>
    cases he : d2.py with
    | none => rw [hd, he] at h; exact h.elim
    | some e =>
      rw [hd, he] at h
      obtain ⟨hc, h⟩ := ResG.ass h
      obtain ⟨a, b⟩ := Bool.and_eq_true_iff.mp hc
      exact ⟨d, e, p1 d hd, p2 e he, a, b, h.ret I _ rp_bl⟩
/-! x.pop(), x.append(y) -/
def popS (d : D) : M D := M.bnd (soOf d) fun p => match p.2 with
  | .lst ds => M.bnd (M.opt ds[ds.length - 1]?) fun y => M.bnd (sPut p.1 (.lst ds.dropLast)) fun _ => M.ret y
  | _ => M.stk
def appS (d y : D) : M D := M.bnd (M.ass y.imm) fun _ => M.bnd (soOf d) fun p => match p.2 with
  | .lst ds => M.bnd (M.ass (decide (ds.length < sizeLine))) fun _ => M.bnd (sPut p.1 (.lst (ds ++ [y]))) fun _ => M.ret .non
  | _ => M.stk
theorem RpL.dropLast {K : PySem.W.Frag} {ρ : List Addr} {F : Hp} {ds : List D} {vs : List V} (h : RpL K ρ F ds vs) : RpL K ρ F ds.dropLast vs.dropLast := by
  rw [List.dropLast_eq_take, List.dropLast_eq_take, h.length]
  exact h.take _
theorem immL_all : ∀ {ds : List D}, immL ds = true ↔ ∀ d ∈ ds, d.imm = true
  | [] => by simp [immL]
  | d :: ds => by simp only [immL, Bool.and_eq_true, immL_all (ds := ds), List.mem_cons, forall_eq_or_imp]
def rPopM (K : PySem.W.Frag) : V → Hp → VK → Prop := fun x H1 Q => tyV K "list" x H1 ∧ rPop x [] H1 Q
theorem sim_popS {Γ : Gm} : UnSim Γ (rPopM Γ.K) popS := fun E W S x dx Q I r h => by
  unfold popS at h
  obtain ⟨n, a, o, rfl, e, e2, ok, h⟩ := ResG.so I r h
  cases o with
  | lst ds =>
    dsimp only at h
    obtain ⟨y, hy, h⟩ := ResG.opt h
    obtain ⟨hi, vs, eh, rl⟩ := ok
    obtain ⟨v, hv, rv⟩ := rl.get hy
    refine ⟨.inl ⟨rfl, vs, .inl (.inl eh)⟩, a, vs, v, rfl, rfl, eh, by rw [rl.length]; exact hv, ?_⟩
    obtain ⟨I2, h⟩ := ResG.put (u := .lst vs.dropLast) (o := .lst ds.dropLast) I e h ⟨immL_all.mpr fun d hd => immL_all.mp hi d (List.dropLast_subset _ hd), _, upd_same, rl.dropLast⟩
    exact h.ret I2 _ rv
  | _ => exact h.elim
section
variable {X : Cx} {E : EK} {o e : Expr} {es : List Expr} {to te : TE} {t : TA} {mo me : Nv → M D} {apos cpos : Pos}
theorem je_popS (ho : JE X E o to mo) (hbase : attributeBase o "pop" X.env (eval o X.env) = eval o X.env := by rfl) (hline : (apos.endLine == cpos.line) = true := by rfl) :
    JE X E (.Call (.Attribute o "pop" apos) [] [] cpos) (tUn (rPopM X.K) to) (mUn popS mo) :=
  ⟨⟨fun pins s σ H Q I h => (pe_bm0 F.plainAttrs_list F.slot_list_pop F.type_list_pop mt_pop ho.pe hbase hline).run pins s σ H Q I h⟩, sim_un (Γ := gm X) sim_popS ho.sim⟩
/-- x is a list of the store -/
def isLstS (d : D) : M Unit := M.bnd (soOf d) fun p => match p.2 with
  | .lst _ => M.ret ()
  | _ => M.stk
def mApp (mo me : Nv → M D) : Nv → M D := fun env => M.bnd (mo env) fun x => M.bnd (isLstS x) fun _ => M.bnd (me env) fun y => appS x y
theorem ResG.isLstS {Γ : Gm} {E : XK} {W : Wd} {S : Sto} {α : Type} {d : D} {v : V} {f : Unit → M α} {k : α → Sto → Wd → Prop} (I : Ok Γ W S) (r : Rp Γ.K W.ρ W.F d v) (h : ResG Γ E W (M.bnd (Fw.isLstS d) f S) k) :
    tyV Γ.K "list" v W.H ∧ ResG Γ E W (f () S) k := by
  unfold Fw.isLstS at h
  rw [M.bnd_bnd] at h
  obtain ⟨n, a, o, rfl, e, e2, ok, h⟩ := ResG.so I r h
  cases o with
  | lst ds =>
    obtain ⟨_, vs, eh, _⟩ := ok
    exact ⟨.inl ⟨rfl, vs, .inl (.inl eh)⟩, h⟩
  | _ => exact h.elim
theorem sim_appS {Γ : Gm} (ho : SimE Γ E to mo) (he : SimE Γ E te me) : SimE Γ E (tBM Γ.K "list" rAppend to (tCons te tNil)) (mApp mo me) := fun σ W S env Q I N h => by
  unfold mApp at h
  refine ho σ W S env _ I N (h.bnd.imp fun x S1 W1 s1 I1 h1 v r => ?_)
  obtain ⟨ty, h1⟩ := ResG.isLstS I1 r h1
  refine ⟨ty, he σ W1 S1 env _ I1 (N.mono s1.toAft) (h1.bnd.imp fun y S2 W2 s2 I2 h2 u ru => ?_)⟩
  unfold appS at h2
  obtain ⟨hy, h2⟩ := ResG.ass h2
  obtain ⟨n, a, o, rfl, e, e2, ok, h2⟩ := ResG.so I2 (Rp.mono s2.g _ _ r) h2
  cases o with
  | lst ds =>
    dsimp only at h2
    obtain ⟨hl, h2⟩ := ResG.ass h2
    obtain ⟨hi, vs, eh, rl⟩ := ok
    refine ⟨a, vs, u, rfl, rfl, eh, by rw [rl.length]; exact of_decide_eq_true hl, ?_⟩
    obtain ⟨I3, h3⟩ := ResG.put (u := .lst (vs ++ [u])) (o := .lst (ds ++ [y])) I2 e h2 ⟨immL_all.mpr fun d hd => by
      rcases List.mem_append.mp hd with z | z
      · exact immL_all.mp hi d z
      · rw [List.mem_singleton.mp z]; exact hy, _, upd_same, rl.append (.cons ru .nil)⟩
    exact h3.ret I3 _ rp_non
  | _ => exact h2.elim
theorem je_appS (ho : JE X E o to mo) (he : JE X E e te me) (hbase : attributeBase o "append" X.env (eval o X.env) = eval o X.env := by rfl)
    (hfew : ((backTo cpos (starEach [e] X.env)).all (fun x => !x.1) && (backToKw cpos (keywordEach [] X.env)).all (fun x => x.1.isSome) && decide (([e] : List Expr).length + ([] : List Keyword).length + (if ([] : List Keyword).isEmpty then 0 else 1) < 30)) = true := by rfl)
    (hline : (apos.endLine == cpos.line) = true := by rfl) (hs : starEach [e] X.env = (false, eval e X.env) :: starEach [] X.env := by rfl) : JE X E (.Call (.Attribute o "append" apos) [e] [] cpos) (tBM X.K "list" rAppend to (tCons te tNil)) (mApp mo me) :=
  ⟨pe_bm F.plainAttrs_list F.slot_list_append F.type_list_append mt_append ho.pe (pa_cons he.pe pa_nil hs) hbase hfew hline hs rfl, sim_appS ho.sim he.sim⟩
/-! x[i] = v -/
def setS (d i y : D) : M D := M.bnd (M.ass y.imm) fun _ => M.bnd (soOf d) fun p => match p.2, i with
  | .lst ds, .int i => M.bnd (M.opt (ixN ds.length i)) fun j => M.bnd (sPut p.1 (.lst (ds.set j y))) fun _ => M.ret .non
  | _, _ => M.stk
end
def mSetS (mo mi mv : Nv → M D) : Nv → M D := fun env => M.bnd (mv env) fun y => M.bnd (mo env) fun x => M.bnd (mi env) fun i => setS x i y
def tSetS (to ti tv : TE) : TE := fun σ H Q => tv σ H fun v H1 => gSub to ti rSetL v σ H1 fun _ H2 => Q .non H2
theorem immL_set {ds : List D} {y : D} (h : immL ds = true) (hy : y.imm = true) (j : Nat) : immL (ds.set j y) = true := immL_all.mpr fun d hd => by
  rcases List.mem_or_eq_of_mem_set hd with z | z
  · exact immL_all.mp h d z
  · rw [z]; exact hy
theorem sim_setS {Γ : Gm} {E : EK} {to ti tv : TE} {mo mi mv : Nv → M D} (ho : SimE Γ E to mo) (hi : SimE Γ E ti mi) (hv : SimE Γ E tv mv) : SimE Γ E (tSetS to ti tv) (mSetS mo mi mv) := fun σ W S env Q I N h =>
  hv σ W S env _ I N (h.bnd.imp fun y S1 W1 s1 I1 h1 v rv => ho σ W1 S1 env _ I1 (N.mono s1.toAft) (h1.bnd.imp fun x S2 W2 s2 I2 h2 u ru =>
    hi σ W2 S2 env _ I2 ((N.mono s1.toAft).mono s2.toAft) (h2.bnd.imp fun i S3 W3 s3 I3 h3 w rw' => by
      unfold setS at h3
      obtain ⟨hy, h3⟩ := ResG.ass h3
      obtain ⟨n, a, o, rfl, e, e2, ok, h3⟩ := ResG.so I3 (Rp.mono s3.g _ _ ru) h3
      dsimp only at h3
      split at h3
      · obtain ⟨j, hj, h3⟩ := ResG.opt h3
        obtain ⟨hi, vs, eh, rl⟩ := ok
        simp only [Rp] at rw'
        subst rw'
        refine ⟨a, vs, _, j, rfl, rfl, eh, by rw [rl.length]; exact hj, ?_⟩
        obtain ⟨I4, h4⟩ := ResG.put (u := .lst (vs.set j v)) I3 e h3 ⟨immL_set hi hy j, _, upd_same, rl.set j (Rp.mono s3.g _ _ (Rp.mono s2.g _ _ rv))⟩
        exact h4.ret I4 _ rp_non
      · exact h3.elim)))
section
variable {X : Cx} {E : XK} {o i e : Expr} {to ti te : TE} {mo mi me : Nv → M D} {spos pos : Pos}
theorem js_setS (ho : JE X (fun _ => E) o to mo) (hi : JE X (fun _ => E) i ti mi) (he : JE X (fun _ => E) e te me) (hs : swapsWithSole [.Subscript o i spos] e pos.line X.env = pure false := by rfl) (hw : swappedStores [.Subscript o i spos] e X.env = pure none := by rfl)
    (h1 : (assignEach [.Subscript o i spos] X.env).map (·.2) = [assign (.Subscript o i spos) X.env] := by rfl) (ha : ∀ v, assign (.Subscript o i spos) X.env v = (do
      let ov ← holding [v] (eval o X.env)
      let iv ← holding [v, ov] (eval i X.env)
      standAt spos
      holding [v, ov, iv] (setItem ov iv v)
      release [v, ov, iv] []) := by intro _; rfl) : JS X E (.Assign [.Subscript o i spos] e pos) (tDrop (tSetS to ti te)) (sDrop (sV (mSetS mo mi me))) :=
  ⟨⟨fun pins s σ H D I h => (ps_asg he.pe (pg_sub ho.pe hi.pe set_list ha) hs hw h1).run pins s σ H D I (by exact h)⟩, sim_drop (sim_sV (sim_setS ho.sim hi.sim he.sim))⟩
end
end Fw

namespace Fw
open PySem PySem.Spec PyProof.Rows L2

/-! ### o.m(..) of an object of the store -/
def insOf (c m : Str) (d : D) : M Unit := M.bnd (soOf d) fun p => match p.2 with
  | .ins c' fs => M.ass (decide (c' = c) && (fs.lookup m).isNone)
  | _ => M.stk
def mMeth (c nm : Str) (mf : List D → M D) (ix : List (Nat × Nat)) (dds : List D) (mo : Nv → M D) (a k : Nv → M (List D)) : Nv → M D := fun env => M.bnd (mo env) fun x => M.bnd (insOf c nm x) fun _ => M.bnd (a env) fun ds => M.bnd (k env) fun es => mf (sel ix (x :: ds) dds es)
def tMethG (C : Addr) (nm : Str) (n m : Nat) (sp : Sp) (ix : List (Nat × Nat)) (dvs : List V) (E : EK) (to : TE) (t tk : TA) : TE := fun σ H Q => to σ H fun x H1 => ∃ a dx fs, x = .ref a ∧ H1 a = some (.ins C dx fs) ∧ fs.lookup nm = none ∧
  t σ H1 fun vs H2 => tk σ H2 fun zs H3 => (vs.length = n ∧ zs.length = m) ∧ sp (sel ix (x :: vs) dvs zs) H3 Q (E σ)
theorem ResG.ins {Γ : Gm} {E : XK} {W : Wd} {S : Sto} {α : Type} {c nm : Str} {C : Addr} {d : D} {v : V} {f : Unit → M α} {k : α → Sto → Wd → Prop} (I : Ok Γ W S) (hm : Γ.mg c = some (.ref C)) (r : Rp Γ.K W.ρ W.F d v) (h : ResG Γ E W (M.bnd (insOf c nm d) f S) k) :
    (∃ a dx fs, v = .ref a ∧ W.H a = some (.ins C dx fs) ∧ fs.lookup nm = none) ∧ ResG Γ E W (f () S) k := by
  unfold insOf at h
  rw [M.bnd_bnd] at h
  obtain ⟨n, a, o, rfl, e, e2, ok, h⟩ := ResG.so I r h
  cases o with
  | ins c' fs =>
    dsimp only at h
    obtain ⟨h1, h2⟩ := ResG.ass h
    obtain ⟨h3, h4⟩ := Bool.and_eq_true_iff.mp h1
    have ec : c' = c := of_decide_eq_true h3
    obtain ⟨_, C', dx, vs, hm', eh, rf⟩ := ok
    rw [ec, hm] at hm'; cases hm'
    exact ⟨⟨a, dx, vs, rfl, eh, rf.look0 (Option.isNone_iff_eq_none.mp h4)⟩, h2⟩
  | _ => exact h.elim
section
variable {X : Cx} {E : EK} {k : Nat} {f C : Addr} {fd : FuncData} {ps ks : List Str} {x c nm : Str} {p apos pos : Pos} {o : Expr} {es : List Expr} {kws : List Keyword} {to : TE} {t tk : TA} {ix : List (Nat × Nat)} {dvs : List V} {g : List Value → List Value → List Value} {mo : Nv → M D} {a mk : Nv → M (List D)} {m : List D → M D} {dds : List D}
theorem sim_meth {Γ : Gm} {n : Nat} (hm : Γ.mg c = some (.ref C)) (so : SimE Γ E to mo) (sa : SimA Γ E t a) (sk : SimA Γ E tk mk) (la : ∀ env S ds S', a env S = .ok ds S' → ds.length = n) (lk : ∀ env S ds S', mk env S = .ok ds S' → ds.length = ks.length)
    (hd : ∀ ρ F, RpL Γ.K ρ F dds dvs) : SimE Γ E (tMethG C nm n ks.length (FnSp Γ m) ix dvs E to t tk) (mMeth c nm m ix dds mo a mk) := fun σ W S env Q I N h =>
  so σ W S env _ I N (h.bnd.imp fun x S0 W0 s0 I0 h0 v r => by
    obtain ⟨⟨a0, dx, fs, rfl, e1, e2⟩, h0⟩ := ResG.ins I0 hm r h0
    refine ⟨a0, dx, fs, rfl, e1, e2, ?_⟩
    exact sa σ W0 S0 env _ I0 (N.mono s0.toAft) (h0.bnd.impE fun ds S1 W1 e1 s1 I1 h1 vs rs => sk σ W1 S1 env _ I1 ((N.mono s0.toAft).mono s1.toAft) (h1.bnd.impE fun es S2 W2 e2 s2 I2 h2 zs rz =>
      ⟨⟨rs.length.trans (la _ _ _ _ e1), rz.length.trans (lk _ _ _ _ e2)⟩, W2, S2, _, rfl, I2, RpL.sel (.cons (Rp.mono s2.g _ _ (Rp.mono s1.g _ _ r)) (RpL.mono s2.g _ _ rs)) (hd _ _) rz ix, h2⟩)))
theorem je_meth {pl : Sem Bool} (cl : Cls X.K C) (hmt : Meth X.K C nm f) (F : FnG X.prog X.w X.K X.mg X.base k f fd ps (FnSp (gm X) m)) (hgd : X.A.guards = some []) (hr : Room k X.A) (hm : X.mg c = some (.ref C))
    (hb : KBn X.K fd ps (es.length + 1) ks g (fun vs zs => sel ix vs dvs zs)) (hd : ∀ ρ F, RpL X.K ρ F dds dvs) (hx : ∀ σ, PassesAt (L2.CX X.prog X.w) X σ (E σ)) (ho : JE X E o to mo) (cc : JC X E es kws pos ks t tk a mk)
    (ht : eval (.Call (.Attribute o nm apos) es kws pos) X.env = (do
      let ov ← eval o X.env
      standAt apos.atName
      let (f, first) ← holding [ov] (getMethod ov nm pl)
      callWith pos f first (backTo pos (starEach es X.env)) (backToKw pos (keywordEach kws X.env))) := by rfl) :
    JE X E (.Call (.Attribute o nm apos) es kws pos) (tMethG C nm es.length ks.length (FnSp (gm X) m) ix dvs E to t tk) (mMeth c nm m ix dds mo a mk) := by
  refine ⟨⟨fun pins s σ H Q I h => ?_⟩, sim_meth hm ho.sim cc.sa cc.sk cc.la cc.lk hd⟩
  refine PySem.W.methodCall_KW (pl := pl) (thn (ho.pe.run pins s σ H _ I h) fun u s1 ⟨x, H1, I1, rx, a, dx, fs, ex, ea, l, q⟩ => ?_) ht
  subst ex
  obtain rfl : u = Value.ref a := rx
  refine getmeth_ok I1 ea cl hmt l ?_
  exact cc.ca.run (.ref f) [.ref a] hmt.kp pins s1 σ H1 _ _ I1 q fun us ws vs zs s2 H2 I2 r rz ⟨⟨l1, l2⟩, q⟩ => run_G (us := .ref a :: us) (vs := .ref a :: vs) F hgd hr hb (hx σ) I2 (.cons rfl r) rz (by rw [List.length_cons, l1]) l2 q
/-! ### C(..) -/
def mMake (c : Str) (mf : List D → M D) (ix : List (Nat × Nat)) (dds : List D) (a k : Nv → M (List D)) : Nv → M D := fun env => M.bnd (a env) fun ds => M.bnd (k env) fun es => M.bnd (alloc (.ins c [])) fun x => M.bnd (mf (sel ix (x :: ds) dds es)) fun r => match r with
  | .non => M.ret x
  | _ => M.stk
def tMakeG (C : Addr) (n m : Nat) (sp : Sp) (ix : List (Nat × Nat)) (dvs : List V) (E : EK) (t tk : TA) : TE := fun σ H Q => t σ H fun vs H1 => tk σ H1 fun zs H2 => (vs.length = n ∧ zs.length = m) ∧ ∀ x dx, H2 x = none → H2 dx = none → dx ≠ x →
  sp (sel ix (.ref x :: vs) dvs zs) (upd (upd H2 dx (.own x)) x (.ins C dx [])) (fun v H3 => v = .non ∧ Q (.ref x) H3) (E σ)
def Wd.mk2 (W : Wd) (C x dx : Addr) : Wd := ⟨W.ρ ++ [x], W.F, upd (upd W.H dx (.own x)) x (.ins C dx [])⟩
theorem sim_make {Γ : Gm} {n : Nat} (hm : Γ.mg c = some (.ref C)) (sa : SimA Γ E t a) (sk : SimA Γ E tk mk) (la : ∀ env S ds S', a env S = .ok ds S' → ds.length = n) (lk : ∀ env S ds S', mk env S = .ok ds S' → ds.length = ks.length)
    (hd : ∀ ρ F, RpL Γ.K ρ F dds dvs) : SimE Γ E (tMakeG C n ks.length (FnSp Γ m) ix dvs E t tk) (mMake c m ix dds a mk) := fun σ W S env Q I N h =>
  sa σ W S env _ I N (h.bnd.impE fun ds S1 W1 e1 s1 I1 h1 vs rs => sk σ W1 S1 env _ I1 (N.mono s1.toAft) (h1.bnd.impE fun es S2 W2 e2 s2 I2 h2 zs rz => by
    refine ⟨⟨rs.length.trans (la _ _ _ _ e1), rz.length.trans (lk _ _ _ _ e2)⟩, fun x dx hx hdx ne => ?_⟩
    have I3 : Ok Γ ((W2.lay dx (.own x)).lay x (.ins C dx [])) S2 := (I2.lay hdx).lay (by
      show upd W2.H dx (.own x) x = none
      rw [upd_ne ne.symm]; exact hx)
    have g : Ok Γ (W2.mk2 C x dx) (S2 ++ [.ins c []]) := I3.sto (p := x) (I2.fnone hx) (fun z => I2.rhoH z hx) ⟨rfl, C, dx, [], hm, upd_same, .nil⟩
    have st : Stp W2 (W2.mk2 C x dx) := Stp.sto (W := (W2.lay dx (.own x)).lay x (.ins C dx [])) ((Stp.lay hdx).trans (.lay (by
      show upd W2.H dx (.own x) x = none
      rw [upd_ne ne.symm]; exact hx))) hx
    have rx : Rp Γ.K (W2.mk2 C x dx).ρ (W2.mk2 C x dx).F (.obj S2.length) (.ref x) := by
      simp only [Rp]
      refine ⟨x, rfl, ?_⟩
      show (W2.ρ ++ [x])[S2.length]? = some x
      rw [← I2.len]; simp
    refine ⟨W2.mk2 C x dx, S2 ++ [.ins c []], _, rfl, g, RpL.sel (.cons rx (RpL.mono st.g _ _ (RpL.mono s2.g _ _ rs))) (hd _ _) (RpL.mono st.g _ _ rz) ix, ?_⟩
    have h2 : ResG Γ (E σ) W2 (M.bnd (m (sel ix (.obj S2.length :: ds) dds es)) (fun r => match r with
      | .non => M.ret (.obj S2.length)
      | _ => M.stk) (S2 ++ [.ins c []])) (Kd Γ Q) := h2
    refine (h2.mono st).bnd.imp fun r S4 W4 s4 I4 h4 v rv => ?_
    cases r with
    | non =>
      simp only [Rp] at rv
      exact ⟨rv, h4.ret I4 _ (Rp.mono s4.g _ _ rx)⟩
    | _ => exact h4.elim))
theorem run_MG {pins : List (Addr × Obj)} {σ : L2.St} {H : Hp} {s : Shared} {Q : VK} {us ws : List Value} {vs zs : List V} {n : Nat} {sp : Sp} (M : Mk X.K C f) (F : FnG X.prog X.w X.K X.mg X.base k f fd ps sp) (hgd : X.A.guards = some []) (hr : Room (k + 1) X.A) (hb : KBn X.K fd ps (n + 1) ks g (fun vs zs => sel ix vs dvs zs))
    (hx : ∀ σ, PassesAt (L2.CX X.prog X.w) X σ (E σ)) (I : Inv X pins σ H s) (r : Vals vs us) (rz : Vals zs ws) (l1 : vs.length = n) (l2 : zs.length = ks.length)
    (h : ∀ x dx, H x = none → H dx = none → dx ≠ x → sp (sel ix (.ref x :: vs) dvs zs) (upd (upd H dx (.own x)) x (.ins C dx [])) (fun v H2 => v = .non ∧ Q (.ref x) H2) (E σ)) :
    wpAny (model X.prog X.w) X.A (call (.ref C) us (ks.zip ws)) (EP X pins σ Q) X.xe s := by
  have hq := h (s.heap.objs.size + 1) s.heap.objs.size (I.hok.fresh (Nat.le_succ _)) (I.hok.fresh (Nat.le_refl _)) (Nat.ne_of_lt (Nat.lt_succ_self _))
  have I2 := Inv.made (C := C) I
  have r1 : Vals (V.ref (s.heap.objs.size + 1) :: vs) (Value.ref (s.heap.objs.size + 1) :: us) := .cons rfl r
  have r2 := hb.rel r1 rz
  have n1 : (Value.ref (s.heap.objs.size + 1) :: us).length = n + 1 := by
    rw [List.length_cons, ← r.length, l1]
  refine wpAny_call (make_map (f := f) I.kIn M.makes M.init (beq_iff_eq.mp M.fn) (codeAny_mono (F.run _ X.stack _ _ ⟨Value.ref (s.heap.objs.size + 1) :: us, ks.zip ws⟩ (g (Value.ref (s.heap.objs.size + 1) :: us) ws) _ _ (E σ) hgd (hr.make C us (ks.zip ws))
    (I2.env0.make C us (ks.zip ws)) (hb.to _ (Value.ref (s.heap.objs.size + 1) :: us) ws I2.kIn n1 (rz.length.symm.trans l2)) r2 hq) fun r s' hq' => ?_))
  cases r with
  | error e => exact hx σ pins _ _ e s' I2 hq'
  | ok fl =>
    cases fl with
    | ret u =>
      obtain ⟨v, H', I3, rv, ev, q3⟩ := I2.after hq'
      subst ev
      exact ⟨rv, ⟨V.ref (s.heap.objs.size + 1), H', I3, rfl, q3⟩⟩
    | next => exact False.elim hq'
    | brk => exact False.elim hq'
    | cont => exact False.elim hq'
theorem je_make (M : Mk X.K C f) (F : FnG X.prog X.w X.K X.mg X.base k f fd ps (FnSp (gm X) m)) (hgd : X.A.guards = some []) (hr : Room (k + 1) X.A) (hm : X.mg c = some (.ref C))
    (hb : KBn X.K fd ps (es.length + 1) ks g (fun vs zs => sel ix vs dvs zs)) (hd : ∀ ρ F, RpL X.K ρ F dds dvs) (hx : ∀ σ, PassesAt (L2.CX X.prog X.w) X σ (E σ)) (cc : JC X E es kws pos ks t tk a mk) (hg : Gl X c := by rfl)
    (hdb : (c == ("__debug__" : Str)) = false := by decide) : JE X E (.Call (.Name c p) es kws pos) (tMakeG C es.length ks.length (FnSp (gm X) m) ix dvs E t tk) (mMake c m ix dds a mk) := by
  refine ⟨⟨fun pins s σ H Q I h => ?_⟩, sim_make hm cc.sa cc.sk cc.la cc.lk hd⟩
  refine wpAny_Call_Name_kw (ld_glob I hg hm ?_ hdb)
  exact cc.ca.run (.ref C) [] M.kp pins s σ H _ _ I h fun us ws vs zs s2 H2 I2 r rz ⟨⟨l1, l2⟩, q⟩ => run_MG M F hgd hr hb hx I2 r rz l1 l2 q
end
/-! ### chains -/
section
variable {X : Cx} {E : EK} {Γ : Gm} {a b c e : Expr} {ta tb tc te : TE} {ma mb mc me : Nv → M D} {pos : Pos} {op op' : CmpOp} {r r' : R2} {o o' : D → D → M D}
theorem sim_chain (h1 : OpSim Γ r o) (h2 : OpSim Γ r' o') (ha : SimE Γ E ta ma) (hb : SimE Γ E tb mb) (hc : SimE Γ E tc mc) : SimE Γ E (tChain r r' ta tb tc) (mChain o o' ma mb mc) := fun σ W S env Q I N h =>
  ha σ W S env _ I N (h.bnd.imp fun x S1 W1 s1 I1 q1 v rv => hb σ W1 S1 env _ I1 (N.mono s1.toAft) (q1.bnd.imp fun y S2 W2 s2 I2 q2 u ru =>
    h1 _ W2 S2 v u x y _ I2 (Rp.mono s2.g _ _ rv) ru (q2.bnd.imp fun z S3 W3 s3 I3 q3 w rw' => by
      obtain ⟨k, ek, q5⟩ := asB_inv q3
      subst ek
      simp only [Rp] at rw'
      refine ⟨k, rw', ?_⟩
      clear q3
      cases k with
      | true =>
        rw [if_pos rfl] at q5 ⊢
        exact hc σ W3 S3 env _ I3 (((N.mono s1.toAft).mono s2.toAft).mono s3.toAft) (q5.bnd.imp fun t S4 W4 s4 I4 q4 w4 r4 => h2 _ W4 S4 u w4 y t Q I4 (Rp.mono s4.g _ _ (Rp.mono s3.g _ _ ru)) r4 q4)
      | false =>
        rw [if_neg Bool.false_ne_true] at q5 ⊢
        exact q5.ret I3 _ rp_bl)))
theorem je_chain (ho : OpR X (compareOp op) r) (ho' : OpR X (compareOp op') r') (h1 : OpSim (gm X) r o) (h2 : OpSim (gm X) r' o') (ha : JE X E a ta ma) (hb : JE X E b tb mb) (hc : JE X E c tc mc) (hm : lastMarks [op, op'] [b, c] = false := by with_unfolding_all rfl) :
    JE X E (.Compare a [op, op'] [b, c] pos) (tChain r r' ta tb tc) (mChain o o' ma mb mc) := ⟨pe_chain ho ho' ha.pe hb.pe hc.pe hm, sim_chain h1 h2 ha.sim hb.sim hc.sim⟩
theorem jt_chain (ho : OpR X (compareOp op) r) (ho' : OpR X (compareOp op') r') (h1 : OpSim (gm X) r o) (h2 : OpSim (gm X) r' o') (ha : JE X E a ta ma) (hb : JE X E b tb mb) (hc : JE X E c tc mc) (hm : lastMarks [op, op'] [b, c] = false := by with_unfolding_all rfl) :
    JT X E (.Compare a [op, op'] [b, c] pos) (tTest (tChain r r' ta tb tc)) (mB (mChain o o' ma mb mc)) := ⟨pt_chain ho ho' ha.pe hb.pe hc.pe hm, sim_test (sim_chain h1 h2 ha.sim hb.sim hc.sim)⟩
end
/-! ### d.get(..) -/
def isDic : D → M Unit
  | .dic _ => M.ret ()
  | .bdic _ => M.ret ()
  | .obj n => M.bnd (sGet n) fun o => match o with
    | .dic _ => M.ret ()
    | _ => M.stk
  | _ => M.stk
def dicOf : D → M (List (Key × D))
  | .dic k => M.ret k
  | .bdic k => M.ret k
  | .obj n => M.bnd (sGet n) fun o => match o with
    | .dic k => M.ret k
    | _ => M.stk
  | _ => M.stk
theorem ResG.dicOf {Γ : Gm} {E : XK} {W : Wd} {S : Sto} {α : Type} {d : D} {v : V} {f : List (Key × D) → M α} {k : α → Sto → Wd → Prop} (I : Ok Γ W S) (r : Rp Γ.K W.ρ W.F d v) (h : ResG Γ E W (M.bnd (Fw.dicOf d) f S) k) :
    ∃ a kvs vs, v = .ref a ∧ Rd W.H a (.dK vs) ∧ RpK Γ.K W.ρ W.F kvs vs ∧ ResG Γ E W (f kvs S) k := by
  cases d with
  | dic ks =>
    simp only [Rp] at r
    obtain ⟨a, vs, od, rfl, e, rk⟩ := r
    exact ⟨a, ks, vs, rfl, I.dic e, rk, h⟩
  | bdic ks =>
    simp only [Rp] at r
    obtain ⟨a, vs, rfl, e, rk⟩ := r
    exact ⟨a, ks, vs, rfl, I.bdic e, rk, h⟩
  | obj n =>
    have h : ResG Γ E W (M.bnd (M.bnd (sGet n) fun o => match o with
      | .dic k => M.ret k
      | _ => M.stk) f S) k := h
    rw [M.bnd_bnd, soOf_obj] at h
    obtain ⟨n, a, o, rfl, e, e2, ok, h⟩ := ResG.so I r h
    cases o with
    | dic ds =>
      obtain ⟨_, vs, eh, rk⟩ := ok
      exact ⟨a, ds, vs, rfl, .inl eh, rk, h⟩
    | _ => exact h.elim
  | _ => exact h.elim
def mGet1 (md mk : Nv → M D) : Nv → M D := fun env => M.bnd (md env) fun x => M.bnd (dicOf x) fun _ => M.bnd (mk env) fun y => M.bnd (dicOf x) fun kvs => M.bnd (M.opt y.key) fun k => M.ret ((dlook kvs k).getD .non)
def mGet2 (md mk mz : Nv → M D) : Nv → M D := fun env => M.bnd (md env) fun x => M.bnd (dicOf x) fun _ => M.bnd (mk env) fun y => M.bnd (mz env) fun z => M.bnd (dicOf x) fun kvs => M.bnd (M.opt y.key) fun k => M.ret ((dlook kvs k).getD z)
section
variable {X : Cx} {E : EK} {Γ : Gm} {o e f : Expr} {td ty tz : TE} {md mk mz : Nv → M D} {apos cpos : Pos}
theorem RpK.lookD {K : PySem.W.Frag} {ρ : List Addr} {F : Hp} {ds : List (Key × D)} {vs : List (Key × V)} {z : D} {w : V} (k : Key) (h : RpK K ρ F ds vs) (hz : Rp K ρ F z w) : Rp K ρ F ((dlook ds k).getD z) ((valV vs k).getD w) := by
  have q := RpK.look k h
  cases e : dlook ds k with
  | none => rw [e] at q; rw [show valV vs k = none from q]; exact hz
  | some d =>
    rw [e] at q
    obtain ⟨v, q1, q2⟩ := q
    rw [q1]; exact q2
theorem sim_get1 (hd : SimE Γ E td md) (hk : SimE Γ E ty mk) : SimE Γ E (tDGet1 td ty) (mGet1 md mk) := fun σ W S env Q I N h =>
  hd σ W S env _ I N (h.bnd.imp fun x S1 W1 s1 I1 q1 v rv => by
    obtain ⟨a, kvs, vs, rfl, rd, rk, q1⟩ := ResG.dicOf I1 rv q1
    refine ⟨a, rfl, .inl ⟨vs, rd⟩, hk σ W1 S1 env _ I1 (N.mono s1.toAft) (q1.bnd.imp fun y S2 W2 s2 I2 q2 u ru => ?_)⟩
    obtain ⟨a', kvs, vs, e, rd, rk, q2⟩ := ResG.dicOf I2 (Rp.mono s2.g _ _ rv) q2
    cases e
    obtain ⟨k, hk, q2⟩ := q2.opt
    obtain rfl := key_kV ru hk
    exact ⟨valV vs k, .inl ⟨vs, k, rd, rfl, rfl⟩, q2.ret I2 _ (rk.lookD k rp_non)⟩)
theorem sim_get2 (hd : SimE Γ E td md) (hk : SimE Γ E ty mk) (hz : SimE Γ E tz mz) : SimE Γ E (tDGet2 td ty tz) (mGet2 md mk mz) := fun σ W S env Q I N h =>
  hd σ W S env _ I N (h.bnd.imp fun x S1 W1 s1 I1 q1 v rv => by
    obtain ⟨a, kvs, vs, rfl, rd, rk, q1⟩ := ResG.dicOf I1 rv q1
    refine ⟨a, rfl, .inl ⟨vs, rd⟩, hk σ W1 S1 env _ I1 (N.mono s1.toAft) (q1.bnd.imp fun y S2 W2 s2 I2 q2 u ru => hz σ W2 S2 env _ I2 ((N.mono s1.toAft).mono s2.toAft) (q2.bnd.imp fun z S3 W3 s3 I3 q3 w rw' => ?_))⟩
    obtain ⟨a', kvs, vs, e, rd, rk, q3⟩ := ResG.dicOf I3 (Rp.mono s3.g _ _ (Rp.mono s2.g _ _ rv)) q3
    cases e
    obtain ⟨k, hk, q3⟩ := q3.opt
    obtain rfl := key_kV (Rp.mono s3.g _ _ ru) hk
    exact ⟨valV vs k, .inl ⟨vs, k, rd, rfl, rfl⟩, q3.ret I3 _ (rk.lookD k rw')⟩)
theorem je_get1 (hu : X.A.units + 1 < cLine) (hd : JE X E o td md) (hk : JE X E e ty mk) (m : M1 X o "get" apos e cpos := by exact ⟨rfl, rfl, rfl, rfl⟩) : JE X E (.Call (.Attribute o "get" apos) [e] [] cpos) (tDGet1 td ty) (mGet1 md mk) := ⟨pe_dget1 hu hd.pe hk.pe m, sim_get1 hd.sim hk.sim⟩
theorem je_get2 (hu : X.A.units + 1 < cLine) (hd : JE X E o td md) (hk : JE X E e ty mk) (hz : JE X E f tz mz) (m : M2 X o "get" apos e f cpos := by exact ⟨rfl, rfl, rfl, rfl⟩) : JE X E (.Call (.Attribute o "get" apos) [e, f] [] cpos) (tDGet2 td ty tz) (mGet2 md mk mz) := ⟨pe_dget2 hu hd.pe hk.pe hz.pe m, sim_get2 hd.sim hk.sim hz.sim⟩
end
/-! ### list(d.values()) -/
def rValsL : V → Hp → VK → Prop := fun x H Q => ∃ (d : Addr) (kvs : List (Key × V)), x = .ref d ∧ Rd H d (.dK kvs) ∧ ∀ p, H p = none → Q (.ref p) (upd H p (.lst (kvs.map (·.2))))
def tListVals (te : TE) : TE := fun σ H Q => te σ H fun x H1 => rValsL x H1 Q
theorem vals_items {kvs : List (Key × V)} {vs : List (Key × Value)} {acc : Array Value} (kv : KV kvs vs) (h : ItemsOf (fun i v => ∃ k, vs[i]? = some (k, v)) acc vs.length) : Vals (kvs.map (·.2)) acc.toList := by
  have e : acc.toList = vs.map (·.2) := by
    refine List.ext_getElem? fun i => ?_
    rw [List.getElem?_map]
    by_cases hi : i < acc.size
    · have q : acc[i]? = some acc[i] := by simp [hi]
      obtain ⟨k, e⟩ := h.2 i _ q
      rw [e, ← Array.getElem?_toList] at *
      simp only [Option.map_some]; exact q
    · have h1 : acc.toList[i]? = none := by simp; omega
      have h2 : vs[i]? = none := by
        rw [List.getElem?_eq_none_iff]
        have := h.1
        omega
      rw [h1, h2]; rfl
  rw [e]
  clear e h
  induction kv with
  | nil => exact .nil
  | cons r t ih => exact .cons r.2 ih
section
variable {X : Cx} {e : Expr} {te : TE} {p apos cpos pos : Pos}
theorem pe_listVals (hc : X.calm = true) (he : PE X e te) (hg : Gl X "list") (hm : X.mg "list" = none) (hv : bootBuiltins "list" = some (.type "list")) (hbase : attributeBase e "values" X.env (eval e X.env) = eval e X.env := by rfl) (hline : (apos.endLine == cpos.line) = true := by rfl)
    (hs : starEach [.Call (.Attribute e "values" apos) [] [] cpos] X.env = (false, eval (.Call (.Attribute e "values" apos) [] [] cpos) X.env) :: starEach [] X.env := by rfl) :
    PE X (.Call (.Name "list" p) [.Call (.Attribute e "values" apos) [] [] cpos] [] pos) (tListVals te) := by
  refine ⟨fun pins s σ H Q I hq => ?_⟩
  refine wpAny_Call_Name_kw (ld_blt I hg hm hv ?_)
  refine PyProof.Rows.callWith_type1 ?_ hs rfl
  rw [hs]
  show wpAny _ _ (spliced ((false, eval (.Call (.Attribute e "values" apos) [] [] cpos) X.env) :: backTo pos (starEach [] X.env))) _ _ s
  refine Calls.spliced_cons ?_
  refine wpAny_Call_method (T := "dict") (id := "dict.values") hbase rfl hline F.plainAttrs_dict F.slot_dict_values F.type_dict_values (thn (he.run pins s σ H _ I hq) fun u s1 ⟨x, H1, I1, rx, d, kvs, ex, hd, q⟩ => ?_)
  subst ex
  obtain rfl : u = Value.ref d := rx
  obtain ⟨hz, hs0, vs, kv, hdo⟩ := dk_rd I1.hok hd
  obtain ⟨ep, hat⟩ := hdo.dictAt
  have lk : kvs.length = vs.length := Paired.length kv
  have I2 : Inv X pins σ H1 { s1 with heap := s1.heap.push { cls := .type "dict_values", data := .fields #[.ref d] } } := I1.kept (t' := s1.toks) fun b ob q => Heap.get?_push_of_some _ q
  refine ⟨hdo.typeIs, hdo.mapOf.noDict, ?_⟩
  show wpAny _ _ (callWith cpos (.builtin "dict.values") [.ref d] [] []) _ X.xe s1
  refine method_meetsIn F.slot_dict_values F.entry_dict_values rfl (PySem.evalArgs_none ⟨rfl, hdo.typeIs, F.args_dict_values_1 _, _, meets_dict_values (mixKind X.prog X.w) d hs0, ⟨vs, hdo⟩, ?_⟩)
  refine Calls.spliced_nil ?_
  refine PySem.W.kdl_call (PySem.W.kdl_values (knd := mixKind X.prog X.w) (kvs := vs) (ep := ep) (d := d) (r := s1.heap.objs.size)) (I1.ok.hd hc) ⟨⟨_, Heap.get?_push_size _ rfl, rfl, rfl⟩, hat.push _⟩ (by omega) fun h' tk acc c hk hS hacc => ?_
  have I3 := I2.laid (a := s1.heap.objs.size + 1) (o := .lst (kvs.map (·.2))) (h' := h') (t' := tk) (fun b u q => hk b u q) (Nat.le_of_eq (Heap.size_push _ _)) ⟨by rw [List.length_map]; omega, acc.toList, c, vals_items kv hacc, by
    rw [Array.toArray_toList]
    rw [Heap.size_push] at hS
    exact hS⟩
  refine ⟨.ref _, _, I3, by rw [Heap.size_push] <;> rfl, q _ (I1.hok.fresh (Nat.le_succ _))⟩
end
end Fw

namespace Fw
open PySem PySem.Spec PyProof.Rows L2

/-! ### max(xs, default=d) -/
section
variable {prog : Program} {w : World} {A : Around} {R : Result → Shared → Prop} {J : Addr} {fp wr : List Addr} {n : Nat} {P : Nat → Value → Prop} {St : Nat → Heap → Prop}
theorem mxd_name : (toString "max" ++ toString ".loop" : String) = "max.loop" := by decide
/-- an item is kept, the walk goes on -/
theorem mxd_go (W : Walks prog w A.in1 J fp wr n P St) (bt : Nat → Nat → Bool) (hc : CmpOf prog w A.in1 .Gt P bt) (T : Addr) (hT : T ∉ fp) (kw : List (Str × Value)) (k : Nat) :
    ∀ (j : Nat) (s : Shared) (vb : Value) (c : Nat), n = j + 1 + k → St (j + 1) s.heap → P (argBest bt j) vb → s.heap.get? T = some { cls := .type "list", dict := none, data := .seq #[vb, vb] c, slots := #[] } →
    (∀ v h' tk, P (argBest bt (n - 1)) v → (∀ b o, b ∉ wr → b ≠ T → s.heap.get? b = some o → h'.get? b = some o) → R (.ok (.ret v)) { s with heap := h', toks := tk }) →
    codeAny (model prog w) A (.builtin "max.loop" ⟨[.ref J, .none, .ref T], kw⟩) R s := by
  have hw : T ∉ wr := fun h => hT (W.sub _ h)
  induction k with
  | zero =>
    intro j s vb c hk st pb hS out
    have e : j + 1 = n := by omega
    refine codeAny_builtin F.entry_max_loop ?_; rw [Around.under_plainId F.plain_max_loop _]
    show wpAny _ A.in1 (seqItems? (.ref T) >>= _) _ _ s
    refine wpAny_bind (wpAny_seqItems hS rfl ?_); show wpAny _ A.in1 (tryCatch (pyNext (.ref J)) _ >>= _) _ _ s
    refine wpAny_bind (wpAny_tryCatch (W.done s _ _ (e ▸ st) fun h1 tk hk' => ?_))
    show wpAny _ A.in1 (updateSeq T (fun _ => #[]) >>= _) _ _ _
    exact wpAny_bind (wpAny_updateSeq (hk' T _ hw hS) rfl (wpAny_bind (wpAny_letGo (wpAny_pure (out vb _ tk (by rw [← e]; exact pb) fun b o b1 b2 q => (Heap.get?_update_other _ _ (Ne.symm b2)).trans (hk' b o b1 q))))))
  | succ k ih =>
    intro j s vb c hk st pb hS out
    have lt : j + 1 < n := by omega
    refine codeAny_builtin F.entry_max_loop ?_; rw [Around.under_plainId F.plain_max_loop _]
    show wpAny _ A.in1 (seqItems? (.ref T) >>= _) _ _ s
    refine wpAny_bind (wpAny_seqItems hS rfl ?_); show wpAny _ A.in1 (tryCatch (pyNext (.ref J)) _ >>= _) _ _ s
    refine wpAny_bind (wpAny_tryCatch (W.item (j + 1) s _ _ lt st fun v h1 tk hP st' hk' => ?_))
    have hS' := hk' T _ hw hS
    show wpAny _ A.in1 (tryCatch (holding [v, v] (richCompare .Gt v vb >>= _)) _ >>= _) _ _ _
    refine wpAny_bind (wpAny_tryCatch (wpAny_holding (wpAny_bind (hc (j + 1) (argBest bt j) v vb _ _ _ hP pb ?_)))); refine wpAny_bind (wpAny_holding (wpAny_truthy_bool ?_)); refine wpAny_bind (wpAny_letGo (wpAny_pure ?_))
    cases hb : bt (j + 1) (argBest bt j) with
    | true =>
      simp only [if_true]
      refine wpAny_bind (wpAny_updateSeq hS' rfl (wpAny_bind (wpAny_letGo ?_))); rw [mxd_name]
      refine wpAny_pure ⟨plainId_quiet F.plain_max_loop _, ih (j + 1) _ v _ (by omega) (W.frame _ _ _ st' fun b b1 o q => (Heap.get?_update_other _ _ (fun z : T = b => hT (by rw [z]; exact b1))).trans q) (by simp only [argBest, hb, if_true]; exact hP) (Heap.get?_update_self _ hS' rfl) fun v' h2 tk2 hP2 hk2 => ?_⟩
      exact out v' h2 tk2 hP2 fun b o b1 b2 q => hk2 b o b1 b2 ((Heap.get?_update_other _ _ (Ne.symm b2)).trans (hk' b o b1 q))
    | false =>
      simp only [Bool.false_eq_true, if_false]
      refine wpAny_bind (wpAny_letGo ?_); rw [mxd_name]
      refine wpAny_pure ⟨plainId_quiet F.plain_max_loop _, ih (j + 1) _ vb c (by omega) st' (by simp only [argBest, hb, Bool.false_eq_true, if_false]; exact pb) hS' fun v' h2 tk2 hP2 hk2 => ?_⟩
      exact out v' h2 tk2 hP2 fun b o b1 b2 q => hk2 b o b1 b2 (hk' b o b1 q)
theorem mxd_first (W : Walks prog w A.in1 J fp wr n P St) (bt : Nat → Nat → Bool) (hc : CmpOf prog w A.in1 .Gt P bt) (T : Addr) (hT : T ∉ fp) (hn : 0 < n) (kw : List (Str × Value)) {s : Shared} {c : Nat} (st : St 0 s.heap)
    (hS : s.heap.get? T = some { cls := .type "list", dict := none, data := .seq #[] c, slots := #[] }) (out : ∀ v h' tk, P (argBest bt (n - 1)) v → (∀ b o, b ∉ wr → b ≠ T → s.heap.get? b = some o → h'.get? b = some o) → R (.ok (.ret v)) { s with heap := h', toks := tk }) :
    codeAny (model prog w) A (.builtin "max.loop" ⟨[.ref J, .none, .ref T], kw⟩) R s := by
  have hw : T ∉ wr := fun h => hT (W.sub _ h)
  refine codeAny_builtin F.entry_max_loop ?_; rw [Around.under_plainId F.plain_max_loop _]
  show wpAny _ A.in1 (seqItems? (.ref T) >>= _) _ _ s
  refine wpAny_bind (wpAny_seqItems hS rfl ?_); show wpAny _ A.in1 (tryCatch (pyNext (.ref J)) _ >>= _) _ _ s
  refine wpAny_bind (wpAny_tryCatch (W.item 0 s _ _ hn st fun v h1 tk hP st' hk' => ?_))
  have hS' := hk' T _ hw hS
  show wpAny _ A.in1 (updateSeq T (fun _ => #[v, v]) >>= _) _ _ _
  refine wpAny_bind (wpAny_updateSeq hS' rfl ?_); rw [mxd_name]
  refine wpAny_pure ⟨plainId_quiet F.plain_max_loop _, mxd_go W bt hc T hT kw (n - 1) 0 _ v _ (by omega) (W.frame _ _ _ st' fun b b1 o q => (Heap.get?_update_other _ _ (fun z : T = b => hT (by rw [z]; exact b1))).trans q) hP (Heap.get?_update_self _ hS' rfl) fun v' h2 tk2 hP2 hk2 => ?_⟩
  exact out v' h2 tk2 hP2 fun b o b1 b2 q => hk2 b o b1 b2 ((Heap.get?_update_other _ _ (Ne.symm b2)).trans (hk' b o b1 q))
theorem mxd_none (W : Walks prog w A.in1 J fp wr 0 P St) (T : Addr) (hT : T ∉ fp) (d : Value) {s : Shared} {c : Nat} (st : St 0 s.heap) (hS : s.heap.get? T = some { cls := .type "list", dict := none, data := .seq #[] c, slots := #[] })
    (out : ∀ h' tk, (∀ b o, b ∉ wr → b ≠ T → s.heap.get? b = some o → h'.get? b = some o) → R (.ok (.ret d)) { s with heap := h', toks := tk }) :
    codeAny (model prog w) A (.builtin "max.loop" ⟨[.ref J, .none, .ref T], [("default", d)]⟩) R s := by
  refine codeAny_builtin F.entry_max_loop ?_; rw [Around.under_plainId F.plain_max_loop _]
  show wpAny _ A.in1 (seqItems? (.ref T) >>= _) _ _ s
  refine wpAny_bind (wpAny_seqItems hS rfl ?_); show wpAny _ A.in1 (tryCatch (pyNext (.ref J)) _ >>= _) _ _ s
  refine wpAny_bind (wpAny_tryCatch (W.done s _ _ st fun h1 tk hk' => ?_))
  exact wpAny_bind (wpAny_rule (wpAny_pure (out h1 tk fun b o b1 b2 q => hk' b o b1 q)))
end
theorem args_max_dflt (a d : Value) : argsOk "max" ⟨[a], [(Str.ofString "default", d)]⟩ := by unfold argsOk; kernel_rfl
section
variable {prog : Program} {w : World} {A : Around} {E : Value → Shared → Prop} {s : Shared} {l : Addr} {xs : Array (Int × Tok)} {d : Value}
theorem max_dflt {Q : Value → Shared → Prop} (hh : A.handled = none) (hl : s.heap.IsList l (intItems xs))
    (h : ∀ v h' tk, (if 0 < xs.size then (intItems xs)[argBest (fun i j => decide (numAt xs i > numAt xs j)) (xs.size - 1)]? = some v else v = d) → (∀ b o, s.heap.get? b = some o → h'.get? b = some o) → Q v { s with heap := h', toks := tk }) :
    wpAny (model prog w) A (call (.builtin "max") [.ref l] [(Str.ofString "default", d)]) Q E s := by
  refine PyProof.Rows.kmk_tree F.kind_max F.plain_max F.entry_max (args_max_dflt _ _) ?_
  show wpAny _ A.in1 (Builtin.Builtins.bindParams "max" ["key", "default"] 0 ⟨[], [(Str.ofString "default", d)]⟩ >>= _) _ _ s
  refine wpAny_bind (wpAny_of_eq (show Builtin.Builtins.bindParams "max" ["key", "default"] 0 ⟨[], [(Str.ofString "default", d)]⟩ = pure [none, some d] from rfl) ?_)
  refine wpAny_bind (wpAny_pure ?_)
  refine wpAny_bind (iter_intList hl fun s2 e st hfp hlI => ?_)
  subst e
  refine wpAny_bind (wpAny_newObj_type ?_)
  have W := Walks.list (prog := prog) (w := w) (A := A.in1) hh s.heap.objs.size l hlI (intItems xs)
  have hT : (s.heap.push { cls := .type "list_iterator", data := .fields #[.ref l, .int 0 0] }).objs.size ∉ [s.heap.objs.size, l] := fun m => Nat.lt_irrefl _ (hfp _ m)
  rw [mxd_name]
  have st2 := W.frame 0 _ ((s.heap.push { cls := .type "list_iterator", data := .fields #[.ref l, .int 0 0] }).push { cls := .type "list", data := .seq #[] }) st fun b _ o e => Heap.get?_push_of_some _ e
  refine wpAny_pure ⟨plainId_quiet F.plain_max_loop _, ?_⟩
  by_cases hn : 0 < xs.size
  · refine mxd_first W _ (CmpOf.ints_gt (numAt xs) (fun _ _ => intItems_at)) _ hT (by simpa [intItems] using hn) _ st2 (Heap.get?_push_size _ rfl) fun v h' tk hP hk => ?_
    refine h v h' tk (by rw [if_pos hn]; simpa [intItems] using hP) fun b o e => hk b o (fun m => ?_) (fun z => ?_) (Heap.get?_push_of_some _ (Heap.get?_push_of_some _ e))
    · rw [List.mem_singleton.mp m] at e; exact Nat.lt_irrefl _ (Heap.lt_size e)
    · rw [z, Heap.size_push] at e; exact absurd (Heap.lt_size e) (Nat.not_lt.mpr (Nat.le_succ _))
  · have h00 : xs.size = 0 := Nat.eq_zero_of_not_pos hn
    have h0 : (intItems xs).size = 0 := by simp [intItems, h00]
    rw [h0] at W
    refine mxd_none W _ hT d st2 (Heap.get?_push_size _ rfl) fun h' tk hk => ?_
    refine h d h' tk (by rw [if_neg hn]) fun b o e => hk b o (fun m => ?_) (fun z => ?_) (Heap.get?_push_of_some _ (Heap.get?_push_of_some _ e))
    · rw [List.mem_singleton.mp m] at e; exact Nat.lt_irrefl _ (Heap.lt_size e)
    · rw [z, Heap.size_push] at e; exact absurd (Heap.lt_size e) (Nat.not_lt.mpr (Nat.le_succ _))
theorem max_dfltI {its : List Value} {ns : List Int} {Q : Value → Shared → Prop} (hh : A.handled = none) (hl : s.heap.IsList l its.toArray) (hi : IntsAre its ns)
    (h : ∀ v h' tk, (if ns = [] then v = d else ∃ m t, v = .int m t ∧ m ∈ ns ∧ ∀ a, a ∈ ns → a ≤ m) → (∀ b o, s.heap.get? b = some o → h'.get? b = some o) → Q v { s with heap := h', toks := tk }) :
    wpAny (model prog w) A (call (.builtin "max") [.ref l] [(Str.ofString "default", d)]) Q E s := by
  obtain ⟨xs, e⟩ := hi.allInts.items
  have hn : numsOf (intItems xs).toList = ns := by rw [← e]; exact hi.numsOf
  rw [nums_intItems] at hn; subst hn
  rw [e] at hl
  refine max_dflt hh hl fun v h' tk hv hk => h v h' tk ?_ hk
  by_cases h0 : 0 < xs.size
  · rw [if_pos h0] at hv
    have ne : ¬ xs.toList.map Prod.fst = [] := fun z => by
      have := congrArg List.length z
      rw [List.length_map, Array.length_toList] at this
      rw [this] at h0; exact Nat.lt_irrefl _ h0
    rw [if_neg ne]
    obtain ⟨t, rfl⟩ := intItems_at hv
    obtain ⟨h1, h2⟩ := argBest_gt (numAt xs) (xs.size - 1)
    refine ⟨_, t, rfl, ?_, fun a ha => ?_⟩
    · rw [numAt_eq]; exact PySem.getD_mem (by rw [List.length_map, Array.length_toList]; omega)
    · obtain ⟨j, hj, rfl⟩ := mem_getD ha
      rw [List.length_map, Array.length_toList] at hj
      rw [← numAt_eq]; exact h2 j (by omega)
  · rw [if_neg h0] at hv
    have e0 : xs.toList.map Prod.fst = [] := by
      have : xs.toList = [] := List.eq_nil_of_length_eq_zero (by rw [Array.length_toList]; exact Nat.eq_zero_of_not_pos h0)
      rw [this]; rfl
    rw [if_pos e0]; exact hv
end
end Fw

namespace Fw
open PySem PySem.Spec PyProof.Rows L2

def mCallK (op : List D → List D → M D) (a k : Nv → M (List D)) : Nv → M D := fun env => M.bnd (a env) fun ds => M.bnd (k env) fun es => op ds es
def bMaxD : List D → List D → M D
  | [.lst ds], [z] => M.bnd (M.opt (intsD ds)) fun ns => M.ret (if ns = [] then z else .int (maxL ns))
  | _, _ => M.stk
def rMaxD (K : PySem.W.Frag) : List V → List V → Hp → VK → Prop := fun vs zs H Q => ∃ (a : Addr) (ns : List Int) (z : V), vs = [V.ref a] ∧ zs = [z] ∧ SqL K H a (ns.map V.int) ∧ (ns = [] → Q z H) ∧ (∀ m, m ∈ ns → (∀ y, y ∈ ns → y ≤ m) → Q (.int m) H)
theorem cr_maxD {X : Cx} (hc : X.calm = true) : CallRK X (.builtin "max") [Str.ofString "default"] (rMaxD X.K) := by
  intro pins s σ H vs zs us ws Q I r rz h
  obtain ⟨a, ns, z, rfl, rfl, hs, q0, q⟩ := h
  obtain ⟨its, rv, hl, _⟩ := I.list hs
  obtain ⟨w1, rfl, e1⟩ := vals1 rz
  rw [Vals.ref1 r]
  refine max_dfltI (I.ok.hd hc) hl.isList rv.ints fun v h' tk hv hk => ?_
  by_cases e : ns = []
  · rw [if_pos e] at hv
    subst hv
    exact ⟨z, H, I.kept hk, e1, q0 e⟩
  · rw [if_neg e] at hv
    obtain ⟨m, t, rfl, h1, h2⟩ := hv
    exact ⟨.int m, H, I.kept hk, ⟨_, rfl⟩, q m h1 h2⟩
section
variable {X : Cx} {E : EK} {Γ : Gm} {e : Expr} {es : List Expr} {kws : List Keyword} {t tk : TA} {ma mk : Nv → M (List D)} {p pos : Pos}
theorem sim_maxD (ha : SimA Γ E t ma) (hk : SimA Γ E tk mk) : SimE Γ E (tCKw (rMaxD Γ.K) t tk) (mCallK bMaxD ma mk) := fun σ W S env Q I N h =>
  ha σ W S env _ I N (h.bnd.imp fun ds S1 W1 s1 I1 h1 vs rs => hk σ W1 S1 env _ I1 (N.mono s1.toAft) (h1.bnd.imp fun es S2 W2 s2 I2 h2 zs rz => by
    unfold bMaxD at h2
    split at h2
    · rename_i ds z
      obtain ⟨ns, e, g⟩ := ResG.opt h2
      obtain rfl := intsD_eq e
      obtain ⟨v, rfl, rv⟩ := rs.one
      have rv := Rp.mono s2.g _ _ rv
      simp only [Rp] at rv
      obtain ⟨a, vs, rfl, hF, rl⟩ := rv
      obtain rfl := rpL_intsI rl
      obtain ⟨u, rfl, ru⟩ := rz.one
      refine ⟨a, ns, u, rfl, rfl, I2.lst hF, fun e => ?_, fun m hm hy => ?_⟩
      · rw [if_pos e] at g; exact g.ret I2 _ ru
      · have ne : ns ≠ [] := fun z => by rw [z] at hm; cases hm
        rw [if_neg ne] at g
        obtain ⟨g1, g2⟩ := maxL_spec ne
        have e : m = maxL ns := Int.le_antisymm (g2 m hm) (hy _ g1)
        rw [e]; exact g.ret I2 _ rp_int
    · exact h2.elim))
theorem je_maxD (hc : X.calm = true) (hm : X.mg "max" = none) (ha : JAl X E (e :: es) t ma) (hk : JK X E kws tk mk) (hg : Gl X "max" := by rfl)
    (he : backTo pos (starEach (e :: es) X.env) = (false, eval e X.env) :: backTo pos (starEach es X.env) := by rfl) (hpl : (backTo pos (starEach (e :: es) X.env)).any (·.1) = false := by rfl)
    (hall : (backToKw pos (keywordEach kws X.env)).all (·.1.isSome) = true := by rfl) (hnone : (backToKw pos (keywordEach kws X.env)).any (·.1.isNone) = false := by rfl) (hks : (backToKw pos (keywordEach kws X.env)).filterMap (·.1) = [Str.ofString "default"] := by rfl) :
    JE X E (.Call (.Name "max" p) (e :: es) kws pos) (tCKw (rMaxD X.K) t tk) (mCallK bMaxD ma mk) := ⟨pe_callBK (cr_maxD hc) hg hm (by rfl) ha.pa hk.pk (he := he) (hpl := hpl) (hall := hall) (hnone := hnone) (hks := hks), sim_maxD (Γ := gm X) ha.sim hk.sim⟩
end
/-! list(d.values()) -/
def valsD (d : D) : M D := M.bnd (dicOf d) fun kvs => M.ret (.lst (kvs.map (·.2)))
section
variable {X : Cx} {E : EK} {Γ : Gm} {e : Expr} {te : TE} {me : Nv → M D} {p apos cpos pos : Pos}
theorem sim_listVals (he : SimE Γ E te me) : SimO Γ E (tListVals te) (mUn valsD me) := fun σ W S env Q I N h =>
  he σ W S env _ I N (h.bnd.imp fun x S1 W1 s1 I1 h1 v r => by
    unfold valsD at h1
    obtain ⟨a, kvs, vs, rfl, rd, rk, h2⟩ := ResG.dicOf I1 r h1
    exact ⟨a, vs, rfl, rd, fun p hp => lay_lst I1 rk.vals h2 s1 p hp⟩)
theorem jo_listVals (hc : X.calm = true) (hm : X.mg "list" = none) (he : JE X E e te me) (hg : Gl X "list" := by rfl) (hbase : attributeBase e "values" X.env (eval e X.env) = eval e X.env := by rfl) (hline : (apos.endLine == cpos.line) = true := by rfl)
    (hs : starEach [.Call (.Attribute e "values" apos) [] [] cpos] X.env = (false, eval (.Call (.Attribute e "values" apos) [] [] cpos) X.env) :: starEach [] X.env := by rfl) :
    JO X E (.Call (.Name "list" p) [.Call (.Attribute e "values" apos) [] [] cpos] [] pos) (tListVals te) (mUn valsD me) := ⟨pe_listVals hc he.pe hg hm (by rfl) hbase hline hs, sim_listVals he.sim⟩
end
/-! -x -/
def oNeg : D → M D
  | .int i => M.ret (.int (-i))
  | _ => M.stk
theorem sim_neg {Γ : Gm} : UnSim Γ (rU fun i => .int (-i)) oNeg := by
  intro E W S x dx Q I r h
  unfold oNeg at h
  split at h
  · simp only [Rp] at r; subst r
    exact ⟨_, rfl, h.ret I _ rp_int⟩
  · exact h.elim
/-! ### one's own slots written -/
section
variable {Γ : Gm} {E : XK} {W0 W W1 : Wd} {S : Sto} {en : En} {σ : L2.St} {te tk : TE} {f g : En → M Sl}
theorem EnOk.own_put {p : Addr} {d d' : Fw.D} {i : Nat} {u : HO} (N : EnOk Γ W0 W en σ) (e : en[i]? = some (.ow d)) (q : σ[i]? = some (some (.ref p))) (v : OwnV Γ (W.put p u) p d') : EnOk Γ W0 (W.put p u) (en.set i (.ow d')) σ := by
  have hl : i < en.length := (List.getElem?_eq_some_iff.mp e).1
  obtain ⟨p', q', o, z⟩ := N.ow i d e
  rw [q] at q'; cases q'
  refine ⟨by simp [N.len], fun k x hk => ?_, fun k x hk => ?_, fun k l x y r h1 h2 h3 h4 => ?_⟩
  · rcases set_get hk with ⟨rfl, z, _⟩ | ⟨ne, hk⟩
    · cases z
    · exact N.va k x hk
  · rcases set_get hk with ⟨rfl, z', _⟩ | ⟨ne, hk⟩
    · cases z'
      exact ⟨p, q, ⟨o.f, o.r, v⟩, z⟩
    · obtain ⟨r, e1, o1, z1⟩ := N.ow k x hk
      have npr : r ≠ p := fun h => ne (N.dj k i x d p hk e (by rw [← h]; exact e1) q)
      exact ⟨r, e1, ⟨o1.f, o1.r, o1.v.mono (Gro.refl _ _) (upd_ne npr)⟩, z1⟩
  · have a1 : ∃ x', en[k]? = some (.ow x') := by
      rcases set_get h1 with ⟨rfl, _, _⟩ | ⟨_, g⟩
      · exact ⟨_, e⟩
      · exact ⟨_, g⟩
    have a2 : ∃ y', en[l]? = some (.ow y') := by
      rcases set_get h2 with ⟨rfl, _, _⟩ | ⟨_, g⟩
      · exact ⟨_, e⟩
      · exact ⟨_, g⟩
    obtain ⟨_, a1⟩ := a1
    obtain ⟨_, a2⟩ := a2
    exact N.dj k l _ _ r a1 a2 h3 h4
def owL (i : Nat) (en : En) : M (List Fw.D) := match en[i]? with
  | some (.ow (.lst d)) => M.ret d
  | _ => M.stk
def owK (i : Nat) (en : En) : M (List (Key × Fw.D)) := match en[i]? with
  | some (.ow (.dic d)) => M.ret d
  | _ => M.stk
theorem ResS.owL {i : Nat} {D : Ends} {k : List Fw.D → M Fl} (h : ResS Γ E W0 W (M.bnd (owL i en) k S) D) : ∃ d, en[i]? = some (.ow (.lst d)) ∧ ResS Γ E W0 W (k d S) D := by
  unfold Fw.owL at h
  split at h
  · rename_i d e
    exact ⟨d, e, h⟩
  · exact h.elim
theorem ResS.owK {i : Nat} {D : Ends} {k : List (Key × Fw.D) → M Fl} (h : ResS Γ E W0 W (M.bnd (owK i en) k S) D) : ∃ d, en[i]? = some (.ow (.dic d)) ∧ ResS Γ E W0 W (k d S) D := by
  unfold Fw.owK at h
  split at h
  · rename_i d e
    exact ⟨d, e, h⟩
  · exact h.elim
theorem ResS.ass {b : Bool} {D : Ends} {k : Unit → M Fl} (h : ResS Γ E W0 W (M.bnd (M.ass b) k S) D) : b = true ∧ ResS Γ E W0 W (k () S) D := by
  cases b with
  | true => exact ⟨rfl, h⟩
  | false => exact h.elim
theorem ResS.opt {α : Type} {o : Option α} {D : Ends} {k : α → M Fl} (h : ResS Γ E W0 W (M.bnd (M.opt o) k S) D) : ∃ a, o = some a ∧ ResS Γ E W0 W (k a S) D := by
  cases o with
  | some a => exact ⟨a, rfl, h⟩
  | none => exact h.elim
/-- the value is no slot's own -/
def vaOf : Sl → M Fw.D
  | .va d => M.ret d
  | _ => M.stk
theorem ResS.vaOf {s : Sl} {D : Ends} {k : Fw.D → M Fl} (h : ResS Γ E W0 W (M.bnd (vaOf s) k S) D) : ∃ d, s = .va d ∧ ResS Γ E W0 W (k d S) D := by
  cases s with
  | va d => exact ⟨d, rfl, h⟩
  | _ => exact h.elim
/-- x.append(e) -/
def sApp (i : Nat) (f : En → M Sl) : En → M Fl := fun en => M.bnd (owL i en) fun _ => M.bnd (f en) fun s => M.bnd (vaOf s) fun y => M.bnd (owL i en) fun ds => M.bnd (M.ass (decide (ds.length < sizeLine))) fun _ => M.ret (.nx (en.set i (.ow (.lst (ds ++ [y])))))
theorem sim_app {i : Nat} (h : SimM Γ E te f) : SimS Γ E (tDrop (tBM Γ.K "list" rAppend (tVar i) (tCons te tNil))) (sApp i f) := fun σ W0 W S en D I b0 N r => by
  obtain ⟨ds, e, r⟩ := r.owL
  obtain ⟨p, q, o, z⟩ := N.ow i _ e
  refine ⟨_, q, ?_⟩
  obtain ⟨vs, eh, rl⟩ := o.v
  refine ⟨.inl ⟨rfl, vs, .inl (.inl eh)⟩, h σ W0 W S en _ I N ((r.expr b0).imp fun s S' W' st I' r' v sv => ?_)⟩
  have N' := N.stp st
  obtain ⟨p', q', o', z'⟩ := N'.ow i _ e
  rw [q] at q'; cases q'
  obtain ⟨y, rfl, r'⟩ := r'.vaOf
  obtain ⟨ds', e', r'⟩ := r'.owL
  rw [e] at e'; cases e'
  obtain ⟨vs', eh', rl'⟩ := o'.v
  obtain ⟨hl, r'⟩ := r'.ass
  refine ⟨p, vs', v, rfl, rfl, eh', by rw [rl'.length]; exact of_decide_eq_true hl, ?_⟩
  exact r' (W'.put p (.lst (vs' ++ [v]))) σ ⟨.refl _ _⟩ ((b0.tr st.toBas).put z) (I'.put o'.f o'.r) (N'.own_put e q ⟨_, upd_same, rl'.append (.cons sv .nil)⟩)
/-- x[k] = e of a dict -/
def sPutK (i : Nat) (fv fk : En → M Sl) : En → M Fl := fun en => M.bnd (fv en) fun s => M.bnd (vaOf s) fun y => M.bnd (owK i en) fun _ => M.bnd (fk en) fun u => M.bnd (vaOf u) fun k => M.bnd (owK i en) fun kvs => M.bnd (M.ass (decide (kvs.length < sizeLine))) fun _ =>
  M.bnd (M.opt k.key) fun k => M.ret (.nx (en.set i (.ow (.dic (dput kvs k y)))))
theorem sim_putK {i : Nat} (h : SimM Γ E te f) (hk : SimM Γ E tk g) : SimS Γ E (sDPut (tVar i) tk te) (sPutK i f g) := fun σ W0 W S en D I b0 N r =>
  h σ W0 W S en _ I N ((r.expr b0).imp fun s S1 W1 st I1 r v sv => by
    have N1 := N.stp st
    obtain ⟨y, rfl, r⟩ := r.vaOf
    obtain ⟨kvs, e, r⟩ := r.owK
    obtain ⟨p, q, o, z⟩ := N1.ow i _ e
    refine ⟨_, q, hk σ W0 W1 S1 en _ I1 N1 ((r.expr (b0.tr st.toBas)).imp fun u S2 W2 st2 I2 r w sw => ?_)⟩
    have N2 := N1.stp st2
    obtain ⟨yk, rfl, r⟩ := r.vaOf
    obtain ⟨kvs', e', r⟩ := r.owK
    rw [e] at e'; cases e'
    obtain ⟨hl, r⟩ := r.ass
    obtain ⟨k, ek, r⟩ := r.opt
    obtain ⟨p', q', o', z'⟩ := N2.ow i _ e
    rw [q] at q'; cases q'
    obtain ⟨vs, eh, rk⟩ := o'.v
    obtain rfl := key_kV (show Rp Γ.K W2.ρ W2.F yk w from sw) ek
    refine ⟨p, _, rfl, .inl ⟨vs, k, eh, rfl, by rw [rk.length]; exact of_decide_eq_true hl, rfl⟩, ?_⟩
    exact r (W2.put p (.dK (putK vs k v))) σ ⟨.refl _ _⟩ (((b0.tr st.toBas).tr st2.toBas).put z) (I2.put o'.f o'.r) (N2.own_put e q ⟨_, upd_same, RpK.put (Rp.mono st2.g _ _ sv) rk⟩))
/-- x.pop(k) of a dict, a statement -/
def sPopK (i : Nat) (fk : En → M Sl) : En → M Fl := fun en => M.bnd (owK i en) fun _ => M.bnd (fk en) fun u => M.bnd (vaOf u) fun k => M.bnd (owK i en) fun kvs =>
  M.bnd (M.opt k.key) fun k => M.bnd (M.opt (dlook kvs k)) fun _ => M.ret (.nx (en.set i (.ow (.dic (ddrop kvs k)))))
theorem sim_popK {i : Nat} (hk : SimM Γ E tk g) : SimS Γ E (tDrop (tDPop1 (tVar i) tk)) (sPopK i g) := fun σ W0 W S en D I b0 N r => by
  obtain ⟨kvs, e, r⟩ := r.owK
  obtain ⟨p, q, o, z⟩ := N.ow i _ e
  obtain ⟨vs, eh, rk⟩ := o.v
  refine ⟨_, q, p, rfl, .inl ⟨vs, .inl eh⟩, hk σ W0 W S en _ I N ((r.expr b0).imp fun u S2 W2 st2 I2 r w sw => ?_)⟩
  have N2 := N.stp st2
  obtain ⟨yk, rfl, r⟩ := r.vaOf
  obtain ⟨kvs', e', r⟩ := r.owK
  rw [e] at e'; cases e'
  obtain ⟨k, ek, r⟩ := r.opt
  obtain ⟨d, ed, r⟩ := r.opt
  obtain ⟨p', q', o', z'⟩ := N2.ow i _ e
  rw [q] at q'; cases q'
  obtain ⟨vs, eh, rk⟩ := o'.v
  obtain rfl := key_kV (show Rp Γ.K W2.ρ W2.F yk w from sw) ek
  obtain ⟨v, ev, rv⟩ := rk.look_some ed
  refine ⟨vs, k, v, eh, rfl, ev, ?_⟩
  exact r (W2.put p (.dK (dropK vs k))) σ ⟨.refl _ _⟩ ((b0.tr st2.toBas).put z) (I2.put o'.f o'.r) (N2.own_put e q ⟨_, upd_same, RpK.drop rk⟩)
/-- x op= e of values -/
def vaAt (i : Nat) (en : En) : M Fw.D := match en[i]? with
  | some (.va x) => M.ret x
  | _ => M.stk
theorem ResS.vaAt {i : Nat} {D : Ends} {k : Fw.D → M Fl} (h : ResS Γ E W0 W (M.bnd (vaAt i en) k S) D) : ∃ d, en[i]? = some (.va d) ∧ ResS Γ E W0 W (k d S) D := by
  unfold Fw.vaAt at h
  split at h
  · rename_i d e
    exact ⟨d, e, h⟩
  · exact h.elim
def sAugM (i : Nat) (op : Fw.D → Fw.D → M Fw.D) (f : En → M Sl) : En → M Fl := fun en => M.bnd (vaAt i en) fun x => M.bnd (f en) fun s => M.bnd (vaOf s) fun y => M.bnd (op x y) fun z => M.ret (.nx (en.set i (.va z)))
theorem sim_aug {i : Nat} {op : Fw.D → Fw.D → M Fw.D} {ti : TIp} (ho : OpSim Γ ti op) (h : SimM Γ E te f) : SimS Γ E (tAug i te ti) (sAugM i op f) := fun σ W0 W S en D I b0 N r => by
  obtain ⟨x, e, r⟩ := r.vaAt
  obtain ⟨v, q, rv⟩ := N.va i x e
  refine ⟨v, q, h σ W0 W S en _ I N ((r.expr b0).imp fun s S1 W1 st I1 r u su => ?_)⟩
  obtain ⟨y, es, r2⟩ := r.vaOf
  subst es
  refine ho E W1 S1 v u x y _ I1 (Rp.mono st.g _ _ rv) su ((r2.expr (b0.tr st.toBas)).imp fun z S2 W2 st2 I2 r3 w sw => ?_)
  exact r3 W2 _ (.refl W2) ((b0.tr st.toBas).tr st2.toBas) I2 (((N.stp st).stp st2).setVa sw i)
end
section
variable {X : Cx} {E : XK} {e c k : Expr} {te tk : TE} {f g : En → M Sl} {pos apos cpos spos : Pos} {i : Nat} {x : Str} {p : Pos}
theorem js_app (he : JM X E e te f) (hN : X.N[i]? = some x := by rfl) (hv : Vis X.env.scope x := by first | exact Or.inl rfl | exact Or.inr (Or.inl rfl) | exact Or.inr (Or.inr rfl)) (hd : (x == ("__debug__" : Str)) = false := by decide) (hcd : (x == ("__classdict__" : Str)) = false := by decide)
    (hbase : attributeBase (.Name x p) "append" X.env (eval (.Name x p) X.env) = eval (.Name x p) X.env := by rfl)
    (hfew : ((backTo cpos (starEach [e] X.env)).all (fun x => !x.1) && (backToKw cpos (keywordEach [] X.env)).all (fun x => x.1.isSome) && decide (([e] : List Expr).length + ([] : List Keyword).length + (if ([] : List Keyword).isEmpty then 0 else 1) < 30)) = true := by rfl)
    (hline : (apos.endLine == cpos.line) = true := by rfl) (hst : starEach [e] X.env = (false, eval e X.env) :: starEach [] X.env := by rfl) (hs : swapsWith (.Call (.Attribute (.Name x p) "append" apos) [e] [] cpos) none pos.line X.env = pure false := by rfl) :
    JS X E (.Expr (.Call (.Attribute (.Name x p) "append" apos) [e] [] cpos) pos) (tDrop (tBM X.K "list" rAppend (tVar i) (tCons te tNil))) (sApp i f) :=
  ⟨ps_expr (pe_bm F.plainAttrs_list F.slot_list_append F.type_list_append mt_append (pe_var hN hv hd hcd) (pa_cons he.pe pa_nil hst) hbase hfew hline hst rfl) hs, sim_app he.sim⟩
theorem js_putK (hu : X.A.units + 1 < cLine) (he : JM X E e te f) (hk : JM X E k tk g) (hN : X.N[i]? = some x := by rfl) (hv : Vis X.env.scope x := by first | exact Or.inl rfl | exact Or.inr (Or.inl rfl) | exact Or.inr (Or.inr rfl)) (hd : (x == ("__debug__" : Str)) = false := by decide) (hcd : (x == ("__classdict__" : Str)) = false := by decide)
    (hs : swapsWith e (some (.Subscript (.Name x p) k spos)) pos.line X.env = pure false := by rfl) :
    JS X E (.Assign [.Subscript (.Name x p) k spos] e pos) (sDPut (tVar i) tk te) (sPutK i f g) := ⟨ps_dput hu (pe_var hN hv hd hcd) hk.pe he.pe hs, sim_putK he.sim hk.sim⟩
theorem js_popK (hk : JM X E k tk g) (hN : X.N[i]? = some x := by rfl) (hv : Vis X.env.scope x := by first | exact Or.inl rfl | exact Or.inr (Or.inl rfl) | exact Or.inr (Or.inr rfl)) (hd : (x == ("__debug__" : Str)) = false := by decide) (hcd : (x == ("__classdict__" : Str)) = false := by decide)
    (m : M1 X (.Name x p) "pop" apos k cpos := by exact ⟨rfl, rfl, rfl, rfl⟩) (hs : swapsWith (.Call (.Attribute (.Name x p) "pop" apos) [k] [] cpos) none pos.line X.env = pure false := by rfl) :
    JS X E (.Expr (.Call (.Attribute (.Name x p) "pop" apos) [k] [] cpos) pos) (tDrop (tDPop1 (tVar i) tk)) (sPopK i g) := ⟨ps_expr (pe_dpop1 (pe_var hN hv hd hcd) hk.pe m) hs, sim_popK hk.sim⟩
theorem js_aug {op : Operator} {ti : TIp} {mo : D → D → M D} (hN : X.N.Nodup) (ho : PIp X op ti) (hm : OpSim (gm X) ti mo) (he : JM X E e te f) (hi : X.N[i]? = some x := by rfl) (hx : Loc X.env.scope x := by first | exact Or.inl rfl | exact Or.inr rfl)
    (hf : X.fn x = true ∨ X.env.scope.names.lookup x = some .local := by first | exact .inl rfl | exact .inr rfl) : JS X E (.AugAssign (.Name x p) op e pos) (tAug i te ti) (sAugM i mo f) := ⟨ps_aug hN hi hx he.pe ho hf, sim_aug hm he.sim⟩
end
/-! fresh things whose insides are kept lists: the slots of one's own hidden -/
def sON (mo : Nv → M D) : En → M Sl := fun en => M.bnd (mo (view false en)) fun d => M.ret (.ow d)
def sFN (mo : Nv → M D) : En → M Sl := fun en => M.bnd (mo (view false en)) fun d => M.ret (.va d)
section
variable {Γ : Gm} {E : XK} {X : Cx} {e : Expr} {te : TE} {me : Nv → M D}
theorem sim_sON (h : SimO Γ (fun _ => E) te me) : SimM Γ E te (sON me) := fun σ W0 W S en Q I N r =>
  h σ W S (view false en) Q I N.env (r.bnd.imp fun d S' W' s I' r' p o hp => r'.ret I' (.ref p) ⟨p, rfl, o, hp⟩)
theorem sim_sFN (h : SimO Γ (fun _ => E) te me) : SimM Γ E (tFz te) (sFN me) := sim_sN h.frz
theorem jm_on (h : JO X (fun _ => E) e te me) : JM X E e te (sON me) := ⟨h.pe, sim_sON h.sim⟩
theorem jm_fn (h : JO X (fun _ => E) e te me) : JM X E e (tFz te) (sFN me) := ⟨pe_fz h.pe, sim_sFN h.sim⟩
end
/-! ### a def's body -/
def startEn (N : List Str) (ds : List D) : En := ds.map .va ++ List.replicate (N.length - ds.length) .no
def outV : Fl → M D
  | .nx _ => M.ret .non
  | .rt d => M.ret d
  | _ => M.stk
def outO : Fl → M D
  | .ro d => M.ret d
  | _ => M.stk
def mBody (N : List Str) (n : Nat) (ms : En → M Fl) : List D → M D := fun ds => M.bnd (M.ass (decide (ds.length = n))) fun _ => M.bnd (ms (startEn N ds)) outV
def mBodyO (N : List Str) (n : Nat) (ms : En → M Fl) : List D → M D := fun ds => M.bnd (M.ass (decide (ds.length = n))) fun _ => M.bnd (ms (startEn N ds)) outO
def FnSpO (Γ : Gm) (m : List D → M D) : Sp := fun vs H Q E => ∃ W S ds, W.H = H ∧ Ok Γ W S ∧ RpL Γ.K W.ρ W.F ds vs ∧ ResG Γ E W (m ds S) (Ko Γ W Q)
section
variable {Γ : Gm} {E : XK} {W : Wd} {S : Sto} {N : List Str} {n : Nat} {ms : En → M Fl} {t : TS} {vs : List V} {H : Hp} {Q : VK}
theorem start_ok {ds : List D} (r : RpL Γ.K W.ρ W.F ds vs) : EnOk Γ W W (startEn N ds) (L2.start N vs) := by
  refine ⟨?_, fun i d e => ?_, fun i d e => ?_, fun i j d d' p e => ?_⟩
  · simp [startEn, L2.start, r.length]
  · unfold startEn at e
    by_cases hi : i < ds.length
    · rw [List.getElem?_append_left (by simpa using hi), List.getElem?_map] at e
      obtain ⟨x, e1, e2⟩ := Option.map_eq_some_iff.mp e
      cases e2
      obtain ⟨v, h1, h2⟩ := r.get e1
      refine ⟨v, ?_, h2⟩
      unfold L2.start
      rw [List.getElem?_append_left (by simpa [r.length] using hi), List.getElem?_map, h1]; rfl
    · rw [List.getElem?_append_right (by simpa using hi)] at e
      have := List.mem_of_getElem? e
      rw [List.mem_replicate] at this
      cases this.2
  · unfold startEn at e
    have := List.mem_of_getElem? e
    rcases List.mem_append.mp this with z | z
    · obtain ⟨x, _, z⟩ := List.mem_map.mp z; cases z
    · rw [List.mem_replicate] at z; cases z.2
  · unfold startEn at e
    have := List.mem_of_getElem? e
    rcases List.mem_append.mp this with z | z
    · obtain ⟨x, _, z⟩ := List.mem_map.mp z; cases z
    · rw [List.mem_replicate] at z; cases z.2
theorem ary_body : Ary n (mBody N n ms) := fun ds S h => by
  unfold mBody
  rw [decide_eq_false h]; rfl
theorem ary_bodyO : Ary n (mBodyO N n ms) := fun ds S h => by
  unfold mBodyO
  rw [decide_eq_false h]; rfl
theorem body_sim (h : SimS Γ E t ms) (q : FnSp Γ (mBody N n ms) vs H Q E) : t { nx := fun _ H' => Q .non H', rt := Q } (L2.start N vs) H := by
  obtain ⟨W, S, ds, rfl, I, r, g⟩ := q
  unfold mBody at g
  obtain ⟨_, g⟩ := ResG.ass g
  refine h (L2.start N vs) W W S (startEn N ds) _ I (.refl W) (start_ok r) ?_
  rw [M.bnd_app] at g
  cases e : ms (startEn N ds) S with
  | ok f S' =>
    rw [e] at g
    cases f with
    | nx en => exact fun W' σ' a b I' N' => g W' ⟨a, b⟩ I' .non rp_non
    | rt d => exact fun W' v a b I' R => g W' ⟨a, b⟩ I' v R
    | ro d => exact g.elim
    | bk d => exact g.elim
    | ct d => exact g.elim
  | exc c fs S' =>
    rw [e] at g
    exact ⟨g.1, fun W' C dx vs a b I' h1 h2 h3 => g.2 W' C dx vs ⟨a, b⟩ I' h1 h2 h3⟩
  | stuck => rw [e] at g; exact g
theorem body_simO (h : SimS Γ E t ms) (q : FnSpO Γ (mBodyO N n ms) vs H Q E) : t { nx := fun _ H' => Q .non H', rt := Q } (L2.start N vs) H := by
  obtain ⟨W, S, ds, rfl, I, r, g⟩ := q
  unfold mBodyO at g
  obtain ⟨_, g⟩ := ResG.ass g
  refine h (L2.start N vs) W W S (startEn N ds) _ I (.refl W) (start_ok r) ?_
  rw [M.bnd_app] at g
  cases e : ms (startEn N ds) S with
  | ok f S' =>
    rw [e] at g
    cases f with
    | nx en => exact g.elim
    | rt d => exact g.elim
    | ro d => exact fun W' p a b I' o z => g W' ⟨a, b⟩ I' p o z
    | bk d => exact g.elim
    | ct d => exact g.elim
  | exc c fs S' =>
    rw [e] at g
    exact ⟨g.1, fun W' C dx vs a b I' h1 h2 h3 => g.2 W' C dx vs ⟨a, b⟩ I' h1 h2 h3⟩
  | stuck => rw [e] at g; exact g
theorem fnspo_len {m : List D → M D} {n : Nat} (h : Ary n m) (vs : List V) (H : Hp) (Q : VK) (E : XK) (q : FnSpO Γ m vs H Q E) : vs.length = n := by
  obtain ⟨W, S, ds, _, _, r, g⟩ := q
  rw [r.length]
  by_cases z : ds.length = n
  · exact z
  · rw [h ds S z] at g; exact g.elim
end
section
variable {P : Program} {w : World} {K : PySem.W.Frag} {mg : Str → Option Value} {base : Heap} {k : Nat} {f : Addr} {x qual : Str} {params : Arguments} {body : List Stmt} {scope : Scope} {dvs : List V} {kws : List (Str × V)} {fd : FuncData} {N ps : List Str} {ms : En → M Fl}
/-- a def keeps its mirror's promise -/
theorem fn_body (F : FunD K x qual params body scope dvs kws f fd) (S : FnScope N ps scope)
    (hb : ∀ (cdv : Value) (A : Around) (outer : List PySem.Env) (s : Shared) (H : Hp) (E : XK), (bcx P w K mg base N qual scope f cdv A outer s H E).A.guards = some [] → Room k (bcx P w K mg base N qual scope f cdv A outer s H E).A →
      ∃ t, JSs (bcx P w K mg base N qual scope f cdv A outer s H E) E body t ms) : FnG P w K mg base (k + 1) f fd ps (FnSp ⟨P, w, K, mg⟩ (mBody N ps.length ms)) :=
  fnG_of F S (fun vs H Q E q => fnsp_len ary_body vs H Q E q) fun cdv A outer s H vs Q E hg hr q => by
    obtain ⟨t, j⟩ := hb cdv A outer s H E hg hr
    exact ⟨t, j.ps, body_sim j.sim q⟩
theorem fn_bodyO (F : FunD K x qual params body scope dvs kws f fd) (S : FnScope N ps scope)
    (hb : ∀ (cdv : Value) (A : Around) (outer : List PySem.Env) (s : Shared) (H : Hp) (E : XK), (bcx P w K mg base N qual scope f cdv A outer s H E).A.guards = some [] → Room k (bcx P w K mg base N qual scope f cdv A outer s H E).A →
      ∃ t, JSs (bcx P w K mg base N qual scope f cdv A outer s H E) E body t ms) : FnG P w K mg base (k + 1) f fd ps (FnSpO ⟨P, w, K, mg⟩ (mBodyO N ps.length ms)) :=
  fnG_of F S (fun vs H Q E q => fnspo_len ary_bodyO vs H Q E q) fun cdv A outer s H vs Q E hg hr q => by
    obtain ⟨t, j⟩ := hb cdv A outer s H E hg hr
    exact ⟨t, j.ps, body_simO j.sim q⟩
end
section
variable {X : Cx} {E : EK} {k : Nat} {f : Addr} {fd : FuncData} {ps ks : List Str} {x : Str} {p pos : Pos} {es : List Expr} {kws : List Keyword} {t tk : TA} {ix : List (Nat × Nat)} {dvs : List V} {g : List Value → List Value → List Value} {a mk : Nv → M (List D)}
theorem sim_callO {Γ : Gm} {m : List D → M D} {dds : List D} {n : Nat} (sa : SimA Γ E t a) (sk : SimA Γ E tk mk) (la : ∀ env S ds S', a env S = .ok ds S' → ds.length = n) (lk : ∀ env S ds S', mk env S = .ok ds S' → ds.length = ks.length)
    (hd : ∀ ρ F, RpL Γ.K ρ F dds dvs) : SimO Γ E (tCallG n ks.length (FnSpO Γ m) ix dvs E t tk) (mCallG m ix dds a mk) := fun σ W S env Q I N h =>
  sa σ W S env _ I N (h.bnd.impE fun ds S1 W1 e1 s1 I1 h1 vs rs => sk σ W1 S1 env _ I1 (N.mono s1.toAft) (h1.bnd.impE fun es S2 W2 e2 s2 I2 h2 zs rz =>
    ⟨⟨rs.length.trans (la _ _ _ _ e1), rz.length.trans (lk _ _ _ _ e2)⟩, W2, S2, _, rfl, I2, RpL.sel (RpL.mono s2.g _ _ rs) (hd _ _) rz ix, h2.imp fun d S3 W3 s3 I3 q p o hp => q p o (s1.dom p (s2.dom p hp))⟩))
theorem jo_call {m : List D → M D} {dds : List D} (F : FnG X.prog X.w X.K X.mg X.base k f fd ps (FnSpO (gm X) m)) (hgd : X.A.guards = some []) (hr : Room k X.A) (hm : X.mg x = some (.ref f)) (hk : PySem.W.keepIn X.K (.ref f) = true)
    (hb : KBn X.K fd ps es.length ks g (fun vs zs => sel ix vs dvs zs)) (hd : ∀ ρ F, RpL X.K ρ F dds dvs) (hx : ∀ σ, PassesAt (L2.CX X.prog X.w) X σ (E σ)) (c : JC X E es kws pos ks t tk a mk) (hg : Gl X x := by rfl)
    (hdb : (x == ("__debug__" : Str)) = false := by decide) : JO X E (.Call (.Name x p) es kws pos) (tCallG es.length ks.length (FnSpO (gm X) m) ix dvs E t tk) (mCallG m ix dds a mk) := by
  refine ⟨⟨fun pins s σ H Q I h => ?_⟩, sim_callO c.sa c.sk c.la c.lk hd⟩
  refine wpAny_Call_Name_kw (ld_glob I hg hm ?_ hdb)
  exact c.ca.run (.ref f) [] hk pins s σ H _ _ I h fun us ws vs zs s2 H2 I2 r rz ⟨⟨l1, l2⟩, q⟩ => run_G F hgd hr hb (hx σ) I2 r rz l1 l2 q
end
end Fw

namespace Fw
open PySem PySem.Spec PyProof.Rows L2

/-! ### the law's call behind the top -/
section
variable {P : Program} {w : World} {K : PySem.W.Frag} {mg mb : Str → Option Value} {k : Nat} {fa a : Addr} {fd : FuncData} {x : Str} {s₁ : Shared} {vs : List Value} {ns : List Int}
abbrev Fin1 (s₁ : Shared) (r : Result) (s' : Shared) : Prop := r = .ok (.ret (.bool true)) ∧ OldK s₁.heap s'.heap ∧ s'.os = s₁.os ∧ AllBare s'.gens
theorem world0 {Γ : Gm} {m : List D → M D} {H : Hp} (hO : Only H) (hS : SqL Γ.K H a (ns.map V.int)) (h : ∃ S', m [.scr ns] [] = .ok (.bl true) S') : FnSp Γ m [.ref a] H (fun v _ => v = .bl true) fun _ _ _ => False := by
  obtain ⟨S', e⟩ := h
  refine ⟨⟨[], H, H⟩, [], [.scr ns], rfl, ⟨fun _ _ h => h, fun b u h => ?_, rfl, List.nodup_nil, (fun b h => nomatch h), (fun n b o h _ => nomatch h)⟩, .cons ?_ .nil, ?_⟩
  · rcases hO b with z | ⟨o, xs, z⟩
    · have h : H b = some u := h
      rw [z] at h; cases h
    · have h : H b = some u := h
      rw [z] at h; cases h; trivial
  · simp only [Rp]
    rcases hS with hS | hS
    · rcases hS with hS | ⟨o, hS⟩
      · rcases hO a with z | ⟨o, xs, z⟩
        · rw [z] at hS; cases hS
        · rw [z] at hS; cases hS
      · exact ⟨a, o, rfl, .inl hS⟩
    · exact ⟨a, ob0, rfl, .inr (.inr hS)⟩
  · rw [e]
    exact fun W' _ _ v r => by simpa only [Rp] using r
theorem law_callG {m : List D → M D} (KX : K.In s₁.heap) (hns : s₁.heap.Ns mainGlobals mg) (hb : s₁.heap.Ns builtinsNs mb) (hbb : ∀ x : Str, x ≠ "__name__" → mb x = bootBuiltins x) (hlim : s₁.heap.NoLimit) (hg : s₁.gens = #[]) (ha : s₁.heap.get? a = some { cls := .type "list", data := .seq vs.toArray }) (hi : IntsAre vs ns)
    (hl : ns.length ≤ sizeLine) (hr : Room k callerA) (F : ∀ base : Heap, K.In base → base.Ns mainGlobals mg → FnG P w K mg base k fa fd [x] (FnSp ⟨P, w, K, mg⟩ m)) (hbind : ∀ (s : Shared) (u : Value), BindsTo s fd ⟨[u], []⟩ [(x, u)]) (hm : ∃ S', m [.scr ns] [] = .ok (.bl true) S') :
    codeAny (model P w) callerA (.call (.ref fa) ⟨[.ref a], []⟩) (Fin1 s₁) s₁ := by
  have rv := vals_ints hi; have lenV := hi.length
  have core : ∀ H : Hp, Only H → SqL K H a (ns.map V.int) → HOk P w H s₁.heap → (∀ b, H b ≠ none → b = a) → (H a ≠ none → K.lookup a = none) → codeAny (model P w) callerA (.call (.ref fa) ⟨[.ref a], []⟩) (Fin1 s₁) s₁ := by
    intro H hO hS hok hA hK
    have low : ∀ {b : Addr} {o : Obj}, s₁.heap.get? b = some o → H b = none → (hidT s₁.heap H).get? b = some o := fun e n => hidT_get e n
    have only : ∀ {b : Addr} {u : HO}, H b = some u → b = a := fun {b u} q => hA b (by rw [q]; exact fun z => nomatch z)
    have noD : ∀ {b : Addr} {o : Obj} {es : Array DictEntry} {ep : Nat}, s₁.heap.get? b = some o → o.data = .dict es ep → H b = none := fun {b o es ep} e d => by
      cases q : H b with
      | none => rfl
      | some u =>
        have eb := only q; subst eb; rw [ha] at e; cases e
        exact nomatch (show Data.seq vs.toArray _ = Data.dict es ep from d)
    have nsT : ∀ {b : Addr} {m : Str → Option Value}, s₁.heap.Ns b m → (hidT s₁.heap H).Ns b m := fun {b m} ⟨o, es, ep, e, d, r⟩ => ⟨o, es, ep, low e (noD e d), d, r⟩
    have hKb : K.In (hidT s₁.heap H) := fun b o e => low (KX b o e) (by
      cases q : H b with
      | none => rfl
      | some u => have eb := only q; subst eb; rw [hK (by rw [q]; exact fun z => nomatch z)] at e; cases e)
    have e0 : Env0 P w K mg (hidT s₁.heap H) callerA [] s₁ H := ⟨rfl, ⟨hKb, nsT hns, ⟨mb, nsT hb, hbb⟩, let ⟨mc, h1, h2⟩ := hlim; ⟨mc, nsT h1, h2⟩⟩, fun b o e => of_hidT e, Nat.le_of_eq (hidT_size _ _), trivial, fun b hb => absurd (show b ∈ ([] : List Addr) from hb) (by simp), hok, .of_eq hg⟩
    refine codeAny_mono ((F _ hKb (nsT hns)).run callerA [] s₁ H ⟨[.ref a], []⟩ [.ref a] [.ref a] _ _ rfl hr e0 (hbind s₁ (.ref a)) (.cons rfl .nil) (world0 hO hS hm)) fun r s' h => ?_
    match r, h with
    | .error e, h =>
      obtain ⟨_, _, _, _, _, _, _, _, _, _, _, _, z⟩ := h
      exact z.elim
    | .ok (.ret u), h =>
      obtain ⟨v, H', os, bare, un, hok', r', q⟩ := h
      have q' : v = .bl true := q
      subst q'
      obtain rfl : u = Value.bool true := r'
      refine ⟨rfl, OldK.of_keep fun b o e => ?_, os, bare⟩
      cases q : H b with
      | none => exact un.keep b o e q (fun z => nomatch (show b ∈ ([] : List Addr) from z)) (by simp)
      | some u =>
        rcases hO b with z | ⟨ob, xs, z⟩
        · rw [q] at z; cases z
        · obtain ⟨e1, _⟩ := hok b _ z; obtain ⟨e2, _⟩ := hok' b _ (un.frzs b ob _ z)
          rw [e] at e1; cases e1; exact e2
  cases hk : K.lookup a with
  | some o =>
    have e := KX a o hk; rw [ha] at e; cases e
    exact core (fun _ => none) (fun _ => .inl rfl) (.inr ⟨_, vs.toArray, _, hk, rfl, rfl, rfl, by rw [List.size_toArray, lenV]; exact hl, by simpa using rv⟩) (fun b u z => nomatch (show (none : Option HO) = some u from z)) (fun b z => absurd rfl z) fun z => absurd rfl z
  | none =>
    refine core (upd (fun _ => none) a (.frz { cls := .type "list", data := .seq vs.toArray } (.lst (ns.map V.int)))) (fun b => ?_) (.inl (.inr ⟨_, upd_same⟩)) (fun b u z => ?_) (fun b z => ?_) fun _ => hk
    · by_cases hb : b = a
      · subst hb; exact .inr ⟨_, _, upd_same⟩
      · exact .inl (upd_ne hb)
    · rcases upd_cases z with ⟨rfl, rfl⟩ | ⟨_, z⟩
      · exact ⟨ha, by rw [List.length_map]; exact hl, vs, _, rv, ha⟩
      · cases z
    · by_cases hb : b = a
      · exact hb
      · exact absurd (upd_ne hb) z
end
theorem walk_ofG {l : PySem.W.OpenLaw} {n k : Nat} {q : Program} {loose : List Str} {XP : (Str → Option Value) → Heap → Prop} {YP : World → Heap → Prop} {d : DefRec} {x : Str} {m : List D → M D} (hn : l.most = some n) (hn2 : n ≤ sizeLine) (hdf : d.params.defaults = []) (hr : Room k callerA)
    (F : ∀ (w : World) (mg : Str → Option Value) (fa : Addr) (h : Heap), YP w h → h.Ns mainGlobals mg → mg d.name = some (.ref fa) → ∃ (K : PySem.W.Frag) (fd : FuncData), K.In h ∧ (∀ (s : Shared) (u : Value), BindsTo s fd ⟨[u], []⟩ [(x, u)]) ∧
      ∀ base : Heap, K.In base → base.Ns mainGlobals mg → FnG l.prog w K mg base k fa fd [x] (FnSp ⟨l.prog, w, K, mg⟩ m))
    (hm : ∀ ns : List Int, ns.length ≤ n → ∃ S', m [.scr ns] [] = .ok (.bl true) S') : PySem.W.WalkO q loose XP YP l.row.toRowW d [] (fun f vs => PySem.call f vs) := by
  refine Att.attach_call hn hdf fun w s₀ s₁ mg mb fa o pm cd doc a vs ns G Y ho hd hcd hmg hobj hints hlen hg => ?_
  obtain ⟨K, fd, KX, hb, hF⟩ := F w mg fa _ Y G.T.g hmg
  exact law_callG KX G.T.g G.T.b G.T.builtins G.T.nolimit hg hobj hints (Nat.le_trans hlen hn2) hr hF hb (hm ns hlen)
end Fw

namespace Fw
open PySem PySem.Spec PyProof.Rows L2

/-! ### defs by name -/
def mth (st : Stmt) (j : Nat) : Stmt := match st with
  | .ClassDef _ _ _ body _ _ _ _ _ _ _ => body.getD j (.Pass ⟨0, 0, 0, 0⟩)
  | _ => .Pass ⟨0, 0, 0, 0⟩
section
variable {K : PySem.W.Frag} {x qual : Str} {params : Arguments} {body : List Stmt} {scope : Scope} {dvs : List V} {kws : List (Str × V)} {f : Addr} {fd : FuncData} {ps : List Str}
theorem kbn0 (F : FunD K x qual params body scope [] [] f fd) (n : Nat) (ks : List Str) (ix : List (Nat × Nat))
    (h : ∀ (kV doc pm : Value) (an : Option Addr) (cdv ct : Value) (us ws : List Value), us.length = n → ws.length = ks.length → bindArgs (PySem.W.fnOf x qual params body scope .none kV doc pm an cdv ct) ⟨us, ks.zip ws⟩ = pure (ps.zip (Fw.sel ix us [] ws))) :
    KBn K fd ps n ks (fun us ws => Fw.sel ix us [] ws) (fun vs zs => Fw.sel ix vs [] zs) := by
  obtain ⟨oc, od, dV, kV, doc, pm, an, cdv, ct, osl, rfl, lk, hcd, hD, hK⟩ := F.ex
  rcases hD with ⟨_, rfl⟩ | ⟨e, _⟩
  · exact ⟨fun s us ws X l1 l2 => .of_eq (h kV doc pm an cdv ct us ws l1 l2), fun r1 r2 => Vals.sel r1 .nil r2 ix⟩
  · exact absurd rfl e
/-- keyword-only defaults: ms lack -/
theorem kbnK (F : FunD K x qual params body scope [] kws f fd) (n : Nat) (ks : List Str) (ms : List (Str × V)) (ix : List (Nat × Nat)) (hk : kws ≠ []) (hms : ∀ q ∈ ms, q ∈ kws)
    (h : ∀ (D : Addr) (doc pm : Value) (an : Option Addr) (cdv ct : Value) (us mv ws : List Value), us.length = n → mv.length = ms.length → ws.length = ks.length →
      KwChain D ((ms.map (·.1)).zip mv) (bindArgs (PySem.W.fnOf x qual params body scope .none (.ref D) doc pm an cdv ct) ⟨us, ks.zip ws⟩) (ps.zip (Fw.sel ix us mv ws))) :
    ∃ mv : List Value, KBn K fd ps n ks (fun us ws => Fw.sel ix us mv ws) (fun vs zs => Fw.sel ix vs (ms.map (·.2)) zs) :=
  F.kbinds0 n ks ms (fun a b c => Fw.sel ix a b c) hk hms (fun a b c => Vals.sel a b c ix) h
end
/-- where a def stands, its arguments, what its mirror promises -/
structure CalG (P : Program) (w : World) (K : PySem.W.Frag) (mg : Str → Option Value) (base : Heap) (k : Nat) (x : Str) (st : Stmt) (dfl : List (Str × V)) (ps : List Str) (sp : Sp) : Prop where
  ex : ∃ fd, FunD K x x (defArgs st) (defBody st) (defScope st) [] dfl (He.ga K x) fd ∧ FnG P w K mg base k (He.ga K x) fd ps sp
  hm : mg x = some (.ref (He.ga K x))
/-- a method -/
structure MetG (P : Program) (w : World) (K : PySem.W.Frag) (mg : Str → Option Value) (base : Heap) (k : Nat) (c x qual : Str) (st : Stmt) (dfl : List (Str × V)) (ps : List Str) (sp : Sp) : Prop where
  ex : ∃ fd, FunD K x qual (defArgs st) (defBody st) (defScope st) [] dfl (He.ma K (He.ga K c) x) fd ∧ FnG P w K mg base k (He.ma K (He.ga K c) x) fd ps sp
  hm : mg c = some (.ref (He.ga K c))
  mt : Meth K (He.ga K c) x (He.ma K (He.ga K c) x)
  cl : Cls K (He.ga K c)
abbrev Bnd0 (x qual : Str) (st : Stmt) (ps : List Str) (n : Nat) (ks : List Str) (ix : List (Nat × Nat)) : Prop := ∀ (kV doc pm : Value) (an : Option Addr) (cdv ct : Value) (us ws : List Value), us.length = n → ws.length = ks.length →
  bindArgs (PySem.W.fnOf x qual (defArgs st) (defBody st) (defScope st) .none kV doc pm an cdv ct) ⟨us, ks.zip ws⟩ = pure (ps.zip (Fw.sel ix us [] ws))
abbrev BndK (x qual : Str) (st : Stmt) (ps : List Str) (n : Nat) (ks : List Str) (ms : List (Str × V)) (ix : List (Nat × Nat)) : Prop := ∀ (D : Addr) (doc pm : Value) (an : Option Addr) (cdv ct : Value) (us mv ws : List Value), us.length = n → mv.length = ms.length → ws.length = ks.length →
  KwChain D ((ms.map (·.1)).zip mv) (bindArgs (PySem.W.fnOf x qual (defArgs st) (defBody st) (defScope st) .none (.ref D) doc pm an cdv ct) ⟨us, ks.zip ws⟩) (ps.zip (Fw.sel ix us mv ws))
section
variable {X : Cx} {E : EK} {j k : Nat} {x c nm qual : Str} {st : Stmt} {dfl ms : List (Str × V)} {ps ks : List Str} {p apos pos : Pos} {o : Expr} {es : List Expr} {kws : List Keyword} {to : TE} {t tk : TA} {ix : List (Nat × Nat)} {mo : Nv → M D} {a mk : Nv → M (List D)} {m : List D → M D} {dds : List D}
theorem je_c (F : CalG X.prog X.w X.K X.mg X.base k x st [] ps (FnSp (gm X) m)) (hk : k ≤ j) (hgd : X.A.guards = some []) (hr : Room j X.A) (hb : Bnd0 x x st ps es.length ks ix) (hx : ∀ σ, PassesAt (L2.CX X.prog X.w) X σ (E σ)) (cc : JC X E es kws pos ks t tk a mk) (hg : Gl X x := by rfl)
    (hdb : (x == ("__debug__" : Str)) = false := by decide) : JE X E (.Call (.Name x p) es kws pos) (tCallG es.length ks.length (FnSp (gm X) m) ix [] E t tk) (mCallG m ix [] a mk) := by
  obtain ⟨fd, D, G⟩ := F.ex
  exact je_call G hgd (hr.mono hk) F.hm D.kp (kbn0 D _ _ ix hb) (fun _ _ => .nil) hx cc hg hdb
theorem jo_c (F : CalG X.prog X.w X.K X.mg X.base k x st [] ps (FnSpO (gm X) m)) (hk : k ≤ j) (hgd : X.A.guards = some []) (hr : Room j X.A) (hb : Bnd0 x x st ps es.length ks ix) (hx : ∀ σ, PassesAt (L2.CX X.prog X.w) X σ (E σ)) (cc : JC X E es kws pos ks t tk a mk) (hg : Gl X x := by rfl)
    (hdb : (x == ("__debug__" : Str)) = false := by decide) : JO X E (.Call (.Name x p) es kws pos) (tCallG es.length ks.length (FnSpO (gm X) m) ix [] E t tk) (mCallG m ix [] a mk) := by
  obtain ⟨fd, D, G⟩ := F.ex
  exact jo_call G hgd (hr.mono hk) F.hm D.kp (kbn0 D _ _ ix hb) (fun _ _ => .nil) hx cc hg hdb
theorem je_m {pl : Sem Bool} (F : MetG X.prog X.w X.K X.mg X.base k c nm qual st [] ps (FnSp (gm X) m)) (hk : k ≤ j) (hgd : X.A.guards = some []) (hr : Room j X.A) (hb : Bnd0 nm qual st ps (es.length + 1) ks ix) (hx : ∀ σ, PassesAt (L2.CX X.prog X.w) X σ (E σ)) (ho : JE X E o to mo)
    (cc : JC X E es kws pos ks t tk a mk) (ht : eval (.Call (.Attribute o nm apos) es kws pos) X.env = (do
      let ov ← eval o X.env
      standAt apos.atName
      let (f, first) ← holding [ov] (getMethod ov nm pl)
      callWith pos f first (backTo pos (starEach es X.env)) (backToKw pos (keywordEach kws X.env))) := by rfl) :
    JE X E (.Call (.Attribute o nm apos) es kws pos) (tMethG (He.ga X.K c) nm es.length ks.length (FnSp (gm X) m) ix [] E to t tk) (mMeth c nm m ix [] mo a mk) := by
  obtain ⟨fd, D, G⟩ := F.ex
  exact je_meth F.cl F.mt G hgd (hr.mono hk) F.hm (kbn0 D _ _ ix hb) (fun _ _ => .nil) hx ho cc ht
theorem je_k (F : MetG X.prog X.w X.K X.mg X.base k c "__init__" qual st [] ps (FnSp (gm X) m)) (M : Mk X.K (He.ga X.K c) (He.ma X.K (He.ga X.K c) "__init__")) (hk : k + 1 ≤ j) (hgd : X.A.guards = some []) (hr : Room j X.A) (hb : Bnd0 "__init__" qual st ps (es.length + 1) ks ix)
    (hx : ∀ σ, PassesAt (L2.CX X.prog X.w) X σ (E σ)) (cc : JC X E es kws pos ks t tk a mk) (hg : Gl X c := by rfl) (hdb : (c == ("__debug__" : Str)) = false := by decide) :
    JE X E (.Call (.Name c p) es kws pos) (tMakeG (He.ga X.K c) es.length ks.length (FnSp (gm X) m) ix [] E t tk) (mMake c m ix [] a mk) := by
  obtain ⟨fd, D, G⟩ := F.ex
  exact je_make M G hgd (hr.mono hk) F.hm (kbn0 D _ _ ix hb) (fun _ _ => .nil) hx cc hg hdb
/-- with keyword-only defaults -/
theorem je_kK (F : MetG X.prog X.w X.K X.mg X.base k c "__init__" qual st dfl ps (FnSp (gm X) m)) (M : Mk X.K (He.ga X.K c) (He.ma X.K (He.ga X.K c) "__init__")) (hk : k + 1 ≤ j) (hgd : X.A.guards = some []) (hr : Room j X.A) (hkw : dfl ≠ []) (hms : ∀ q ∈ ms, q ∈ dfl)
    (hb : BndK "__init__" qual st ps (es.length + 1) ks ms ix) (hd : ∀ ρ F, RpL X.K ρ F dds (ms.map (·.2))) (hx : ∀ σ, PassesAt (L2.CX X.prog X.w) X σ (E σ)) (cc : JC X E es kws pos ks t tk a mk) (hg : Gl X c := by rfl) (hdb : (c == ("__debug__" : Str)) = false := by decide) :
    JE X E (.Call (.Name c p) es kws pos) (tMakeG (He.ga X.K c) es.length ks.length (FnSp (gm X) m) ix (ms.map (·.2)) E t tk) (mMake c m ix dds a mk) := by
  obtain ⟨fd, D, G⟩ := F.ex
  obtain ⟨mv, kb⟩ := kbnK D (es.length + 1) ks ms ix hkw hms hb
  exact je_make M G hgd (hr.mono hk) F.hm kb hd hx cc hg hdb
theorem h0 (X : Cx) (σ : L2.St) : PassesAt (L2.CX X.prog X.w) X σ E0 := fun pins H s e s' I h => passL pins σ H s e s' I h
theorem u1 {A : Around} (h : Room j A) : A.units + 1 < cLine := by have := h.un; omega
theorem u65 {A : Around} (h : Room j A) : A.units + 65 < cLine := by have := h.un; omega
theorem u100 {A : Around} (h : Room j A) : A.units + 100 < cLine := by have := h.un; omega
end
section
variable {P : Program} {w : World} {K : PySem.W.Frag} {mg : Str → Option Value} {base : Heap} {N : List Str} {qual : Str} {scope : Scope} {f : Addr} {cdv : Value} {A : Around} {outer : List PySem.Env} {s : Shared} {H : Hp} {E : XK}
theorem bhx (σ : L2.St) : PassesAt (L2.CX P w) (bcx P w K mg base N qual scope f cdv A outer s H E) σ E := passAt (X := bcx P w K mg base N qual scope f cdv A outer s H E) (takes_of rfl rfl rfl rfl) σ
theorem bhp : PassesOwn (model P w) (bcx P w K mg base N qual scope f cdv A outer s H E).A (bcx P w K mg base N qual scope f cdv A outer s H E).env (bcx P w K mg base N qual scope f cdv A outer s H E).xe := passes_of (X := bcx P w K mg base N qual scope f cdv A outer s H E) rfl
end
section
variable {P : Program} {w : World} {K : PySem.W.Frag} {mg : Str → Option Value} {base : Heap} {k : Nat} {x c qual : Str} {st : Stmt} {dfl : List (Str × V)} {N ps : List Str} {ms : En → M Fl}
abbrev BodyOk (P : Program) (w : World) (K : PySem.W.Frag) (mg : Str → Option Value) (base : Heap) (N : List Str) (qual : Str) (st : Stmt) (f : Addr) (k : Nat) (ms : En → M Fl) : Prop := ∀ (cdv : Value) (A : Around) (outer : List PySem.Env) (s : Shared) (H : Hp) (E : XK), (bcx P w K mg base N qual (defScope st) f cdv A outer s H E).A.guards = some [] →
  Room k (bcx P w K mg base N qual (defScope st) f cdv A outer s H E).A → ∃ t, JSs (bcx P w K mg base N qual (defScope st) f cdv A outer s H E) E (defBody st) t ms
theorem cal_of (D : ∃ fd, FunD K x x (defArgs st) (defBody st) (defScope st) [] dfl (He.ga K x) fd) (hm : mg x = some (.ref (He.ga K x))) (S : FnScope N ps (defScope st)) (hb : BodyOk P w K mg base N x st (He.ga K x) k ms) : CalG P w K mg base (k + 1) x st dfl ps (FnSp ⟨P, w, K, mg⟩ (mBody N ps.length ms)) := by
  obtain ⟨fd, D⟩ := D
  exact ⟨⟨fd, D, fn_body D S hb⟩, hm⟩
theorem cal_ofO (D : ∃ fd, FunD K x x (defArgs st) (defBody st) (defScope st) [] dfl (He.ga K x) fd) (hm : mg x = some (.ref (He.ga K x))) (S : FnScope N ps (defScope st)) (hb : BodyOk P w K mg base N x st (He.ga K x) k ms) : CalG P w K mg base (k + 1) x st dfl ps (FnSpO ⟨P, w, K, mg⟩ (mBodyO N ps.length ms)) := by
  obtain ⟨fd, D⟩ := D
  exact ⟨⟨fd, D, fn_bodyO D S hb⟩, hm⟩
theorem met_of (D : ∃ fd, FunD K x qual (defArgs st) (defBody st) (defScope st) [] dfl (He.ma K (He.ga K c) x) fd) (hm : mg c = some (.ref (He.ga K c))) (mt : Meth K (He.ga K c) x (He.ma K (He.ga K c) x)) (cl : Cls K (He.ga K c)) (S : FnScope N ps (defScope st))
    (hb : BodyOk P w K mg base N qual st (He.ma K (He.ga K c) x) k ms) : MetG P w K mg base (k + 1) c x qual st dfl ps (FnSp ⟨P, w, K, mg⟩ (mBody N ps.length ms)) := by
  obtain ⟨fd, D⟩ := D
  exact ⟨⟨fd, D, fn_body D S hb⟩, hm, mt, cl⟩
end
/-! short forms -/
section
variable {X : Cx} {E : EK} {e : Expr} {te : TE} {me : Nv → M D} {b : Expr} {tb : TE} {mb : Nv → M D} {pos : Pos} {j : Nat}
theorem je_ixS (hu : X.A.units + 1 < cLine) (ha : JE X E e te me) (hb : JE X E b tb mb) (hs : PlainIx b := by exact fun _ _ => rfl) : JE X E (.Subscript e b pos) (tOp (rIxAny X.K) te tb) (mOp oIxS me mb) := ⟨pe_ix (ix_any hu) ha.pe hb.pe hs, sim_op sim_ixS ha.sim hb.sim⟩
end
end Fw

namespace Fw
open PySem PySem.Spec PyProof.Rows L2

theorem JAl.ja {X : Cx} {E : EK} {es : List Expr} {t : TA} {m : Nv → M (List D)} (h : JAl X E es t m) : JA X E es t m := ⟨h.pa, h.sim⟩
theorem u64 {j : Nat} {A : Around} (h : Room j A) : A.units + 64 < cLine := by have := h.un; omega
section
variable {P : Program} {w : World} {K : PySem.W.Frag} {mg : Str → Option Value} {base : Heap} {k : Nat} {x : Str} {st : Stmt} {dfl : List (Str × V)} {ps : List Str}
theorem cal_stk (D : ∃ fd, FunD K x x (defArgs st) (defBody st) (defScope st) [] dfl (He.ga K x) fd) (hm : mg x = some (.ref (He.ga K x))) : CalG P w K mg base k x st dfl ps (FnSp ⟨P, w, K, mg⟩ fun _ => M.stk) := by
  obtain ⟨fd, D⟩ := D
  exact ⟨⟨fd, D, ⟨fun vs H Q E q => by obtain ⟨W, S, ds, _, _, _, g⟩ := q; exact g.elim, fun A outer s H args us vs Q E _ _ _ _ _ q => by obtain ⟨W, S, ds, _, _, _, g⟩ := q; exact g.elim⟩⟩, hm⟩
end
/-! x += e of ints -/
def oAddI : D → D → M D
  | .int i, .int j => M.ret (.int (i + j))
  | _, _ => M.stk
theorem sim_ipAdd {Γ : Gm} : OpSim Γ (ipI fun i j => i + j) oAddI := by
  intro E W S x y dx dy Q I rx ry h
  unfold oAddI at h
  split at h
  · simp only [Rp] at rx ry; subst rx ry
    exact ⟨_, _, rfl, rfl, h.ret I _ rp_int⟩
  · exact h.elim
/-! e.f += v of ints -/
def fldAug (c f : Str) (d y : D) : M D := M.bnd (soOf d) fun p => match p.2 with
  | .ins c' fs => M.bnd (M.opt (fs.lookup f)) fun x => M.bnd (oAddI x y) fun z => M.bnd (M.ass (decide (c' = c) && decide (fs.length < 1000))) fun _ => M.bnd (sPut p.1 (.ins c' (putD f z fs))) fun _ => M.ret .non
  | _ => M.stk
end Fw

namespace Fw
open PySem PySem.Spec PyProof.Rows L2

/-! ### the maths: results, stores -/
def Gv {α : Type} (m : M α) (S : Sto) (P : α → Sto → Prop) : Prop := match m S with
  | .ok a S' => P a S'
  | _ => False
section
variable {α β : Type} {S : Sto}
theorem Gv.ret {a : α} {P : α → Sto → Prop} (h : P a S) : Gv (M.ret a) S P := h
theorem Gv.bnd {m : M α} {f : α → M β} {P : β → Sto → Prop} (h : Gv m S fun a S' => Gv (f a) S' P) : Gv (M.bnd m f) S P := by
  unfold Gv M.bnd at *
  cases e : m S with
  | ok a S' => rw [e] at h; exact h
  | exc c fs S' => rw [e] at h; exact h.elim
  | stuck => rw [e] at h; exact h.elim
theorem Gv.mono {m : M α} {P Q : α → Sto → Prop} (h : Gv m S P) (q : ∀ a S', P a S' → Q a S') : Gv m S Q := by
  unfold Gv at *
  cases e : m S with
  | ok a S' => rw [e] at h; exact q _ _ h
  | exc c fs S' => rw [e] at h; exact h.elim
  | stuck => rw [e] at h; exact h.elim
theorem Gv.calm {m : M α} {P : α → Sto → Prop} (h : Gv m S P) : Gv (M.calm m) S P := by
  unfold Gv M.calm at *
  cases e : m S with
  | ok a S' => rw [e] at h; exact h
  | exc c fs S' => rw [e] at h; exact h.elim
  | stuck => rw [e] at h; exact h.elim
theorem Gv.get {m : M α} {P : α → Sto → Prop} (h : Gv m S P) : ∃ a S', m S = .ok a S' ∧ P a S' := by
  unfold Gv at h
  cases e : m S with
  | ok a S' => rw [e] at h; exact ⟨a, S', rfl, h⟩
  | exc c fs S' => rw [e] at h; exact h.elim
  | stuck => rw [e] at h; exact h.elim
theorem Gv.of_eq {m : M α} {a : α} {P : α → Sto → Prop} (e : m = M.ret a) (h : P a S) : Gv m S P := by rw [e]; exact h
theorem Gv.seq {m : M α} {a : α} {f : α → M β} {P : β → Sto → Prop} (e : m = M.ret a) (h : Gv (f a) S P) : Gv (M.bnd m f) S P := by rw [e]; exact h
end
theorem ass_tt {b : Bool} (h : b = true) : M.ass b = M.ret () := by rw [h]; rfl
/-! ### comprehensions, loops over listed data -/
theorem comp_map {α : Type} (enc : α → D) {tg : D → Nv → Option Nv} {t : Nv → M Bool} {e : Nv → M D} {env : Nv} {p : α → Bool} {f : α → D} {env' : α → Nv} : ∀ (xs : List α), (∀ x ∈ xs, tg (enc x) env = some (env' x)) → (∀ x ∈ xs, t (env' x) = M.ret (p x)) → (∀ x ∈ xs, p x = true → e (env' x) = M.ret (f x)) →
    compM tg t e env (xs.map enc) = M.ret ((xs.filter p).map f)
  | [], _, _, _ => rfl
  | x :: xs, h1, h2, h3 => by
    have ih := comp_map enc (tg := tg) (t := t) (e := e) (env := env) (p := p) (f := f) (env' := env') xs (fun y hy => h1 y (List.mem_cons_of_mem _ hy)) (fun y hy => h2 y (List.mem_cons_of_mem _ hy)) (fun y hy => h3 y (List.mem_cons_of_mem _ hy))
    rw [List.map_cons]
    simp only [compM]
    rw [h1 x List.mem_cons_self, M.opt_some, M.ret_bnd, h2 x List.mem_cons_self, M.ret_bnd]
    cases hp : p x with
    | true =>
      rw [if_pos rfl, h3 x List.mem_cons_self hp, M.ret_bnd, ih, M.ret_bnd, List.filter_cons_of_pos hp, List.map_cons]
    | false =>
      rw [if_neg Bool.false_ne_true, ih, List.filter_cons_of_neg (by rw [hp]; exact Bool.false_ne_true)]
theorem small_le {n : Nat} (h : n ≤ 16777216) : Fw.small n = M.ret () := ass_tt (decide_eq_true (by rw [sizeLine_eq]; exact h))
/-- [f(x) for x in xs if p(x)] -/
theorem lc_map {α : Type} (enc : α → D) {mi : Nv → M (List D)} {tg : D → Nv → Option Nv} {t : Nv → M Bool} {e : Nv → M D} {vs : List Nat} {env : Nv} {p : α → Bool} {f : α → D} (env' : α → Nv) (xs : List α) (hi : mi env = M.ret (xs.map enc)) (hl : xs.length ≤ 16777216)
    (h1 : ∀ x ∈ xs, tg (enc x) (wipeN env vs) = some (env' x)) (h2 : ∀ x ∈ xs, t (env' x) = M.ret (p x)) (h3 : ∀ x ∈ xs, p x = true → e (env' x) = M.ret (f x)) : mLc mi tg t e vs env = M.ret (.lst ((xs.filter p).map f)) := by
  unfold mLc
  rw [hi, M.ret_bnd, List.length_map, small_le hl, M.ret_bnd, comp_map enc xs h1 h2 h3]
  rfl
theorem lc_map1 {α : Type} (enc : α → D) {mi : Nv → M (List D)} {tg : D → Nv → Option Nv} {e : Nv → M D} {vs : List Nat} {env : Nv} {f : α → D} (env' : α → Nv) (xs : List α) (hi : mi env = M.ret (xs.map enc)) (hl : xs.length ≤ 16777216)
    (h1 : ∀ x ∈ xs, tg (enc x) (wipeN env vs) = some (env' x)) (h3 : ∀ x ∈ xs, e (env' x) = M.ret (f x)) : mLc mi tg mYes e vs env = M.ret (.lst (xs.map f)) := by
  have q := lc_map (t := mYes) (p := fun _ => true) (f := f) enc env' xs hi hl h1 (fun _ _ => rfl) (fun x hx _ => h3 x hx)
  rw [q, List.filter_eq_self.mpr (fun _ _ => rfl)]
/-! ### small data -/
def litOk (s : Str) : Bool := PyData.strOk s && decide ((reprText s).length ≤ 40)
def D.sm : Nat → D → Bool
  | _, .non => true
  | _, .bl _ => true
  | _, .int i => decide (i.natAbs < 10 ^ 30)
  | _, .str s => litOk s
  | n + 1, .lst ds => decide (ds.length ≤ 24) && ds.all (D.sm n)
  | n + 1, .tup ds => decide (ds.length ≤ 24) && ds.all (D.sm n)
  | _, _ => false
def txMax : Nat → Nat
  | 0 => 40
  | n + 1 => 24 * (txMax n + 2) + 2
theorem piled_le : ∀ {ts : List Str} {k : Nat}, (∀ t ∈ ts, t.length ≤ k) → piled ts ≤ ts.length * (k + 2)
  | [], k, _ => Nat.zero_le _
  | t :: ts, k, h => by
    have h1 := h t List.mem_cons_self
    have ih := piled_le (ts := ts) (k := k) fun u hu => h u (List.mem_cons_of_mem _ hu)
    rw [piled_cons, List.length_cons, Nat.add_mul]
    omega
theorem lstText_le : ∀ ts : List Str, (listText ts).length ≤ piled ts + 2
  | [] => by rw [listText_nil]; exact Nat.le_add_left _ _
  | t :: r => by
    have h := textFrom_length_pos r 1 (("[" : Str) ++ (if (0 : Nat) > 0 then ", " else "" : String) ++ t) (Nat.succ_pos 0)
    have e : ((("[" : Str) ++ (if (0 : Nat) > 0 then ", " else "" : String) ++ t)).length = 1 + t.length := by rw [strLen_append, strLen_append]; rfl
    have hX : (listText (t :: r)).length = (textFrom 1 (("[" : Str) ++ (if (0 : Nat) > 0 then ", " else "" : String) ++ t) r).length + 1 := by
      show (textFrom 0 "[" (t :: r) ++ "]").length = _
      rw [strLen_append]; rfl
    rw [hX, h, e, piled_cons]; omega
theorem tupText_le (ts : List Str) : (tupleText ts).length ≤ piled ts + 2 := by
  unfold tupleText
  rw [strLen_append, strLen_append]
  have e1 : ((("(" : String) : Str)).length = 1 := rfl
  have e3 : (((if ts.length == 1 then ",)" else ")" : String) : Str)).length ≤ 2 := by split <;> decide
  have e2 : (Str.join ", " ts).length ≤ piled ts - 1 ∨ ts = [] := by
    by_cases h : ts = []
    · exact .inr h
    · have := join_length_add ts h
      exact .inl (by omega)
  rcases e2 with h | h
  · by_cases h0 : ts = []
    · subst h0
      have : (Str.join ", " []).length = 0 := rfl
      have : (((if ([] : List Str).length == 1 then ",)" else ")" : String) : Str)).length = 1 := by decide
      rw [e1]; omega
    · have := join_length_add ts h0
      rw [e1]; omega
  · subst h
    have h1 : (Str.join ", " []).length = 0 := rfl
    have h2 : (((if ([] : List Str).length == 1 then ",)" else ")" : String) : Str)).length = 1 := by decide
    rw [e1, h1, h2]; omega
structure PyOk (n : Nat) (p : PyData) : Prop where
  lay : p.canLay0 = true
  dep : p.depth ≤ n
  sho : p.showable = true
  len : p.shown.length ≤ txMax n
structure PyOks (n : Nat) (ps : List PyData) : Prop where
  lay : PyData.canLayAll0 ps = true
  dep : PyData.depthAll ps ≤ n
  sho : PyData.showableAll ps = true
  len : ∀ t ∈ PyData.shownAll ps, t.length ≤ txMax n
theorem shownAll_len : ∀ ps : List PyData, (PyData.shownAll ps).length = ps.length
  | [] => rfl
  | p :: ps => by simp only [PyData.shownAll, List.length_cons, shownAll_len ps]
theorem txMax_pos : ∀ n, 40 ≤ txMax n
  | 0 => Nat.le_refl _
  | n + 1 => by have := txMax_pos n; simp only [txMax]; omega
theorem int_tx {i : Int} (h : i.natAbs < 10 ^ 30) : (Str.ofString (toString i)).length ≤ 40 := by
  have h1 := int_text_length_le10 (by decide : 0 < 30) h
  have h2 : (Str.ofString (toString i)).length = (toString i).length := by
    exact PySem.ofString_length _
  omega
theorem int_log {i : Int} (h : i.natAbs < 10 ^ 30) : i.natAbs.log2 < 1920 := by
  by_cases h0 : i.natAbs = 0
  · rw [h0]; decide
  · refine (Nat.log2_lt h0).mpr (Nat.lt_of_lt_of_le h ?_)
    exact Nat.le_trans (by decide : (10 : Nat) ^ 30 ≤ 2 ^ 100) (Nat.pow_le_pow_right (by decide) (by decide))
mutual
theorem sm_py : ∀ (n : Nat) (d : D), d.sm n = true → ∃ p, d.py = some p ∧ PyOk n p
  | n, .non, _ => ⟨.none, by simp only [D.py], by simp only [PyData.canLay0], by simp [PyData.depth], by simp only [PyData.showable], Nat.le_trans (by simp only [PyData.shown]; decide) (txMax_pos n)⟩
  | n, .bl b, _ => ⟨.bool b, by simp only [D.py], by simp only [PyData.canLay0], by simp [PyData.depth], by simp only [PyData.showable], Nat.le_trans (by simp only [PyData.shown]; cases b <;> decide) (txMax_pos n)⟩
  | n, .int i, h => by
    have h : i.natAbs < 10 ^ 30 := by cases n <;> simpa [D.sm] using h
    exact ⟨.int i, by simp only [D.py], by simp only [PyData.canLay0], by simp [PyData.depth], by simp only [PyData.showable]; exact decide_eq_true (int_log h), Nat.le_trans (by simp only [PyData.shown]; exact int_tx h) (txMax_pos n)⟩
  | n, .str s, h => by
    have h : litOk s = true := by cases n <;> simpa [D.sm] using h
    obtain ⟨h1, h2⟩ := Bool.and_eq_true_iff.mp h
    exact ⟨.str s, by simp only [D.py], by simp only [PyData.canLay0]; exact h1, by simp [PyData.depth], by simp only [PyData.showable], Nat.le_trans (by simp only [PyData.shown]; exact of_decide_eq_true h2) (txMax_pos n)⟩
  | 0, .lst ds, h => by simp [D.sm] at h
  | 0, .tup ds, h => by simp [D.sm] at h
  | n + 1, .lst ds, h => by
    simp only [D.sm, Bool.and_eq_true, decide_eq_true_eq] at h
    obtain ⟨ps, e, l, o⟩ := sm_pys n ds h.2
    refine ⟨.list ps, by simp only [D.py, e, Option.map_some], by simp only [PyData.canLay0]; exact o.lay, by simp only [PyData.depth]; have := o.dep; omega, by simp only [PyData.showable]; exact o.sho, ?_⟩
    simp only [PyData.shown]
    have h1 := lstText_le (PyData.shownAll ps)
    have h2 := piled_le o.len
    rw [shownAll_len, l] at h2
    have h3 : ds.length * (txMax n + 2) ≤ 24 * (txMax n + 2) := Nat.mul_le_mul_right _ h.1
    simp only [txMax]; omega
  | n + 1, .tup ds, h => by
    simp only [D.sm, Bool.and_eq_true, decide_eq_true_eq] at h
    obtain ⟨ps, e, l, o⟩ := sm_pys n ds h.2
    refine ⟨.tuple ps, by simp only [D.py, e, Option.map_some], by simp only [PyData.canLay0]; exact o.lay, by simp only [PyData.depth]; have := o.dep; omega, by simp only [PyData.showable]; exact o.sho, ?_⟩
    simp only [PyData.shown]
    have h1 := tupText_le (PyData.shownAll ps)
    have h2 := piled_le o.len
    rw [shownAll_len, l] at h2
    have h3 : ds.length * (txMax n + 2) ≤ 24 * (txMax n + 2) := Nat.mul_le_mul_right _ h.1
    simp only [txMax]; omega
  | n, .dic _, h => by cases n <;> simp [D.sm] at h
  | n, .bdic _, h => by cases n <;> simp [D.sm] at h
  | n, .obj _, h => by cases n <;> simp [D.sm] at h
  | n, .val _, h => by cases n <;> simp [D.sm] at h
  | n, .scr _, h => by cases n <;> simp [D.sm] at h
theorem sm_pys : ∀ (n : Nat) (ds : List D), ds.all (D.sm n) = true → ∃ ps, pyL ds = some ps ∧ ps.length = ds.length ∧ PyOks n ps
  | n, [], _ => ⟨[], by simp only [pyL], rfl, by simp only [PyData.canLayAll0], by simp [PyData.depthAll], by simp only [PyData.showableAll], fun t ht => by simp [PyData.shownAll] at ht⟩
  | n, d :: ds, h => by
    simp only [List.all_cons, Bool.and_eq_true] at h
    obtain ⟨p, e1, o1⟩ := sm_py n d h.1
    obtain ⟨ps, e2, l, o2⟩ := sm_pys n ds h.2
    refine ⟨p :: ps, by simp only [pyL, e1, e2], by simp [l], by simp only [PyData.canLayAll0, o1.lay, o2.lay, Bool.and_self], by simp only [PyData.depthAll]; have := o1.dep; have := o2.dep; omega, by simp only [PyData.showableAll, o1.sho, o2.sho, Bool.and_self], fun t ht => ?_⟩
    simp only [PyData.shownAll, List.mem_cons] at ht
    rcases ht with rfl | ht
    · exact o1.len
    · exact o2.len t ht
end
def shw (d : D) : Str := match d.py with
  | some p => p.shown
  | none => Str.empty
def eqD (x y : D) : Bool := match x.py, y.py with
  | some p, some q => PyData.eqv p q
  | _, _ => false
theorem repr_sm {d : D} (h : d.sm 4 = true) : bRepr [d] = M.ret (.str (shw d)) := by
  obtain ⟨p, e, o⟩ := sm_py 4 d h
  have h1 : p.showable = true := o.sho
  have h2 : decide (p.depth ≤ 64) = true := decide_eq_true (Nat.le_trans o.dep (by decide))
  have h3 : decide (p.shown.length ≤ sizeLine) = true := decide_eq_true (Nat.le_trans o.len (by rw [sizeLine_eq]; decide))
  unfold bRepr shw
  simp only [e, h1, h2, h3, Bool.and_self]
  rfl
theorem shp {n : Nat} {p : PyData} (o : PyOk n p) (hn : n ≤ 64) : SeqAt.shaped p = true := Bool.and_eq_true_iff.mpr ⟨o.lay, decide_eq_true (Nat.le_trans o.dep hn)⟩
theorem eq_sm {x y : D} {n : Nat} (hx : x.sm n = true) (hy : y.sm n = true) (hn : n ≤ 64 := by decide) : oEq x y = M.ret (.bl (eqD x y)) := by
  obtain ⟨p, e, o⟩ := sm_py n x hx
  obtain ⟨q, e', o'⟩ := sm_py n y hy
  unfold oEq eqD
  simp only [e, e', shp o hn, shp o' hn, Bool.and_self]
  rfl
theorem ne_sm {x y : D} {n : Nat} (hx : x.sm n = true) (hy : y.sm n = true) (hn : n ≤ 64 := by decide) : oNe x y = M.ret (.bl (!eqD x y)) := by
  obtain ⟨p, e, o⟩ := sm_py n x hx
  obtain ⟨q, e', o'⟩ := sm_py n y hy
  unfold oNe eqD
  simp only [e, e', shp o hn, shp o' hn, Bool.and_self]
  rfl
theorem eqD_refl {x : D} {n : Nat} (hx : x.sm n = true) : eqD x x = true := by
  obtain ⟨p, e, o⟩ := sm_py n x hx
  unfold eqD
  simp only [e]
  exact SeqAt.eqv_refl p o.lay
theorem eqD_int (a b : Int) : eqD (.int a) (.int b) = decide (a = b) := by
  simp only [eqD, D.py, PyData.eqv]
  by_cases h : a = b
  · subst h; simp
  · simp [h]
theorem eqD_str (a b : Str) : eqD (.str a) (.str b) = (a == b) := by
  simp only [eqD, D.py, PyData.eqv]
theorem eq_int {a b : Int} : oEq (.int a) (.int b) = M.ret (.bl (decide (a = b))) := by
  rw [← eqD_int]; rfl
theorem ne_int {a b : Int} : oNe (.int a) (.int b) = M.ret (.bl (!decide (a = b))) := by
  rw [← eqD_int]; rfl
theorem strOk_of {a : Str} (h : PyData.strOk a = true) : SeqAt.shaped (.str a) = true := by
  unfold SeqAt.shaped
  simp only [PyData.canLay0, h, PyData.depth]; rfl
theorem eq_str {a b : Str} (ha : PyData.strOk a = true) (hb : PyData.strOk b = true) : oEq (.str a) (.str b) = M.ret (.bl (a == b)) := by
  rw [← eqD_str]
  unfold oEq eqD
  simp only [D.py, strOk_of ha, strOk_of hb, Bool.and_self]
  rfl
theorem ne_str {a b : Str} (ha : PyData.strOk a = true) (hb : PyData.strOk b = true) : oNe (.str a) (.str b) = M.ret (.bl (!(a == b))) := by
  rw [← eqD_str]
  unfold oNe eqD
  simp only [D.py, strOk_of ha, strOk_of hb, Bool.and_self]
  rfl
theorem eqD_pair (p q : Int × Int) : eqD (pD p) (pD q) = decide (p = q) := by
  obtain ⟨a, b⟩ := p
  obtain ⟨c, d⟩ := q
  simp only [pD, eqD, D.py, pyL, Option.map_some, PyData.eqv, PyData.eqvAll, Bool.and_true]
  by_cases h1 : a = c <;> by_cases h2 : b = d <;> simp [h1, h2]
end Fw

namespace Fw
open PySem PySem.Spec PyProof.Rows L2

/-! ### stepping through a mirror -/
section
variable {α β : Type}
theorem Gv_bnd (m : M α) (f : α → M β) (S : Sto) (P : β → Sto → Prop) : Gv (M.bnd m f) S P = Gv m S fun a S' => Gv (f a) S' P := by
  unfold Gv M.bnd
  cases m S <;> rfl
theorem Gv_ret (a : α) (S : Sto) (P : α → Sto → Prop) : Gv (M.ret a) S P = P a S := rfl
theorem Gv_calm (m : M α) (S : Sto) (P : α → Sto → Prop) : Gv (M.calm m) S P = Gv m S P := by
  unfold Gv M.calm
  cases m S <;> rfl
theorem Gv_if (c : Prop) [Decidable c] (a b : M α) (S : Sto) (P : α → Sto → Prop) : Gv (if c then a else b) S P = if c then Gv a S P else Gv b S P := by split <;> rfl
theorem Gv_cong {m m' : M α} {S : Sto} {P : α → Sto → Prop} (h : m = m') : Gv m S P = Gv m' S P := by rw [h]
theorem bnd_cong {m m' : M α} {f : α → M β} (h : m = m') : M.bnd m f = M.bnd m' f := by rw [h]
theorem Gv.ass {b : Bool} {S : Sto} {P : Unit → Sto → Prop} (h : b = true) (k : P () S) : Gv (M.ass b) S P := by rw [ass_tt h]; exact k
/-- what Gv says of a computation that leaves the store: it is its value -/
theorem eq_of_gv {m : M α} {r : α} (h : ∀ S, Gv m S fun a S' => a = r ∧ S' = S) : m = M.ret r := by
  funext S
  obtain ⟨a, S', e, rfl, rfl⟩ := (h S).get
  rw [e]; rfl
theorem Gv.of_eqS {m : M α} {S S' : Sto} {a : α} {P : α → Sto → Prop} (e : m S = .ok a S') (h : P a S') : Gv m S P := by unfold Gv; rw [e]; exact h
theorem Gv.toEq {m : M α} {S S' : Sto} {a : α} (h : Gv m S fun b T => b = a ∧ T = S') : m S = .ok a S' := by
  obtain ⟨b, T, e, rfl, rfl⟩ := h.get
  exact e
/-- a for loop by its invariant -/
theorem loop_gv {ι : Type} (enc : ι → D) {tg : D → En → Option En} {mb : En → M Fl} {P : Fl → Sto → Prop} (I : List ι → En → Sto → Prop) (xs : List ι) {en : En} {S : Sto} (h0 : I [] en S)
    (step : ∀ pre x post en S, xs = pre ++ x :: post → I pre en S → ∃ en1, tg (enc x) en = some en1 ∧ Gv (mb en1) S fun f S' => match f with
      | .nx e => I (pre ++ [x]) e S'
      | .ct e => I (pre ++ [x]) e S'
      | .bk e => P (.nx e) S'
      | .rt d => P (.rt d) S'
      | .ro d => P (.ro d) S')
    (fin : ∀ en S, I xs en S → P (.nx en) S) : Gv (loopM tg mb (xs.map enc) en) S P := by
  have key : ∀ (post pre : List ι) (en : En) (S : Sto), xs = pre ++ post → I pre en S → Gv (loopM tg mb (post.map enc) en) S P := by
    intro post
    induction post with
    | nil =>
      intro pre en S e h
      rw [List.append_nil] at e
      subst e
      exact fin en S h
    | cons x post ih =>
      intro pre en S e h
      obtain ⟨en1, e1, g⟩ := step pre x post en S e h
      rw [List.map_cons]
      simp only [loopM]
      rw [e1, M.opt_some, M.ret_bnd]
      refine Gv.bnd (g.mono fun f S' q => ?_)
      cases f with
      | nx e' => exact ih (pre ++ [x]) e' S' (by rw [e, List.append_assoc]; rfl) q
      | ct e' => exact ih (pre ++ [x]) e' S' (by rw [e, List.append_assoc]; rfl) q
      | bk e' => exact q
      | rt d => exact q
      | ro d => exact q
  exact key xs [] en S rfl h0
/-- a comprehension whose elements change the store -/
theorem lcs_gv {ι : Type} (enc : ι → D) {mi : Nv → M (List D)} {tg : D → Nv → Option Nv} {t : Nv → M Bool} {e : Nv → M D} {vs : List Nat} {env : Nv} {S : Sto} {P : D → Sto → Prop} (I : List ι → List D → Sto → Prop) (xs : List ι) (hi : mi env = M.ret (xs.map enc)) (hl : xs.length ≤ 16777216) (h0 : I [] [] S)
    (step : ∀ pre x post ys S, xs = pre ++ x :: post → I pre ys S → ∃ env', tg (enc x) (wipeN env vs) = some env' ∧ Gv (t env') S fun b S' => if b = true then Gv (e env') S' fun y S'' => I (pre ++ [x]) (ys ++ [y]) S'' else I (pre ++ [x]) ys S')
    (fin : ∀ ys S, I xs ys S → P (.lst ys) S) : Gv (mLc mi tg t e vs env) S P := by
  have key : ∀ (post pre : List ι) (ys : List D) (S : Sto), xs = pre ++ post → I pre ys S → Gv (compM tg t e (wipeN env vs) (post.map enc)) S fun zs S' => I xs (ys ++ zs) S' := by
    intro post
    induction post with
    | nil =>
      intro pre ys S eq h
      rw [List.append_nil] at eq
      subst eq
      show I xs (ys ++ []) S
      rw [List.append_nil]
      exact h
    | cons x post ih =>
      intro pre ys S eq h
      obtain ⟨env', e1, g⟩ := step pre x post ys S eq h
      rw [List.map_cons]
      simp only [compM]
      rw [e1, M.opt_some, M.ret_bnd]
      refine Gv.bnd (g.mono fun b S' q => ?_)
      cases b with
      | true =>
        rw [if_pos rfl] at q ⊢
        refine Gv.bnd (q.mono fun y S'' q => ?_)
        refine Gv.bnd ((ih (pre ++ [x]) (ys ++ [y]) S'' (by rw [eq, List.append_assoc]; rfl) q).mono fun zs S3 q => ?_)
        show I xs (ys ++ y :: zs) S3
        rw [List.append_assoc] at q
        exact q
      | false =>
        rw [if_neg Bool.false_ne_true] at q ⊢
        exact ih (pre ++ [x]) ys S' (by rw [eq, List.append_assoc]; rfl) q
  unfold mLc
  rw [hi, M.ret_bnd, List.length_map, small_le hl, M.ret_bnd]
  exact Gv.bnd ((key xs [] [] S rfl h0).calm.mono fun ys S' q => fin ys S' q)
/-- a while by its invariant and a measure -/
theorem while_gv {mt : Nv → M Bool} {mb : En → M Fl} {P : Fl → Sto → Prop} (I : Nat → En → Sto → Prop) : ∀ (n k : Nat) (en : En) (S : Sto), k < n → I k en S →
    (∀ k en S, I k en S → Gv (mt (view true en)) S fun b S' => if b = true then Gv (mb en) S' fun f S'' => match f with
      | .nx e => ∃ j, j < k ∧ I j e S''
      | .ct e => ∃ j, j < k ∧ I j e S''
      | .bk e => P (.nx e) S''
      | .rt d => P (.rt d) S''
      | .ro d => P (.ro d) S'' else P (.nx en) S') → Gv (whileM mt mb n en) S P
  | 0, k, en, S, h, _, _ => absurd h (Nat.not_lt_zero _)
  | n + 1, k, en, S, hk, h, step => by
    simp only [whileM]
    refine Gv.bnd ((step k en S h).mono fun b S' q => ?_)
    cases b with
    | true =>
      rw [if_pos rfl] at q ⊢
      refine Gv.bnd (q.mono fun f S'' q => ?_)
      cases f with
      | nx e =>
        obtain ⟨j, hj, q⟩ := q
        exact while_gv I n j e S'' (by omega) q step
      | ct e =>
        obtain ⟨j, hj, q⟩ := q
        exact while_gv I n j e S'' (by omega) q step
      | bk e => exact q
      | rt d => exact q
      | ro d => exact q
    | false =>
      rw [if_neg Bool.false_ne_true] at q ⊢
      exact q
end
/-! small operators -/
theorem ltSz0 {n : Nat} (h : n ≤ 1000) : decide (n < sizeLine) = true := decide_eq_true (by rw [sizeLine_eq]; omega)
theorem dLstK {ds : List D} (h : ds.length ≤ 1000) : dLst ds = M.ret (.lst ds) := by unfold dLst; rw [small_le (by omega)]; rfl
theorem dTupK {ds : List D} (h : ds.length ≤ 1000) : dTup ds = M.ret (.tup ds) := by unfold dTup; rw [small_le (by omega)]; rfl
theorem dLst_0 : dLst [] = M.ret (.lst []) := dLstK (by simp)
theorem dTup_0 : dTup [] = M.ret (.tup []) := dTupK (by simp)
theorem dLst_1 (a : D) : dLst [a] = M.ret (.lst [a]) := dLstK (by simp)
theorem dTup_1 (a : D) : dTup [a] = M.ret (.tup [a]) := dTupK (by simp)
theorem dLst_2 (a b : D) : dLst [a, b] = M.ret (.lst [a, b]) := dLstK (by simp)
theorem dTup_2 (a b : D) : dTup [a, b] = M.ret (.tup [a, b]) := dTupK (by simp)
theorem dLst_3 (a b c : D) : dLst [a, b, c] = M.ret (.lst [a, b, c]) := dLstK (by simp)
theorem dTup_3 (a b c : D) : dTup [a, b, c] = M.ret (.tup [a, b, c]) := dTupK (by simp)
theorem dLst_4 (a b c d : D) : dLst [a, b, c, d] = M.ret (.lst [a, b, c, d]) := dLstK (by simp)
theorem dTup_4 (a b c d : D) : dTup [a, b, c, d] = M.ret (.tup [a, b, c, d]) := dTupK (by simp)
theorem dLst_5 (a b c d e : D) : dLst [a, b, c, d, e] = M.ret (.lst [a, b, c, d, e]) := dLstK (by simp)
theorem dTup_5 (a b c d e : D) : dTup [a, b, c, d, e] = M.ret (.tup [a, b, c, d, e]) := dTupK (by simp)
theorem dLst_6 (a b c d e f : D) : dLst [a, b, c, d, e, f] = M.ret (.lst [a, b, c, d, e, f]) := dLstK (by simp)
theorem dTup_6 (a b c d e f : D) : dTup [a, b, c, d, e, f] = M.ret (.tup [a, b, c, d, e, f]) := dTupK (by simp)
theorem dLst_7 (a b c d e f g : D) : dLst [a, b, c, d, e, f, g] = M.ret (.lst [a, b, c, d, e, f, g]) := dLstK (by simp)
theorem dTup_7 (a b c d e f g : D) : dTup [a, b, c, d, e, f, g] = M.ret (.tup [a, b, c, d, e, f, g]) := dTupK (by simp)
theorem dLst_8 (a b c d e f g h : D) : dLst [a, b, c, d, e, f, g, h] = M.ret (.lst [a, b, c, d, e, f, g, h]) := dLstK (by simp)
theorem dTup_8 (a b c d e f g h : D) : dTup [a, b, c, d, e, f, g, h] = M.ret (.tup [a, b, c, d, e, f, g, h]) := dTupK (by simp)
theorem dLst_9 (a b c d e f g h i : D) : dLst [a, b, c, d, e, f, g, h, i] = M.ret (.lst [a, b, c, d, e, f, g, h, i]) := dLstK (by simp)
theorem dLst_10 (a b c d e f g h i j : D) : dLst [a, b, c, d, e, f, g, h, i, j] = M.ret (.lst [a, b, c, d, e, f, g, h, i, j]) := dLstK (by simp)
theorem dLst_11 (a b c d e f g h i j k : D) : dLst [a, b, c, d, e, f, g, h, i, j, k] = M.ret (.lst [a, b, c, d, e, f, g, h, i, j, k]) := dLstK (by simp)
theorem dLst_12 (a b c d e f g h i j k l : D) : dLst [a, b, c, d, e, f, g, h, i, j, k, l] = M.ret (.lst [a, b, c, d, e, f, g, h, i, j, k, l]) := dLstK (by simp)
theorem assLt_0 : M.ass (decide (0 < sizeLine)) = M.ret () := by rw [ltSz0 (by decide)]; rfl
theorem oAdd_i (a b : Int) : oAdd (.int a) (.int b) = M.ret (.int (a + b)) := rfl
theorem oSub_i (a b : Int) : oSub (.int a) (.int b) = M.ret (.int (a - b)) := rfl
theorem oInt_i (p : Int → Int → Bool) (a b : Int) : oInt p (.int a) (.int b) = M.ret (.bl (p a b)) := rfl
theorem oNeg_i (a : Int) : oNeg (.int a) = M.ret (.int (-a)) := rfl
theorem D_imm_i (a : Int) : (D.int a).imm = true := rfl
theorem D_imm_b (a : Bool) : (D.bl a).imm = true := rfl
theorem D_imm_s (a : Str) : (D.str a).imm = true := rfl
theorem D_imm_n : D.non.imm = true := rfl
theorem ixT0 {a : D} {r : List D} : oIx (.tup (a :: r)) (.int 0) = M.ret a := by
  simp [oIx, atI, ixN]
theorem ixT1 {a b : D} {r : List D} : oIx (.tup (a :: b :: r)) (.int 1) = M.ret b := by
  have h : (1 : Int) < (((a :: b :: r).length : Nat) : Int) := by simp; omega
  simp only [oIx, atI, ixN, h]; rfl
theorem ixT2 {a b c : D} {r : List D} : oIx (.tup (a :: b :: c :: r)) (.int 2) = M.ret c := by
  have h : (2 : Int) < (((a :: b :: c :: r).length : Nat) : Int) := by simp; omega
  simp only [oIx, atI, ixN, h]; rfl
theorem ixT3 {a b c d : D} {r : List D} : oIx (.tup (a :: b :: c :: d :: r)) (.int 3) = M.ret d := by
  have h : (3 : Int) < (((a :: b :: c :: d :: r).length : Nat) : Int) := by simp; omega
  simp only [oIx, atI, ixN, h]; rfl
theorem ltSz {n : Nat} (h : n ≤ 1000) : decide (n < sizeLine) = true := decide_eq_true (by rw [sizeLine_eq]; omega)
theorem Gv.assLt {n : Nat} {S : Sto} {P : Unit → Sto → Prop} (h : n ≤ 1000) (k : P () S) : Gv (M.ass (decide (n < sizeLine))) S P := by rw [ltSz h]; exact k
theorem key_i (i : Int) : D.key (.int i) = some (.inl i) := rfl
theorem key_s (i : Str) : D.key (.str i) = some (.inr i) := rfl
/-- a comprehension over a range whose elements are drawn -/
theorem lcr_gv {n : Nat} {lo : Int} {mi : Nv → M (List D)} {tg : D → Nv → Option Nv} {e : Nv → M D} {vs : List Nat} {env : Nv} {S : Sto} {P : D → Sto → Prop} (I : Sto → Prop) (Q : D → Prop) (hi : mi env = M.ret (rngD lo n)) (hl : n ≤ 16777216) (h0 : I S)
    (step : ∀ (i : Nat) S, i < n → I S → ∃ env', tg (.int (lo + (i : Int))) (wipeN env vs) = some env' ∧ Gv (e env') S fun y S' => Q y ∧ I S')
    (fin : ∀ ys S, ys.length = n → (∀ y ∈ ys, Q y) → I S → P (.lst ys) S) : Gv (mLc mi tg mYes e vs env) S P := by
  refine lcs_gv (fun i : Nat => D.int (lo + (i : Int))) (fun pre ys S => ys.length = pre.length ∧ (∀ y ∈ ys, Q y) ∧ I S) (List.range n) hi (by simpa using hl) ⟨rfl, (fun y hy => nomatch hy), h0⟩ ?_ ?_
  · intro pre x post ys S eq h
    obtain ⟨l, q, i⟩ := h
    have hx : x < n := List.mem_range.mp (by rw [eq]; simp)
    obtain ⟨env', e1, g⟩ := step x S hx i
    refine ⟨env', e1, ?_⟩
    show Gv (e env') S _
    refine g.mono fun y S' h => ⟨by simp [l], fun z hz => ?_, h.2⟩
    rcases List.mem_append.mp hz with hz | hz
    · exact q z hz
    · rw [List.mem_singleton.mp hz]; exact h.1
  · intro ys S h
    exact fin ys S (by simpa using h.1) h.2.1 h.2.2
theorem near62_n {n : Nat} (hn : n ≤ 1000000) : near62 (n : Int) = true := by
  unfold near62
  exact Bool.and_eq_true_iff.mpr ⟨decide_eq_true (by omega), decide_eq_true (by omega)⟩
theorem near62_i {n : Int} (h0 : -1000000 ≤ n) (h1 : n ≤ 1000000) : near62 n = true := by
  unfold near62
  exact Bool.and_eq_true_iff.mpr ⟨decide_eq_true (by omega), decide_eq_true (by omega)⟩
theorem rng1_n {n : Nat} (hn : n ≤ 1000000) : rng1 [.int n] = M.ret (rngD 0 n) := by
  simp only [rng1, near62_n hn, M.ass_t, M.ret_bnd, Int.toNat_natCast]
theorem rng1_i {n : Int} (h0 : -1000000 ≤ n) (h1 : n ≤ 1000000) : rng1 [.int n] = M.ret (rngD 0 n.toNat) := by
  simp only [rng1, near62_i h0 h1, M.ass_t, M.ret_bnd]
theorem intsOf {P : Int → Prop} : ∀ {ys : List D}, (∀ y ∈ ys, ∃ i, y = .int i ∧ P i) → ∃ v : List Int, ys = v.map .int ∧ ∀ x ∈ v, P x
  | [], _ => ⟨[], rfl, fun x hx => nomatch hx⟩
  | y :: ys, h => by
    obtain ⟨i, rfl, p⟩ := h y List.mem_cons_self
    obtain ⟨v, rfl, q⟩ := intsOf (ys := ys) fun z hz => h z (List.mem_cons_of_mem _ hz)
    exact ⟨i :: v, rfl, fun x hx => by
      rcases List.mem_cons.mp hx with rfl | hx
      · exact p
      · exact q x hx⟩
/-- [f(x) for x in xs if p(x)], f and p plain -/
theorem lcp_eq {ι : Type} (enc : ι → D) (xs : List ι) (p : ι → Bool) (f : ι → D) {mi : Nv → M (List D)} {tg : D → Nv → Option Nv} {t : Nv → M Bool} {e : Nv → M D} {vs : List Nat} {env : Nv} (hi : mi env = M.ret (xs.map enc)) (hl : xs.length ≤ 16777216)
    (step : ∀ x ∈ xs, ∃ env', tg (enc x) (wipeN env vs) = some env' ∧ t env' = M.ret (p x) ∧ (p x = true → e env' = M.ret (f x))) : mLc mi tg t e vs env = M.ret (.lst ((xs.filter p).map f)) := by
  have key : ∀ ys : List ι, (∀ x ∈ ys, x ∈ xs) → compM tg t e (wipeN env vs) (ys.map enc) = M.ret ((ys.filter p).map f) := by
    intro ys
    induction ys with
    | nil => intro _; rfl
    | cons x ys ih =>
      intro h
      obtain ⟨env', e1, e2, e3⟩ := step x (h x List.mem_cons_self)
      have ih := ih fun z hz => h z (List.mem_cons_of_mem _ hz)
      rw [List.map_cons]
      simp only [compM]
      rw [e1, M.opt_some, M.ret_bnd, e2, M.ret_bnd]
      cases hp : p x with
      | true => rw [if_pos rfl, e3 hp, M.ret_bnd, ih, M.ret_bnd, List.filter_cons_of_pos hp, List.map_cons]
      | false => rw [if_neg Bool.false_ne_true, ih, List.filter_cons_of_neg (by rw [hp]; exact Bool.false_ne_true)]
  unfold mLc
  rw [hi, M.ret_bnd, List.length_map, small_le hl, M.ret_bnd, key xs fun _ h => h]
  rfl
theorem lcp_gv {ι : Type} (enc : ι → D) (xs : List ι) (p : ι → Bool) (f : ι → D) {mi : Nv → M (List D)} {tg : D → Nv → Option Nv} {t : Nv → M Bool} {e : Nv → M D} {vs : List Nat} {env : Nv} {S : Sto} {P : D → Sto → Prop} (hi : mi env = M.ret (xs.map enc)) (hl : xs.length ≤ 16777216)
    (step : ∀ x ∈ xs, ∃ env', tg (enc x) (wipeN env vs) = some env' ∧ t env' = M.ret (p x) ∧ (p x = true → e env' = M.ret (f x))) (k : P (.lst ((xs.filter p).map f)) S) : Gv (mLc mi tg t e vs env) S P := by
  rw [lcp_eq enc xs p f hi hl step]; exact k
theorem lcp1_eq {ι : Type} (enc : ι → D) (xs : List ι) (f : ι → D) {mi : Nv → M (List D)} {tg : D → Nv → Option Nv} {e : Nv → M D} {vs : List Nat} {env : Nv} (hi : mi env = M.ret (xs.map enc)) (hl : xs.length ≤ 16777216)
    (step : ∀ x ∈ xs, ∃ env', tg (enc x) (wipeN env vs) = some env' ∧ e env' = M.ret (f x)) : mLc mi tg mYes e vs env = M.ret (.lst (xs.map f)) := by
  have q := lcp_eq (t := mYes) enc xs (fun _ => true) f hi hl fun x hx => by
    obtain ⟨env', e1, e2⟩ := step x hx
    exact ⟨env', e1, rfl, fun _ => e2⟩
  rw [q, List.filter_eq_self.mpr (fun _ _ => rfl)]
theorem lcp1_gv {ι : Type} (enc : ι → D) (xs : List ι) (f : ι → D) {mi : Nv → M (List D)} {tg : D → Nv → Option Nv} {e : Nv → M D} {vs : List Nat} {env : Nv} {S : Sto} {P : D → Sto → Prop} (hi : mi env = M.ret (xs.map enc)) (hl : xs.length ≤ 16777216)
    (step : ∀ x ∈ xs, ∃ env', tg (enc x) (wipeN env vs) = some env' ∧ e env' = M.ret (f x)) (k : P (.lst (xs.map f)) S) : Gv (mLc mi tg mYes e vs env) S P := by
  rw [lcp1_eq enc xs f hi hl step]; exact k
theorem immC_ints (zs : List Int) : (D.lst (zs.map .int)).immC = true := by
  simp only [D.immC]
  exact immL_all.mpr fun d hd => by obtain ⟨c, _, rfl⟩ := List.mem_map.mp hd; rfl
theorem immL_ints (zs : List Int) : immL (zs.map .int) = true := immL_all.mpr fun d hd => by obtain ⟨c, _, rfl⟩ := List.mem_map.mp hd; rfl
theorem near64_i {a : Int} (h : a.natAbs < 2 ^ 64) : near64 a = true := by
  unfold near64
  exact Bool.and_eq_true_iff.mpr ⟨decide_eq_true (by omega), decide_eq_true (by omega)⟩
theorem oMul_l {a b : Int} (h : a.natAbs < 2 ^ 64) : oMul (.int a) (.int b) = M.ret (.int (a * b)) := by
  simp only [oMul, near64_i h, Bool.true_or, M.ass_t, M.ret_bnd]
theorem oMul_r {a b : Int} (h : b.natAbs < 2 ^ 64) : oMul (.int a) (.int b) = M.ret (.int (a * b)) := by
  simp only [oMul, near64_i h, Bool.or_true, M.ass_t, M.ret_bnd]
theorem oMod_i {a b : Int} (h : b ≠ 0) : oMod (.int a) (.int b) = M.ret (.int (a.fmod b)) := by
  simp only [oMod, decide_eq_true h, M.ass_t, M.ret_bnd]
theorem bInt_i (a : Int) : bInt [.int a] = M.ret (.int a) := rfl
theorem bInt_b (a : Bool) : bInt [.bl a] = M.ret (.int (if a then 1 else 0)) := rfl
theorem bAbs_i (a : Int) : bAbs [.int a] = M.ret (.int (if a < 0 then -a else a)) := rfl
theorem bTuple_L (ds : List D) : bTuple [.lst ds] = M.ret (.tup ds) := rfl
theorem bLen_l (ds : List D) : bLen [.lst ds] = M.ret (.int (ds.length : Int)) := rfl
theorem bLen_t (ds : List D) : bLen [.tup ds] = M.ret (.int (ds.length : Int)) := rfl
theorem bLen_scr (ns : List Int) : bLen [.scr ns] = M.ret (.int (ns.length : Int)) := rfl
theorem bLen_d (ks : List (Key × D)) : bLen [.dic ks] = M.ret (.int (ks.length : Int)) := rfl
theorem cut_to {ds : List D} {n : Nat} : cutD ds none (some (n : Int)) = ds.take n := by
  unfold cutD
  rw [HT.sIx_none, HT.sIx_nat]
  simp only [List.drop_zero, Nat.sub_zero]
  rw [Nat.min_def]
  split
  · rfl
  · rw [List.take_of_length_le (Nat.le_refl _), List.take_of_length_le (by omega)]
theorem seq_g {a b : En → M Fl} {en : En} {S : Sto} {P : Fl → Sto → Prop} (h : Gv (a en) S fun f S' => match f with
    | .nx e => Gv (b e) S' P
    | f => P f S') : Gv (sSeq a b en) S P := by
  unfold sSeq
  refine Gv.bnd (h.mono fun f S' q => ?_)
  cases f <;> exact q
/-- a statement that goes on -/
theorem seq_n {a b : En → M Fl} {en : En} {S : Sto} {P : Fl → Sto → Prop} (Q : En → Sto → Prop) (h : Gv (a en) S fun f S' => ∃ e, f = .nx e ∧ Q e S') (k : ∀ e S', Q e S' → Gv (b e) S' P) : Gv (sSeq a b en) S P := by
  refine seq_g (h.mono ?_)
  rintro _ S' ⟨e, rfl, q⟩
  exact k e S' q
theorem body_g {N : List Str} {n : Nat} {ms : En → M Fl} {ds : List D} {S : Sto} {P : D → Sto → Prop} (hl : ds.length = n) (h : Gv (ms (startEn N ds)) S fun f S' => match f with
    | .nx _ => P .non S'
    | .rt d => P d S'
    | _ => False) : Gv (mBody N n ms ds) S P := by
  unfold mBody
  rw [ass_tt (decide_eq_true hl), M.ret_bnd]
  refine Gv.bnd (h.mono fun f S' q => ?_)
  cases f <;> exact q
theorem mLc_split (mi : Nv → M (List D)) (tg : D → Nv → Option Nv) (t : Nv → M Bool) (e : Nv → M D) (vs : List Nat) (env : Nv) : mLc mi tg t e vs env = M.bnd (mi env) fun ds => mLc (fun _ => M.ret ds) tg t e vs env := by
  unfold mLc
  simp only [M.ret_bnd]
theorem range_split {m : Nat} {pre post : List Nat} {x : Nat} (h : List.range m = pre ++ x :: post) : x = pre.length ∧ pre.length < m := by
  have h1 : (List.range m)[pre.length]? = some x := by rw [h]; simp
  have h2 : pre.length < m := by
    have := congrArg List.length h
    simp at this; omega
  rw [List.getElem?_range h2] at h1
  exact ⟨(Option.some.inj h1).symm, h2⟩
end Fw

namespace Fw
open PySem PySem.Spec PyProof.Rows L2

/-! ### what repr writes can be compared -/
theorem strOk_app (a b : Str) : PyData.strOk (a ++ b) = (PyData.strOk a && PyData.strOk b) := by
  show (a.cps ++ b.cps).all _ = _
  rw [Array.all_append]
  rfl
theorem strOk_lit (s : String) : PyData.strOk (Str.ofString s) = true := by
  rw [Str.ofString_eq_toList]
  unfold PyData.strOk
  simp only [List.all_toArray, List.all_map, List.all_eq_true, Function.comp_apply, decide_eq_true_eq]
  intro c _
  have h := c.valid
  unfold UInt32.isValidChar Nat.isValidChar at h
  show c.val.toNat < 1114112
  omega
theorem strOk_empty : PyData.strOk Str.empty = true := by decide +kernel
theorem strOk_join (sep : Str) (hs : PyData.strOk sep = true) : ∀ ts : List Str, (∀ t ∈ ts, PyData.strOk t = true) → PyData.strOk (Str.join sep ts) = true
  | [], _ => strOk_empty
  | [x], h => h x List.mem_cons_self
  | x :: y :: r, h => by
    have ih := strOk_join sep hs (y :: r) fun t ht => h t (List.mem_cons_of_mem _ ht)
    show PyData.strOk (x ++ sep ++ Str.join sep (y :: r)) = true
    rw [strOk_app, strOk_app, h x List.mem_cons_self, hs, ih]; rfl
theorem strOk_textFrom : ∀ (ts : List Str) (n : Nat) (s : Str), PyData.strOk s = true → (∀ t ∈ ts, PyData.strOk t = true) → PyData.strOk (textFrom n s ts) = true
  | [], n, s, hs, _ => hs
  | t :: ts, n, s, hs, h => by
    refine strOk_textFrom ts (n + 1) _ ?_ fun u hu => h u (List.mem_cons_of_mem _ hu)
    rw [strOk_app, strOk_app, hs, h t List.mem_cons_self, strOk_lit]; rfl
mutual
def rOk : PyData → Bool
  | .str s => PyData.strOk (reprText s)
  | .list xs => rOkL xs
  | .tuple xs => rOkL xs
  | .dict _ => false
  | _ => true
def rOkL : List PyData → Bool
  | [] => true
  | p :: ps => rOk p && rOkL ps
end
mutual
theorem strOk_shown : ∀ p : PyData, rOk p = true → PyData.strOk p.shown = true
  | .none, _ => by simp only [PyData.shown]; exact strOk_lit _
  | .bool b, _ => by simp only [PyData.shown]; cases b <;> exact strOk_lit _
  | .int i, _ => by simp only [PyData.shown]; exact strOk_lit _
  | .str s, h => by simp only [PyData.shown]; simpa only [rOk] using h
  | .list xs, h => by
    simp only [PyData.shown]
    have := strOk_showns xs (by simpa only [rOk] using h)
    show PyData.strOk (textFrom 0 "[" (PyData.shownAll xs) ++ ("]" : Str)) = true
    rw [strOk_app, strOk_textFrom _ _ _ (strOk_lit _) this, strOk_lit]; rfl
  | .tuple xs, h => by
    simp only [PyData.shown]
    have := strOk_showns xs (by simpa only [rOk] using h)
    unfold tupleText
    rw [strOk_app, strOk_app, strOk_join _ (strOk_lit _) _ this, strOk_lit, strOk_lit]; rfl
  | .dict kvs, h => by simp only [rOk] at h; cases h
theorem strOk_showns : ∀ ps : List PyData, rOkL ps = true → ∀ t ∈ PyData.shownAll ps, PyData.strOk t = true
  | [], _ => fun t ht => by simp [PyData.shownAll] at ht
  | p :: ps, h => fun t ht => by
    simp only [rOkL, Bool.and_eq_true] at h
    simp only [PyData.shownAll, List.mem_cons] at ht
    rcases ht with rfl | ht
    · exact strOk_shown p h.1
    · exact strOk_showns ps h.2 t ht
end
/-! data of ints, tuples and lists alone -/
mutual
def D.plain : D → Bool
  | .int _ => true
  | .non => true
  | .bl _ => true
  | .str s => PyData.strOk (reprText s)
  | .tup ds => plainL ds
  | .lst ds => plainL ds
  | _ => false
def plainL : List D → Bool
  | [] => true
  | d :: ds => D.plain d && plainL ds
end
theorem plainL_all {ds : List D} : plainL ds = true ↔ ∀ d ∈ ds, d.plain = true := by
  induction ds with
  | nil => simp [plainL]
  | cons d ds ih => simp [plainL, ih]
mutual
theorem plain_rOk : ∀ (d : D) (p : PyData), d.plain = true → d.py = some p → rOk p = true
  | .non, p, _, e => by simp only [D.py, Option.some.injEq] at e; subst e; rfl
  | .bl b, p, _, e => by simp only [D.py, Option.some.injEq] at e; subst e; rfl
  | .int i, p, _, e => by simp only [D.py, Option.some.injEq] at e; subst e; rfl
  | .str s, p, h, e => by simp only [D.py, Option.some.injEq] at e; subst e; simp only [rOk]; simpa only [D.plain] using h
  | .tup ds, p, h, e => by
    simp only [D.py, Option.map_eq_some_iff] at e
    obtain ⟨ps, e, rfl⟩ := e
    simp only [rOk]
    exact plain_rOks ds ps (by simpa only [D.plain] using h) e
  | .lst ds, p, h, e => by
    simp only [D.py, Option.map_eq_some_iff] at e
    obtain ⟨ps, e, rfl⟩ := e
    simp only [rOk]
    exact plain_rOks ds ps (by simpa only [D.plain] using h) e
  | .dic _, p, h, e => by simp only [D.plain] at h; cases h
  | .bdic _, p, h, e => by simp only [D.plain] at h; cases h
  | .obj _, p, h, e => by simp only [D.plain] at h; cases h
  | .val _, p, h, e => by simp only [D.plain] at h; cases h
  | .scr _, p, h, e => by simp only [D.plain] at h; cases h
theorem plain_rOks : ∀ (ds : List D) (ps : List PyData), plainL ds = true → pyL ds = some ps → rOkL ps = true
  | [], ps, _, e => by simp only [pyL, Option.some.injEq] at e; subst e; rfl
  | d :: ds, ps, h, e => by
    simp only [plainL, Bool.and_eq_true] at h
    simp only [pyL] at e
    split at e
    · rename_i p qs e1 e2
      cases e
      simp only [rOkL, plain_rOk d _ h.1 e1, plain_rOks ds _ h.2 e2, Bool.and_self]
    · cases e
end
theorem shw_ok {d : D} (h : d.plain = true) : PyData.strOk (shw d) = true := by
  unfold shw
  split
  · rename_i p e
    exact strOk_shown p (plain_rOk d p h e)
  · exact strOk_empty
theorem eq_shw {d d' : D} (h : d.plain = true) (h' : d'.plain = true) : oEq (.str (shw d)) (.str (shw d')) = M.ret (.bl (shw d == shw d')) := eq_str (shw_ok h) (shw_ok h')
theorem ne_shw {d d' : D} (h : d.plain = true) (h' : d'.plain = true) : oNe (.str (shw d)) (.str (shw d')) = M.ret (.bl (!(shw d == shw d'))) := ne_str (shw_ok h) (shw_ok h')
theorem eq_shw1 {d : D} (h : d.plain = true) : oEq (.str (shw d)) (.str (shw d)) = M.ret (.bl true) := by rw [eq_shw h h, beq_self_eq_true]
theorem ne_shw1 {d : D} (h : d.plain = true) : oNe (.str (shw d)) (.str (shw d)) = M.ret (.bl false) := by rw [ne_shw h h, beq_self_eq_true]; rfl
/-! data that can be compared, of any length -/
def D.ly : Nat → D → Bool
  | _, .non => true
  | _, .bl _ => true
  | _, .int _ => true
  | _, .str s => PyData.strOk s
  | n + 1, .lst ds => ds.all (D.ly n)
  | n + 1, .tup ds => ds.all (D.ly n)
  | _, _ => false
structure LyOk (n : Nat) (p : PyData) : Prop where
  lay : p.canLay0 = true
  dep : p.depth ≤ n
structure LyOks (n : Nat) (ps : List PyData) : Prop where
  lay : PyData.canLayAll0 ps = true
  dep : PyData.depthAll ps ≤ n
mutual
theorem ly_py : ∀ (n : Nat) (d : D), d.ly n = true → ∃ p, d.py = some p ∧ LyOk n p
  | n, .non, _ => ⟨.none, by simp only [D.py], by simp only [PyData.canLay0], by simp [PyData.depth]⟩
  | n, .bl b, _ => ⟨.bool b, by simp only [D.py], by simp only [PyData.canLay0], by simp [PyData.depth]⟩
  | n, .int i, h => ⟨.int i, by simp only [D.py], by simp only [PyData.canLay0], by simp [PyData.depth]⟩
  | n, .str s, h => by
    have h : PyData.strOk s = true := by cases n <;> simpa [D.ly] using h
    exact ⟨.str s, by simp only [D.py], by simp only [PyData.canLay0]; exact h, by simp [PyData.depth]⟩
  | 0, .lst ds, h => by simp [D.ly] at h
  | 0, .tup ds, h => by simp [D.ly] at h
  | n + 1, .lst ds, h => by
    simp only [D.ly] at h
    obtain ⟨ps, e, o⟩ := ly_pys n ds h
    exact ⟨.list ps, by simp only [D.py, e, Option.map_some], by simp only [PyData.canLay0]; exact o.lay, by simp only [PyData.depth]; have := o.dep; omega⟩
  | n + 1, .tup ds, h => by
    simp only [D.ly] at h
    obtain ⟨ps, e, o⟩ := ly_pys n ds h
    exact ⟨.tuple ps, by simp only [D.py, e, Option.map_some], by simp only [PyData.canLay0]; exact o.lay, by simp only [PyData.depth]; have := o.dep; omega⟩
  | n, .dic _, h => by cases n <;> simp [D.ly] at h
  | n, .bdic _, h => by cases n <;> simp [D.ly] at h
  | n, .obj _, h => by cases n <;> simp [D.ly] at h
  | n, .val _, h => by cases n <;> simp [D.ly] at h
  | n, .scr _, h => by cases n <;> simp [D.ly] at h
theorem ly_pys : ∀ (n : Nat) (ds : List D), ds.all (D.ly n) = true → ∃ ps, pyL ds = some ps ∧ LyOks n ps
  | n, [], _ => ⟨[], by simp only [pyL], by simp only [PyData.canLayAll0], by simp [PyData.depthAll]⟩
  | n, d :: ds, h => by
    simp only [List.all_cons, Bool.and_eq_true] at h
    obtain ⟨p, e1, o1⟩ := ly_py n d h.1
    obtain ⟨ps, e2, o2⟩ := ly_pys n ds h.2
    exact ⟨p :: ps, by simp only [pyL, e1, e2], by simp only [PyData.canLayAll0, o1.lay, o2.lay, Bool.and_self], by simp only [PyData.depthAll]; have := o1.dep; have := o2.dep; omega⟩
end
theorem shpL {n : Nat} {p : PyData} (o : LyOk n p) (hn : n ≤ 64) : SeqAt.shaped p = true := Bool.and_eq_true_iff.mpr ⟨o.lay, decide_eq_true (Nat.le_trans o.dep hn)⟩
theorem eq_ly {x y : D} {n : Nat} (hx : x.ly n = true) (hy : y.ly n = true) (hn : n ≤ 64 := by decide) : oEq x y = M.ret (.bl (eqD x y)) := by
  obtain ⟨p, e, o⟩ := ly_py n x hx
  obtain ⟨q, e', o'⟩ := ly_py n y hy
  unfold oEq eqD
  simp only [e, e', shpL o hn, shpL o' hn, Bool.and_self]
  rfl
theorem ne_ly {x y : D} {n : Nat} (hx : x.ly n = true) (hy : y.ly n = true) (hn : n ≤ 64 := by decide) : oNe x y = M.ret (.bl (!eqD x y)) := by
  obtain ⟨p, e, o⟩ := ly_py n x hx
  obtain ⟨q, e', o'⟩ := ly_py n y hy
  unfold oNe eqD
  simp only [e, e', shpL o hn, shpL o' hn, Bool.and_self]
  rfl
theorem eqD_refl' {x : D} {n : Nat} (hx : x.ly n = true) : eqD x x = true := by
  obtain ⟨p, e, o⟩ := ly_py n x hx
  unfold eqD
  simp only [e]
  exact SeqAt.eqv_refl p o.lay
theorem eq_same {x : D} {n : Nat} (hx : x.ly n = true) (hn : n ≤ 64 := by decide) : oEq x x = M.ret (.bl true) := by rw [eq_ly hx hx hn, eqD_refl' hx]
theorem ne_same {x : D} {n : Nat} (hx : x.ly n = true) (hn : n ≤ 64 := by decide) : oNe x x = M.ret (.bl false) := by rw [ne_ly hx hx hn, eqD_refl' hx]; rfl
end Fw

namespace Fw
open PySem PySem.Spec PyProof.Rows L2
/-! ## nonearer_k77_whole_everything_near: mirrors and derivations (printed) -/
def top (i : Nat) : Stmt := PySem.Challenge.pw_nonearer_k77_whole_everything_near.main.body.getD i (.Pass ⟨0, 0, 0, 0⟩)
/-- the facts behind the top -/
structure Fx (K : PySem.W.Frag) (mg : Str → Option Value) : Prop where
  d_u_law_heap : ∃ fd, FunD K "_law_heap" "_law_heap" (defArgs (top 23)) (defBody (top 23)) (defScope (top 23)) [] [] (He.ga K "_law_heap") fd
  d_ulabel_in : ∃ fd, FunD K "label_in" "label_in" (defArgs (top 8)) (defBody (top 8)) (defScope (top 8)) [] [] (He.ga K "label_in") fd
  d_ulets_by : ∃ fd, FunD K "lets_by" "lets_by" (defArgs (top 10)) (defBody (top 10)) (defScope (top 10)) [] [] (He.ga K "lets_by") fd
  d_upasses : ∃ fd, FunD K "passes" "passes" (defArgs (top 11)) (defBody (top 11)) (defScope (top 11)) [] [] (He.ga K "passes") fd
  d_upassing_keys : ∃ fd, FunD K "passing_keys" "passing_keys" (defArgs (top 15)) (defBody (top 15)) (defScope (top 15)) [] [] (He.ga K "passing_keys") fd
  d_ujoined_parts : ∃ fd, FunD K "joined_parts" "joined_parts" (defArgs (top 4)) (defBody (top 4)) (defScope (top 4)) [] [] (He.ga K "joined_parts") fd
  d_upart_of : ∃ fd, FunD K "part_of" "part_of" (defArgs (top 3)) (defBody (top 3)) (defScope (top 3)) [] [] (He.ga K "part_of") fd
  d_udifferences : ∃ fd, FunD K "differences" "differences" (defArgs (top 1)) (defBody (top 1)) (defScope (top 1)) [] [] (He.ga K "differences") fd
  d_udistance : ∃ fd, FunD K "distance" "distance" (defArgs (top 5)) (defBody (top 5)) (defScope (top 5)) [] [] (He.ga K "distance") fd
  d_upairs_from : ∃ fd, FunD K "pairs_from" "pairs_from" (defArgs (top 16)) (defBody (top 16)) (defScope (top 16)) [] [] (He.ga K "pairs_from") fd
  d_uwithin : ∃ fd, FunD K "within" "within" (defArgs (top 17)) (defBody (top 17)) (defScope (top 17)) [] [] (He.ga K "within") fd
  d_uNearby___init__ : ∃ fd, FunD K "__init__" "Nearby.__init__" (defArgs (mth (top 21) 0)) (defBody (mth (top 21) 0)) (defScope (mth (top 21) 0)) [] [] (He.ma K (He.ga K "Nearby") "__init__") fd
  d_u_law_draw : ∃ fd, FunD K "_law_draw" "_law_draw" (defArgs (top 24)) (defBody (top 24)) (defScope (top 24)) [] [] (He.ga K "_law_draw") fd
  d_u_law_pick : ∃ fd, FunD K "_law_pick" "_law_pick" (defArgs (top 25)) (defBody (top 25)) (defScope (top 25)) [] [] (He.ga K "_law_pick") fd
  d_u_law_done : ∃ fd, FunD K "_law_done" "_law_done" (defArgs (top 35)) (defBody (top 35)) (defScope (top 35)) [] [] (He.ga K "_law_done") fd
  d_u_law_vector : ∃ fd, FunD K "_law_vector" "_law_vector" (defArgs (top 30)) (defBody (top 30)) (defScope (top 30)) [] [] (He.ga K "_law_vector") fd
  d_u_law_item : ∃ fd, FunD K "_law_item" "_law_item" (defArgs (top 31)) (defBody (top 31)) (defScope (top 31)) [] [] (He.ga K "_law_item") fd
  d_u_law_start : ∃ fd, FunD K "_law_start" "_law_start" (defArgs (top 33)) (defBody (top 33)) (defScope (top 33)) [] [] (He.ga K "_law_start") fd
  d_u_law_sieve : ∃ fd, FunD K "_law_sieve" "_law_sieve" (defArgs (top 29)) (defBody (top 29)) (defScope (top 29)) [] [] (He.ga K "_law_sieve") fd
  d_u_law_question : ∃ fd, FunD K "_law_question" "_law_question" (defArgs (top 32)) (defBody (top 32)) (defScope (top 32)) [] [] (He.ga K "_law_question") fd
  d_u_law_far : ∃ fd, FunD K "_law_far" "_law_far" (defArgs (top 26)) (defBody (top 26)) (defScope (top 26)) [] [] (He.ga K "_law_far") fd
  d_u_law_passes : ∃ fd, FunD K "_law_passes" "_law_passes" (defArgs (top 27)) (defBody (top 27)) (defScope (top 27)) [] [] (He.ga K "_law_passes") fd
  d_u_law_pairs : ∃ fd, FunD K "_law_pairs" "_law_pairs" (defArgs (top 28)) (defBody (top 28)) (defScope (top 28)) [] [] (He.ga K "_law_pairs") fd
  d_u_law_due : ∃ fd, FunD K "_law_due" "_law_due" (defArgs (top 37)) (defBody (top 37)) (defScope (top 37)) [] [] (He.ga K "_law_due") fd
  d_u_law_deed : ∃ fd, FunD K "_law_deed" "_law_deed" (defArgs (top 34)) (defBody (top 34)) (defScope (top 34)) [] [] (He.ga K "_law_deed") fd
  d_unews_of : ∃ fd, FunD K "news_of" "news_of" (defArgs (top 20)) (defBody (top 20)) (defScope (top 20)) [] [] (He.ga K "news_of") fd
  d_udeed_key : ∃ fd, FunD K "deed_key" "deed_key" (defArgs (top 13)) (defBody (top 13)) (defScope (top 13)) [] [] (He.ga K "deed_key") fd
  d_uis_within : ∃ fd, FunD K "is_within" "is_within" (defArgs (top 6)) (defBody (top 6)) (defScope (top 6)) [] [] (He.ga K "is_within") fd
  d_uput_pair : ∃ fd, FunD K "put_pair" "put_pair" (defArgs (top 19)) (defBody (top 19)) (defScope (top 19)) [] [] (He.ga K "put_pair") fd
  d_uNearby_told : ∃ fd, FunD K "told" "Nearby.told" (defArgs (mth (top 21) 2)) (defBody (mth (top 21) 2)) (defScope (mth (top 21) 2)) [] [] (He.ma K (He.ga K "Nearby") "told") fd
  d_u_law_news : ∃ fd, FunD K "_law_news" "_law_news" (defArgs (top 36)) (defBody (top 36)) (defScope (top 36)) [] [] (He.ga K "_law_news") fd
  d_uNearby_kept : ∃ fd, FunD K "kept" "Nearby.kept" (defArgs (mth (top 21) 1)) (defBody (mth (top 21) 1)) (defScope (mth (top 21) 1)) [] [] (He.ma K (He.ga K "Nearby") "kept") fd
  d_u_law_run : ∃ fd, FunD K "_law_run" "_law_run" (defArgs (top 38)) (defBody (top 38)) (defScope (top 38)) [] [] (He.ga K "_law_run") fd
  d_ulaw : ∃ fd, FunD K "law" "law" (defArgs (top 39)) (defBody (top 39)) (defScope (top 39)) [] [] (He.ga K "law") fd
  g_u_law_heap : mg "_law_heap" = some (.ref (He.ga K "_law_heap"))
  g_ulabel_in : mg "label_in" = some (.ref (He.ga K "label_in"))
  g_ulets_by : mg "lets_by" = some (.ref (He.ga K "lets_by"))
  g_upasses : mg "passes" = some (.ref (He.ga K "passes"))
  g_upassing_keys : mg "passing_keys" = some (.ref (He.ga K "passing_keys"))
  g_ujoined_parts : mg "joined_parts" = some (.ref (He.ga K "joined_parts"))
  g_upart_of : mg "part_of" = some (.ref (He.ga K "part_of"))
  g_udifferences : mg "differences" = some (.ref (He.ga K "differences"))
  g_udistance : mg "distance" = some (.ref (He.ga K "distance"))
  g_upairs_from : mg "pairs_from" = some (.ref (He.ga K "pairs_from"))
  g_uwithin : mg "within" = some (.ref (He.ga K "within"))
  g_u_law_draw : mg "_law_draw" = some (.ref (He.ga K "_law_draw"))
  g_u_law_pick : mg "_law_pick" = some (.ref (He.ga K "_law_pick"))
  g_u_law_done : mg "_law_done" = some (.ref (He.ga K "_law_done"))
  g_u_law_vector : mg "_law_vector" = some (.ref (He.ga K "_law_vector"))
  g_u_law_item : mg "_law_item" = some (.ref (He.ga K "_law_item"))
  g_u_law_start : mg "_law_start" = some (.ref (He.ga K "_law_start"))
  g_u_law_sieve : mg "_law_sieve" = some (.ref (He.ga K "_law_sieve"))
  g_u_law_question : mg "_law_question" = some (.ref (He.ga K "_law_question"))
  g_u_law_far : mg "_law_far" = some (.ref (He.ga K "_law_far"))
  g_u_law_passes : mg "_law_passes" = some (.ref (He.ga K "_law_passes"))
  g_u_law_pairs : mg "_law_pairs" = some (.ref (He.ga K "_law_pairs"))
  g_u_law_due : mg "_law_due" = some (.ref (He.ga K "_law_due"))
  g_u_law_deed : mg "_law_deed" = some (.ref (He.ga K "_law_deed"))
  g_unews_of : mg "news_of" = some (.ref (He.ga K "news_of"))
  g_udeed_key : mg "deed_key" = some (.ref (He.ga K "deed_key"))
  g_uis_within : mg "is_within" = some (.ref (He.ga K "is_within"))
  g_uput_pair : mg "put_pair" = some (.ref (He.ga K "put_pair"))
  g_u_law_news : mg "_law_news" = some (.ref (He.ga K "_law_news"))
  g_u_law_run : mg "_law_run" = some (.ref (He.ga K "_law_run"))
  g_ulaw : mg "law" = some (.ref (He.ga K "law"))
  g_Nearby : mg "Nearby" = some (.ref (He.ga K "Nearby"))
  cls_Nearby : Cls K (He.ga K "Nearby")
  na_Nearby_all_pairs : NoAttr K (He.ga K "Nearby") "all_pairs"
  na_Nearby_kind : NoAttr K (He.ga K "Nearby") "kind"
  na_Nearby_reach : NoAttr K (He.ga K "Nearby") "reach"
  na_Nearby_sieve : NoAttr K (He.ga K "Nearby") "sieve"
  na_Nearby_vector : NoAttr K (He.ga K "Nearby") "vector"
  mt_uNearby___init__ : Meth K (He.ga K "Nearby") "__init__" (He.ma K (He.ga K "Nearby") "__init__")
  mt_uNearby_told : Meth K (He.ga K "Nearby") "told" (He.ma K (He.ga K "Nearby") "told")
  mt_uNearby_kept : Meth K (He.ga K "Nearby") "kept" (He.ma K (He.ga K "Nearby") "kept")
  mk_Nearby : Mk K (He.ga K "Nearby") (He.ma K (He.ga K "Nearby") "__init__")
  b_abs : mg "abs" = none
  b_all : mg "all" = none
  b_any : mg "any" = none
  b_int : mg "int" = none
  b_len : mg "len" = none
  b_list : mg "list" = none
  b_max : mg "max" = none
  b_range : mg "range" = none
  b_repr : mg "repr" = none
  b_sorted : mg "sorted" = none
  b_sum : mg "sum" = none
  b_tuple : mg "tuple" = none
  b_zip : mg "zip" = none
section
variable {P : Program} {w : World} {K : PySem.W.Frag} {mg : Str → Option Value} {base : Heap}
/-! ### _law_heap -/
abbrev s_u_law_heap : Stmt := top 23
abbrev N_u_law_heap : List Str := ["_law_script", "_law_cells", "_law_stir", "_law_cell"]
abbrev P_u_law_heap : List Str := ["_law_script"]
theorem sc_u_law_heap : FnScope N_u_law_heap P_u_law_heap (defScope s_u_law_heap) := ⟨rfl, rfl, rfl, by decide +kernel, rfl, by decide +kernel, by decide +kernel⟩
def b_u_law_heap : En → M Fl := (sSeq (sPar 1 2 (sFN (mLc (mIter (mCut (mVar 0) mNone (mSome (mC (.int 60))))) (gvN 3) mYes (mOp oAdd (mOp oMul (mC (.int 2)) (mCall bAbs (mCons (mVar 3) mNil))) (mCall bInt (mCons (mOp (oInt fun i j => decide (i < j)) (mVar 3) (mC (.int 0))) mNil))) [3])) (sN (mC (.int 23411))))
    (sSeq (sFor (mIter (mVar 1)) (tgN 3)
    (sAsg 2 (sN (mOp oMod (mCall bInt (mCons (mOp oAdd (mOp oAdd (mOp oMul (mVar 2) (mC (.int 48271))) (mOp oMod (mCall bInt (mCons (mVar 3) mNil)) (mC (.int 2147483563)))) (mC (.int 79))) mNil)) (mC (.int 2147483647))))))
    (sRet (sN (mStore (mCall dLst (mCons (mStore (mUn oRev (mLc (mIter (mVar 1)) (gvN 3) (mB (mOp (oInt fun i j => decide (j ≤ i)) (mVar 3) (mOp oPow (mC (.int 10)) (mC (.int 18))))) (mVar 3) [3]))) (mCons (mVar 2) mNil))))))))
def m_u_law_heap : List D → M D := mBody N_u_law_heap 1 b_u_law_heap
/-! ### label_in -/
abbrev s_ulabel_in : Stmt := top 8
abbrev N_ulabel_in : List Str := ["labels", "name", "other", "value"]
abbrev P_ulabel_in : List Str := ["labels", "name"]
theorem sc_ulabel_in : FnScope N_ulabel_in P_ulabel_in (defScope s_ulabel_in) := ⟨rfl, rfl, rfl, by decide +kernel, rfl, by decide +kernel, by decide +kernel⟩
def b_ulabel_in : En → M Fl := (sSeq (sFor (mIter (mVar 0)) (tgTup 2 (tgCons (tgN 2) (tgCons (tgN 3) tgNil)))
    (sIf (mB (mOp oEq (mVar 2) (mVar 1)))
    (sRet (sN (mVar 3)))
    sNext))
    (sRet (sN (mC .non))))
def m_ulabel_in : List D → M D := mBody N_ulabel_in 2 b_ulabel_in
/-! ### lets_by -/
abbrev s_ulets_by : Stmt := top 10
abbrev N_ulets_by : List Str := ["sieve", "labels", "value", "part"]
abbrev P_ulets_by : List Str := ["sieve", "labels"]
theorem sc_ulets_by : FnScope N_ulets_by P_ulets_by (defScope s_ulets_by) := ⟨rfl, rfl, rfl, by decide +kernel, rfl, by decide +kernel, by decide +kernel⟩
def b_ulets_by (rm : List D → M D) : En → M Fl := (sSeq (sIf (mB (mOp oEq (mOp oIx (mVar 0) (mC (.int 0))) (mC (.str "all"))))
    (sRet (sN (mC (.bl true))))
    sNext)
    (sSeq (sIf (mB (mOp oEq (mOp oIx (mVar 0) (mC (.int 0))) (mC (.str "not"))))
    (sRet (sN (mNotV (mCallG rm [(0, 0), (0, 1)] [] (mCons (mOp oIx (mVar 0) (mC (.int 1))) (mCons (mVar 1) mNil)) mNil))))
    sNext)
    (sSeq (sIf (mB (mOp oEq (mOp oIx (mVar 0) (mC (.int 0))) (mC (.str "and"))))
    (sRet (sN (mCall bAll (mCons (mLc (mIter (mCut (mVar 0) (mSome (mC (.int 1))) mNone)) (gvN 3) mYes (mCallG rm [(0, 0), (0, 1)] [] (mCons (mVar 3) (mCons (mVar 1) mNil)) mNil) [3]) mNil))))
    sNext)
    (sSeq (sIf (mB (mOp oEq (mOp oIx (mVar 0) (mC (.int 0))) (mC (.str "or"))))
    (sRet (sN (mCall bAny (mCons (mLc (mIter (mCut (mVar 0) (mSome (mC (.int 1))) mNone)) (gvN 3) mYes (mCallG rm [(0, 0), (0, 1)] [] (mCons (mVar 3) (mCons (mVar 1) mNil)) mNil) [3]) mNil))))
    sNext)
    (sSeq (sAsg 2 (sN (mCallG m_ulabel_in [(0, 0), (0, 1)] [] (mCons (mVar 1) (mCons (mOp oIx (mVar 0) (mC (.int 1))) mNil)) mNil)))
    (sRet (sN (mAndV (mOp oNotN (mVar 2) (mC .non)) (mOrV (mOp oEq (mOp oIx (mVar 0) (mC (.int 0))) (mC (.str "has"))) (mChain (oInt fun i j => decide (i ≤ j)) (oInt fun i j => decide (i ≤ j)) (mOp oIx (mVar 0) (mC (.int 2))) (mVar 2) (mOp oIx (mVar 0) (mC (.int 3)))))))))))))
def m_ulets_by : Nat → List D → M D
  | 0 => fun _ => M.stk
  | n + 1 => mBody N_ulets_by 2 (b_ulets_by (m_ulets_by n))
/-! ### passes -/
abbrev s_upasses : Stmt := top 11
abbrev N_upasses : List Str := ["sieve", "item"]
abbrev P_upasses : List Str := ["sieve", "item"]
theorem sc_upasses : FnScope N_upasses P_upasses (defScope s_upasses) := ⟨rfl, rfl, rfl, by decide +kernel, rfl, by decide +kernel, by decide +kernel⟩
def b_upasses : En → M Fl := (sRet (sN (mCallG (m_ulets_by 5) [(0, 0), (0, 1)] [] (mCons (mVar 0) (mCons (mOp oIx (mVar 1) (mC (.int 2))) mNil)) mNil)))
def m_upasses : List D → M D := mBody N_upasses 2 b_upasses
/-! ### passing_keys -/
abbrev s_upassing_keys : Stmt := top 15
abbrev N_upassing_keys : List Str := ["state", "sieve", "key", "item"]
abbrev P_upassing_keys : List Str := ["state", "sieve"]
theorem sc_upassing_keys : FnScope N_upassing_keys P_upassing_keys (defScope s_upassing_keys) := ⟨rfl, rfl, rfl, by decide +kernel, rfl, by decide +kernel, by decide +kernel⟩
def b_upassing_keys : En → M Fl := (sRet (sN (mCall bTuple (mCons (mCall bSorted (mCons (mLc (mItems (mVar 0)) (gvTup 2 (gvCons (gvN 2) (gvCons (gvN 3) gvNil))) (mB (mCallG m_upasses [(0, 0), (0, 1)] [] (mCons (mVar 1) (mCons (mVar 3) mNil)) mNil)) (mVar 2) [2, 3]) mNil)) mNil))))
def m_upassing_keys : List D → M D := mBody N_upassing_keys 2 b_upassing_keys
/-! ### joined_parts -/
abbrev s_ujoined_parts : Stmt := top 4
abbrev N_ujoined_parts : List Str := ["kind", "parts"]
abbrev P_ujoined_parts : List Str := ["kind", "parts"]
theorem sc_ujoined_parts : FnScope N_ujoined_parts P_ujoined_parts (defScope s_ujoined_parts) := ⟨rfl, rfl, rfl, by decide +kernel, rfl, by decide +kernel, by decide +kernel⟩
def b_ujoined_parts : En → M Fl := (sRet (sN (mIf (mB (mOp oEq (mVar 0) (mC (.str "most")))) (mCallK bMaxD (mCons (mVar 1) mNil) (mCons (mC (.int 0)) mNil)) (mCall bSum (mCons (mVar 1) mNil)))))
def m_ujoined_parts : List D → M D := mBody N_ujoined_parts 2 b_ujoined_parts
/-! ### part_of -/
abbrev s_upart_of : Stmt := top 3
abbrev N_upart_of : List Str := ["kind", "difference"]
abbrev P_upart_of : List Str := ["kind", "difference"]
theorem sc_upart_of : FnScope N_upart_of P_upart_of (defScope s_upart_of) := ⟨rfl, rfl, rfl, by decide +kernel, rfl, by decide +kernel, by decide +kernel⟩
def b_upart_of : En → M Fl := (sSeq (sIf (mB (mOp oEq (mVar 0) (mC (.str "square"))))
    (sRet (sN (mOp oMul (mVar 1) (mVar 1))))
    sNext)
    (sSeq (sIf (mB (mOp oEq (mVar 0) (mC (.str "unlike"))))
    (sRet (sN (mIf (mB (mOp oNe (mVar 1) (mC (.int 0)))) (mC (.int 1)) (mC (.int 0)))))
    sNext)
    (sRet (sN (mCall bAbs (mCons (mVar 1) mNil))))))
def m_upart_of : List D → M D := mBody N_upart_of 2 b_upart_of
/-! ### differences -/
abbrev s_udifferences : Stmt := top 1
abbrev N_udifferences : List Str := ["one", "other", "mine", "yours"]
abbrev P_udifferences : List Str := ["one", "other"]
theorem sc_udifferences : FnScope N_udifferences P_udifferences (defScope s_udifferences) := ⟨rfl, rfl, rfl, by decide +kernel, rfl, by decide +kernel, by decide +kernel⟩
def b_udifferences : En → M Fl := (sRet (sN (mCall bTuple (mCons (mLc (mIterA zipD (mCons (mVar 0) (mCons (mVar 1) mNil))) (gvTup 2 (gvCons (gvN 2) (gvCons (gvN 3) gvNil))) mYes (mOp oSub (mVar 2) (mVar 3)) [2, 3]) mNil))))
def m_udifferences : List D → M D := mBody N_udifferences 2 b_udifferences
/-! ### distance -/
abbrev s_udistance : Stmt := top 5
abbrev N_udistance : List Str := ["kind", "one", "other", "difference"]
abbrev P_udistance : List Str := ["kind", "one", "other"]
theorem sc_udistance : FnScope N_udistance P_udistance (defScope s_udistance) := ⟨rfl, rfl, rfl, by decide +kernel, rfl, by decide +kernel, by decide +kernel⟩
def b_udistance : En → M Fl := (sRet (sN (mCallG m_ujoined_parts [(0, 0), (0, 1)] [] (mCons (mVar 0) (mCons (mLc (mIter (mCallG m_udifferences [(0, 0), (0, 1)] [] (mCons (mVar 1) (mCons (mVar 2) mNil)) mNil)) (gvN 3) mYes (mCallG m_upart_of [(0, 0), (0, 1)] [] (mCons (mVar 0) (mCons (mVar 3) mNil)) mNil) [3]) mNil)) mNil)))
def m_udistance : List D → M D := mBody N_udistance 3 b_udistance
/-! ### pairs_from -/
abbrev s_upairs_from : Stmt := top 16
abbrev N_upairs_from : List Str := ["state", "kind", "vector", "sieve", "keys", "key"]
abbrev P_upairs_from : List Str := ["state", "kind", "vector", "sieve"]
theorem sc_upairs_from : FnScope N_upairs_from P_upairs_from (defScope s_upairs_from) := ⟨rfl, rfl, rfl, by decide +kernel, rfl, by decide +kernel, by decide +kernel⟩
def b_upairs_from : En → M Fl := (sSeq (sAsg 4 (sN (mCallG m_upassing_keys [(0, 0), (0, 1)] [] (mCons (mVar 0) (mCons (mVar 3) mNil)) mNil)))
    (sRet (sN (mCall bTuple (mCons (mCall bSorted (mCons (mLc (mIter (mVar 4)) (gvN 5) mYes (mCall dTup (mCons (mCallG m_udistance [(0, 0), (0, 1), (0, 2)] [] (mCons (mVar 1) (mCons (mVar 2) (mCons (mOp oIx (mOp oIx (mVar 0) (mVar 5)) (mC (.int 1))) mNil))) mNil) (mCons (mVar 5) mNil))) [5]) mNil)) mNil)))))
def m_upairs_from : List D → M D := mBody N_upairs_from 4 b_upairs_from
/-! ### within -/
abbrev s_uwithin : Stmt := top 17
abbrev N_uwithin : List Str := ["state", "kind", "vector", "reach", "sieve", "pair"]
abbrev P_uwithin : List Str := ["state", "kind", "vector", "reach", "sieve"]
theorem sc_uwithin : FnScope N_uwithin P_uwithin (defScope s_uwithin) := ⟨rfl, rfl, rfl, by decide +kernel, rfl, by decide +kernel, by decide +kernel⟩
def b_uwithin : En → M Fl := (sRet (sN (mCall bTuple (mCons (mLc (mIter (mCallG m_upairs_from [(0, 0), (0, 1), (0, 2), (0, 3)] [] (mCons (mVar 0) (mCons (mVar 1) (mCons (mVar 2) (mCons (mVar 4) mNil)))) mNil)) (gvN 5) (mB (mOp (oInt fun i j => decide (i ≤ j)) (mOp oIx (mVar 5) (mC (.int 0))) (mVar 3))) (mVar 5) [5]) mNil))))
def m_uwithin : List D → M D := mBody N_uwithin 5 b_uwithin
/-! ### Nearby.__init__ -/
abbrev s_uNearby___init__ : Stmt := mth (top 21) 0
abbrev N_uNearby___init__ : List Str := ["self", "state", "kind", "vector", "reach", "sieve"]
abbrev P_uNearby___init__ : List Str := ["self", "state", "kind", "vector", "reach", "sieve"]
theorem sc_uNearby___init__ : FnScope N_uNearby___init__ P_uNearby___init__ (defScope s_uNearby___init__) := ⟨rfl, rfl, rfl, by decide +kernel, rfl, by decide +kernel, by decide +kernel⟩
def b_uNearby___init__ : En → M Fl := (sSeq (sDrop (sN (mOp (fldPut "Nearby" "kind") (mVar 2) (mVar 0))))
    (sSeq (sDrop (sN (mOp (fldPut "Nearby" "vector") (mVar 3) (mVar 0))))
    (sSeq (sDrop (sN (mOp (fldPut "Nearby" "reach") (mVar 4) (mVar 0))))
    (sSeq (sDrop (sN (mOp (fldPut "Nearby" "sieve") (mVar 5) (mVar 0))))
    (sDrop (sN (mOp (fldPut "Nearby" "all_pairs") (mCallG m_uwithin [(0, 0), (0, 1), (0, 2), (0, 3), (0, 4)] [] (mCons (mVar 1) (mCons (mVar 2) (mCons (mVar 3) (mCons (mVar 4) (mCons (mVar 5) mNil))))) mNil) (mVar 0))))))))
def m_uNearby___init__ : List D → M D := mBody N_uNearby___init__ 6 b_uNearby___init__
/-! ### _law_draw -/
abbrev s_u_law_draw : Stmt := top 24
abbrev N_u_law_draw : List Str := ["_law_heap_here", "_law_many", "_law_rest"]
abbrev P_u_law_draw : List Str := ["_law_heap_here", "_law_many"]
theorem sc_u_law_draw : FnScope N_u_law_draw P_u_law_draw (defScope s_u_law_draw) := ⟨rfl, rfl, rfl, by decide +kernel, rfl, by decide +kernel, by decide +kernel⟩
def b_u_law_draw : En → M Fl := (sSeq (whileM (mAnd (mB (mOp oNeS (mOp oIxS (mVar 0) (mC (.int 0))) (mCall dLst mNil))) (mB (mOp oEqS (mOp oIxS (mOp oIxS (mVar 0) (mC (.int 0))) (mUn oNeg (mC (.int 1)))) (mC (.int 0))))) (sDrop (sN (mUn popS (mOp oIxS (mVar 0) (mC (.int 0)))))) 70)
    (sSeq (sIf (mB (mOp oNeS (mOp oIxS (mVar 0) (mC (.int 0))) (mCall dLst mNil)))
    (sSeq (sAsg 2 (sN (mUn popS (mOp oIxS (mVar 0) (mC (.int 0))))))
    (sSeq (sDrop (sN (mApp (mOp oIxS (mVar 0) (mC (.int 0))) (mOp oFdiv (mVar 2) (mVar 1)))))
    (sRet (sN (mOp oMod (mCall bInt (mCons (mVar 2) mNil)) (mVar 1))))))
    sNext)
    (sSeq (sDrop (sV (mSetS (mVar 0) (mC (.int 1)) (mOp oMod (mCall bInt (mCons (mOp oAdd (mOp oMul (mOp oIxS (mVar 0) (mC (.int 1))) (mC (.int 69621))) (mC (.int 97))) mNil)) (mC (.int 2147483647))))))
    (sRet (sN (mOp oMod (mCall bInt (mCons (mOp oFdiv (mOp oIxS (mVar 0) (mC (.int 1))) (mC (.int 32))) mNil)) (mVar 1)))))))
def m_u_law_draw : List D → M D := mBody N_u_law_draw 2 b_u_law_draw
/-! ### _law_pick -/
abbrev s_u_law_pick : Stmt := top 25
abbrev N_u_law_pick : List Str := ["_law_heap_here", "_law_some"]
abbrev P_u_law_pick : List Str := ["_law_heap_here", "_law_some"]
theorem sc_u_law_pick : FnScope N_u_law_pick P_u_law_pick (defScope s_u_law_pick) := ⟨rfl, rfl, rfl, by decide +kernel, rfl, by decide +kernel, by decide +kernel⟩
def b_u_law_pick : En → M Fl := (sRet (sN (mOp oIx (mVar 1) (mCallG m_u_law_draw [(0, 0), (0, 1)] [] (mCons (mVar 0) (mCons (mCall bLen (mCons (mVar 1) mNil)) mNil)) mNil))))
def m_u_law_pick : List D → M D := mBody N_u_law_pick 2 b_u_law_pick
/-! ### _law_done -/
abbrev s_u_law_done : Stmt := top 35
abbrev N_u_law_done : List Str := ["_law_state", "_law_deed_here", "_law_key", "_law_found", "_law_other"]
abbrev P_u_law_done : List Str := ["_law_state", "_law_deed_here"]
theorem sc_u_law_done : FnScope N_u_law_done P_u_law_done (defScope s_u_law_done) := ⟨rfl, rfl, rfl, by decide +kernel, rfl, by decide +kernel, by decide +kernel⟩
def b_u_law_done : En → M Fl := (sSeq (sPar 2 3 (sN (mIf (mB (mOp oEq (mOp oIx (mVar 1) (mC (.int 0))) (mC (.str "put")))) (mOp oIx (mOp oIx (mVar 1) (mC (.int 1))) (mC (.int 0))) (mOp oIx (mVar 1) (mC (.int 1))))) (sON (mC (.dic []))))
    (sSeq (sFor (mIter (mVar 0)) (tgN 4)
    (sIf (mB (mOp oNe (mVar 4) (mVar 2)))
    (sPutK 3 (sN (mOp oIx (mVar 0) (mVar 4))) (sN (mVar 4)))
    sNext))
    (sSeq (sIf (mB (mOp oEq (mOp oIx (mVar 1) (mC (.int 0))) (mC (.str "put"))))
    (sPutK 3 (sN (mOp oIx (mVar 1) (mC (.int 1)))) (sN (mVar 2)))
    sNext)
    (sRetO 3))))
def m_u_law_done : List D → M D := mBodyO N_u_law_done 2 b_u_law_done
/-! ### _law_vector -/
abbrev s_u_law_vector : Stmt := top 30
abbrev N_u_law_vector : List Str := ["_law_heap_here", "_law_places", "_law_wide", "_law_place"]
abbrev P_u_law_vector : List Str := ["_law_heap_here", "_law_places"]
theorem sc_u_law_vector : FnScope N_u_law_vector P_u_law_vector (defScope s_u_law_vector) := ⟨rfl, rfl, rfl, by decide +kernel, rfl, by decide +kernel, by decide +kernel⟩
def b_u_law_vector : En → M Fl := (sSeq (sAsg 2 (sN (mCallG m_u_law_pick [(0, 0), (0, 1)] [] (mCons (mVar 0) (mCons (mCall dLst (mCons (mC (.int 4)) (mCons (mC (.int 4)) (mCons (mC (.int 4)) (mCons (mC (.int 3)) (mCons (mC (.int 20000)) mNil)))))) mNil)) mNil)))
    (sRet (sN (mCall bTuple (mCons (mLc (mIterA rng1 (mCons (mVar 1) mNil)) (gvN 3) mYes (mOp oSub (mCallG m_u_law_draw [(0, 0), (0, 1)] [] (mCons (mVar 0) (mCons (mVar 2) mNil)) mNil) (mOp oFdiv (mVar 2) (mC (.int 2)))) [3]) mNil)))))
def m_u_law_vector : List D → M D := mBody N_u_law_vector 2 b_u_law_vector
/-! ### _law_item -/
abbrev s_u_law_item : Stmt := top 31
abbrev N_u_law_item : List Str := ["_law_heap_here", "_law_key", "_law_places", "_law_labels"]
abbrev P_u_law_item : List Str := ["_law_heap_here", "_law_key", "_law_places"]
theorem sc_u_law_item : FnScope N_u_law_item P_u_law_item (defScope s_u_law_item) := ⟨rfl, rfl, rfl, by decide +kernel, rfl, by decide +kernel, by decide +kernel⟩
def b_u_law_item : En → M Fl := (sSeq (sAsg 3 (sON (mCall dLst mNil)))
    (sSeq (sIf (mB (mOp (oInt fun i j => decide (j < i)) (mCallG m_u_law_draw [(0, 0), (0, 1)] [] (mCons (mVar 0) (mCons (mC (.int 3)) mNil)) mNil) (mC (.int 0))))
    (sApp 3 (sN (mCall dTup (mCons (mC (.str "a")) (mCons (mOp oSub (mCallG m_u_law_draw [(0, 0), (0, 1)] [] (mCons (mVar 0) (mCons (mC (.int 5)) mNil)) mNil) (mC (.int 2))) mNil)))))
    sNext)
    (sSeq (sIf (mB (mOp oEq (mCallG m_u_law_draw [(0, 0), (0, 1)] [] (mCons (mVar 0) (mCons (mC (.int 3)) mNil)) mNil) (mC (.int 0))))
    (sApp 3 (sN (mCall dTup (mCons (mC (.str "bb")) (mCons (mCallG m_u_law_draw [(0, 0), (0, 1)] [] (mCons (mVar 0) (mCons (mC (.int 4)) mNil)) mNil) mNil)))))
    sNext)
    (sRet (sV (mCall dTup (mCons (mVar 1) (mCons (mCallG m_u_law_vector [(0, 0), (0, 1)] [] (mCons (mVar 0) (mCons (mVar 2) mNil)) mNil) (mCons (mCall bTuple (mCons (mVar 3) mNil)) mNil)))))))))
def m_u_law_item : List D → M D := mBody N_u_law_item 3 b_u_law_item
/-! ### _law_start -/
abbrev s_u_law_start : Stmt := top 33
abbrev N_u_law_start : List Str := ["_law_heap_here", "_law_keys", "_law_places", "_law_found", "_law_key"]
abbrev P_u_law_start : List Str := ["_law_heap_here", "_law_keys", "_law_places"]
theorem sc_u_law_start : FnScope N_u_law_start P_u_law_start (defScope s_u_law_start) := ⟨rfl, rfl, rfl, by decide +kernel, rfl, by decide +kernel, by decide +kernel⟩
def b_u_law_start : En → M Fl := (sSeq (sAsg 3 (sON (mC (.dic []))))
    (sSeq (sFor (mIter (mVar 1)) (tgN 4)
    (sIf (mB (mOp (oInt fun i j => decide (j < i)) (mCallG m_u_law_draw [(0, 0), (0, 1)] [] (mCons (mVar 0) (mCons (mC (.int 3)) mNil)) mNil) (mC (.int 0))))
    (sPutK 3 (sN (mCallG m_u_law_item [(0, 0), (0, 1), (0, 2)] [] (mCons (mVar 0) (mCons (mVar 4) (mCons (mVar 2) mNil))) mNil)) (sN (mVar 4)))
    sNext))
    (sFrz 3 (sRet (sN (mVar 3))))))
def m_u_law_start : List D → M D := mBody N_u_law_start 3 b_u_law_start
/-! ### _law_sieve -/
abbrev s_u_law_sieve : Stmt := top 29
abbrev N_u_law_sieve : List Str := ["_law_heap_here", "_law_parts", "_law_kind"]
abbrev P_u_law_sieve : List Str := ["_law_heap_here"]
theorem sc_u_law_sieve : FnScope N_u_law_sieve P_u_law_sieve (defScope s_u_law_sieve) := ⟨rfl, rfl, rfl, by decide +kernel, rfl, by decide +kernel, by decide +kernel⟩
def b_u_law_sieve : En → M Fl := (sSeq (sAsg 1 (sFN (mCall dLst (mCons (mCall dTup (mCons (mC (.str "all")) mNil)) (mCons (mCall dTup (mCons (mC (.str "has")) (mCons (mC (.str "a")) mNil))) (mCons (mCall dTup (mCons (mC (.str "has")) (mCons (mC (.str "bb")) mNil))) (mCons (mCall dTup (mCons (mC (.str "in")) (mCons (mC (.str "a")) (mCons (mOp oSub (mC (.int 0)) (mC (.int 1))) (mCons (mC (.int 1)) mNil))))) (mCons (mCall dTup (mCons (mC (.str "in")) (mCons (mC (.str "bb")) (mCons (mC (.int 1)) (mCons (mC (.int 2)) mNil))))) (mCons (mCall dTup (mCons (mC (.str "not")) (mCons (mCall dTup (mCons (mC (.str "has")) (mCons (mC (.str "a")) mNil))) mNil))) mNil)))))))))
    (sSeq (sAsg 2 (sN (mCallG m_u_law_draw [(0, 0), (0, 1)] [] (mCons (mVar 0) (mCons (mC (.int 6)) mNil)) mNil)))
    (sSeq (sIf (mB (mOp (oInt fun i j => decide (i < j)) (mVar 2) (mC (.int 2))))
    (sRet (sN (mCall dTup (mCons (mC (.str "all")) mNil))))
    sNext)
    (sSeq (sIf (mB (mOp (oInt fun i j => decide (i < j)) (mVar 2) (mC (.int 4))))
    (sRet (sN (mCallG m_u_law_pick [(0, 0), (0, 1)] [] (mCons (mVar 0) (mCons (mVar 1) mNil)) mNil)))
    sNext)
    (sRet (sN (mCall dTup (mCons (mCallG m_u_law_pick [(0, 0), (0, 1)] [] (mCons (mVar 0) (mCons (mCall dLst (mCons (mC (.str "and")) (mCons (mC (.str "or")) mNil))) mNil)) mNil) (mCons (mCallG m_u_law_pick [(0, 0), (0, 1)] [] (mCons (mVar 0) (mCons (mVar 1) mNil)) mNil) (mCons (mCallG m_u_law_pick [(0, 0), (0, 1)] [] (mCons (mVar 0) (mCons (mVar 1) mNil)) mNil) mNil))))))))))
def m_u_law_sieve : List D → M D := mBody N_u_law_sieve 1 b_u_law_sieve
/-! ### _law_question -/
abbrev s_u_law_question : Stmt := top 32
abbrev N_u_law_question : List Str := ["_law_heap_here", "_law_places", "_law_most", "_law_many"]
abbrev P_u_law_question : List Str := ["_law_heap_here", "_law_places", "_law_most"]
theorem sc_u_law_question : FnScope N_u_law_question P_u_law_question (defScope s_u_law_question) := ⟨rfl, rfl, rfl, by decide +kernel, rfl, by decide +kernel, by decide +kernel⟩
def b_u_law_question : En → M Fl := (sSeq (sAsg 3 (sN (mOp oAdd (mC (.int 1)) (mCallG m_u_law_draw [(0, 0), (0, 1)] [] (mCons (mVar 0) (mCons (mCallG m_u_law_pick [(0, 0), (0, 1)] [] (mCons (mVar 0) (mCons (mCall dLst (mCons (mVar 2) (mCons (mVar 2) (mCons (mOp oAdd (mVar 2) (mC (.int 9))) mNil)))) mNil)) mNil) mNil)) mNil))))
    (sRet (sN (mCall dTup (mCons (mCallG m_u_law_pick [(0, 0), (0, 1)] [] (mCons (mVar 0) (mCons (mCall dLst (mCons (mC (.str "square")) (mCons (mC (.str "sum")) (mCons (mC (.str "most")) (mCons (mC (.str "unlike")) mNil))))) mNil)) mNil) (mCons (mCallG m_u_law_vector [(0, 0), (0, 1)] [] (mCons (mVar 0) (mCons (mVar 1) mNil)) mNil) (mCons (mVar 3) (mCons (mCallG m_u_law_sieve [(0, 0)] [] (mCons (mVar 0) mNil) mNil) mNil))))))))
def m_u_law_question : List D → M D := mBody N_u_law_question 3 b_u_law_question
/-! ### _law_far -/
abbrev s_u_law_far : Stmt := top 26
abbrev N_u_law_far : List Str := ["_law_kind", "_law_one", "_law_other", "_law_parts", "_law_mine", "_law_yours", "_law_part"]
abbrev P_u_law_far : List Str := ["_law_kind", "_law_one", "_law_other"]
theorem sc_u_law_far : FnScope N_u_law_far P_u_law_far (defScope s_u_law_far) := ⟨rfl, rfl, rfl, by decide +kernel, rfl, by decide +kernel, by decide +kernel⟩
def b_u_law_far : En → M Fl := (sSeq (sAsg 3 (sF (mLc (mIterA zipD (mCons (mVar 1) (mCons (mVar 2) mNil))) (gvTup 2 (gvCons (gvN 4) (gvCons (gvN 5) gvNil))) mYes (mCall bAbs (mCons (mOp oSub (mVar 4) (mVar 5)) mNil)) [4, 5])))
    (sSeq (sIf (mB (mOp oEq (mVar 0) (mC (.str "square"))))
    (sRet (sN (mCall bSum (mCons (mLc (mIter (mVar 3)) (gvN 6) mYes (mOp oMul (mVar 6) (mVar 6)) [6]) mNil))))
    sNext)
    (sSeq (sIf (mB (mOp oEq (mVar 0) (mC (.str "unlike"))))
    (sRet (sN (mCall bLen (mCons (mLc (mIter (mVar 3)) (gvN 6) (mB (mOp (oInt fun i j => decide (j < i)) (mVar 6) (mC (.int 0)))) (mVar 6) [6]) mNil))))
    sNext)
    (sRet (sN (mIf (mB (mOp oEq (mVar 0) (mC (.str "sum")))) (mCall bSum (mCons (mVar 3) mNil)) (mCall bMax (mCons (mVar 3) mNil))))))))
def m_u_law_far : List D → M D := mBody N_u_law_far 3 b_u_law_far
/-! ### _law_passes -/
abbrev s_u_law_passes : Stmt := top 27
abbrev N_u_law_passes : List Str := ["_law_sieve_here", "_law_item_here", "_law_word", "_law_name", "_law_value", "_law_part"]
abbrev P_u_law_passes : List Str := ["_law_sieve_here", "_law_item_here"]
theorem sc_u_law_passes : FnScope N_u_law_passes P_u_law_passes (defScope s_u_law_passes) := ⟨rfl, rfl, rfl, by decide +kernel, rfl, by decide +kernel, by decide +kernel⟩
def b_u_law_passes (rm : List D → M D) : En → M Fl := (sSeq (sAsg 2 (sN (mOp oIx (mVar 0) (mC (.int 0)))))
    (sSeq (sIf (mB (mOp oEq (mVar 2) (mC (.str "has"))))
    (sRet (sN (mCall bAny (mCons (mLc (mIter (mOp oIx (mVar 1) (mC (.int 2)))) (gvTup 2 (gvCons (gvN 3) (gvCons (gvN 4) gvNil))) mYes (mOp oEq (mVar 3) (mOp oIx (mVar 0) (mC (.int 1)))) [3, 4]) mNil))))
    sNext)
    (sSeq (sIf (mB (mOp oEq (mVar 2) (mC (.str "in"))))
    (sRet (sN (mCall bAny (mCons (mLc (mIter (mOp oIx (mVar 1) (mC (.int 2)))) (gvTup 2 (gvCons (gvN 3) (gvCons (gvN 4) gvNil))) mYes (mAndV (mOp oEq (mVar 3) (mOp oIx (mVar 0) (mC (.int 1)))) (mChain (oInt fun i j => decide (i ≤ j)) (oInt fun i j => decide (i ≤ j)) (mOp oIx (mVar 0) (mC (.int 2))) (mVar 4) (mOp oIx (mVar 0) (mC (.int 3))))) [3, 4]) mNil))))
    sNext)
    (sSeq (sIf (mB (mOp oEq (mVar 2) (mC (.str "not"))))
    (sRet (sN (mNotV (mCallG rm [(0, 0), (0, 1)] [] (mCons (mOp oIx (mVar 0) (mC (.int 1))) (mCons (mVar 1) mNil)) mNil))))
    sNext)
    (sSeq (sIf (mB (mOp oEq (mVar 2) (mC (.str "and"))))
    (sRet (sN (mCall bAll (mCons (mLc (mIter (mCut (mVar 0) (mSome (mC (.int 1))) mNone)) (gvN 5) mYes (mCallG rm [(0, 0), (0, 1)] [] (mCons (mVar 5) (mCons (mVar 1) mNil)) mNil) [5]) mNil))))
    sNext)
    (sRet (sN (mOrV (mOp oEq (mVar 2) (mC (.str "all"))) (mCall bAny (mCons (mLc (mIter (mCut (mVar 0) (mSome (mC (.int 1))) mNone)) (gvN 5) mYes (mCallG rm [(0, 0), (0, 1)] [] (mCons (mVar 5) (mCons (mVar 1) mNil)) mNil) [5]) mNil))))))))))
def m_u_law_passes : Nat → List D → M D
  | 0 => fun _ => M.stk
  | n + 1 => mBody N_u_law_passes 2 (b_u_law_passes (m_u_law_passes n))
/-! ### _law_pairs -/
abbrev s_u_law_pairs : Stmt := top 28
abbrev N_u_law_pairs : List Str := ["_law_state", "_law_question_here", "_law_kind", "_law_vector_here", "_law_many", "_law_sieve_here", "_law_item_here"]
abbrev P_u_law_pairs : List Str := ["_law_state", "_law_question_here"]
theorem sc_u_law_pairs : FnScope N_u_law_pairs P_u_law_pairs (defScope s_u_law_pairs) := ⟨rfl, rfl, rfl, by decide +kernel, rfl, by decide +kernel, by decide +kernel⟩
def b_u_law_pairs : En → M Fl := (sSeq (sUnp (sN (mVar 1)) (tgTup 4 (tgCons (tgN 2) (tgCons (tgN 3) (tgCons (tgN 4) (tgCons (tgN 5) tgNil))))))
    (sRet (sFN (mCall bSorted (mCons (mLc (mIter (mUn valsD (mVar 0))) (gvN 6) (mB (mCallG (m_u_law_passes 5) [(0, 0), (0, 1)] [] (mCons (mVar 5) (mCons (mVar 6) mNil)) mNil)) (mCall dTup (mCons (mCallG m_u_law_far [(0, 0), (0, 1), (0, 2)] [] (mCons (mVar 2) (mCons (mVar 3) (mCons (mOp oIx (mVar 6) (mC (.int 1))) mNil))) mNil) (mCons (mOp oIx (mVar 6) (mC (.int 0))) mNil))) [6]) mNil)))))
def m_u_law_pairs : List D → M D := mBody N_u_law_pairs 2 b_u_law_pairs
/-! ### _law_due -/
abbrev s_u_law_due : Stmt := top 37
abbrev N_u_law_due : List Str := ["_law_state", "_law_question_here", "_law_reach", "_law_pair"]
abbrev P_u_law_due : List Str := ["_law_state", "_law_question_here", "_law_reach"]
theorem sc_u_law_due : FnScope N_u_law_due P_u_law_due (defScope s_u_law_due) := ⟨rfl, rfl, rfl, by decide +kernel, rfl, by decide +kernel, by decide +kernel⟩
def b_u_law_due : En → M Fl := (sRet (sN (mCall bTuple (mCons (mLc (mIter (mCallG m_u_law_pairs [(0, 0), (0, 1)] [] (mCons (mVar 0) (mCons (mVar 1) mNil)) mNil)) (gvN 3) (mB (mOp (oInt fun i j => decide (i ≤ j)) (mOp oIx (mVar 3) (mC (.int 0))) (mVar 2))) (mVar 3) [3]) mNil))))
def m_u_law_due : List D → M D := mBody N_u_law_due 3 b_u_law_due
/-! ### _law_deed -/
abbrev s_u_law_deed : Stmt := top 34
abbrev N_u_law_deed : List Str := ["_law_heap_here", "_law_state", "_law_keys", "_law_places", "_law_key", "_law_kind"]
abbrev P_u_law_deed : List Str := ["_law_heap_here", "_law_state", "_law_keys", "_law_places"]
theorem sc_u_law_deed : FnScope N_u_law_deed P_u_law_deed (defScope s_u_law_deed) := ⟨rfl, rfl, rfl, by decide +kernel, rfl, by decide +kernel, by decide +kernel⟩
def b_u_law_deed : En → M Fl := (sSeq (sPar 4 5 (sN (mCallG m_u_law_pick [(0, 0), (0, 1)] [] (mCons (mVar 0) (mCons (mVar 2) mNil)) mNil)) (sN (mCallG m_u_law_draw [(0, 0), (0, 1)] [] (mCons (mVar 0) (mCons (mC (.int 6)) mNil)) mNil)))
    (sSeq (sIf (mB (mOp (oInt fun i j => decide (i < j)) (mVar 5) (mC (.int 2))))
    (sRet (sN (mCall dTup (mCons (mC (.str "take")) (mCons (mVar 4) mNil)))))
    sNext)
    (sSeq (sIf (mAnd (mB (mOp oEq (mVar 5) (mC (.int 2)))) (mB (mOp (oIn false) (mVar 4) (mVar 1))))
    (sRet (sN (mCall dTup (mCons (mC (.str "put")) (mCons (mOp oIx (mVar 1) (mVar 4)) mNil)))))
    sNext)
    (sSeq (sIf (mAnd (mB (mOp oEq (mVar 5) (mC (.int 3)))) (mB (mOp (oIn false) (mVar 4) (mVar 1))))
    (sRet (sN (mCall dTup (mCons (mC (.str "put")) (mCons (mCall dTup (mCons (mVar 4) (mCons (mCallG m_u_law_vector [(0, 0), (0, 1)] [] (mCons (mVar 0) (mCons (mVar 3) mNil)) mNil) (mCons (mOp oIx (mOp oIx (mVar 1) (mVar 4)) (mC (.int 2))) mNil)))) mNil)))))
    sNext)
    (sRet (sN (mCall dTup (mCons (mC (.str "put")) (mCons (mCallG m_u_law_item [(0, 0), (0, 1), (0, 2)] [] (mCons (mVar 0) (mCons (mVar 4) (mCons (mVar 3) mNil))) mNil) mNil)))))))))
def m_u_law_deed : List D → M D := mBody N_u_law_deed 4 b_u_law_deed
/-! ### news_of -/
abbrev s_unews_of : Stmt := top 20
abbrev N_unews_of : List Str := ["before", "after", "pair"]
abbrev P_unews_of : List Str := ["before", "after"]
theorem sc_unews_of : FnScope N_unews_of P_unews_of (defScope s_unews_of) := ⟨rfl, rfl, rfl, by decide +kernel, rfl, by decide +kernel, by decide +kernel⟩
def b_unews_of : En → M Fl := (sRet (sN (mCall dTup (mCons (mCall bTuple (mCons (mLc (mIter (mVar 0)) (gvN 2) (mB (mOp (oIn true) (mVar 2) (mVar 1))) (mVar 2) [2]) mNil)) (mCons (mCall bTuple (mCons (mLc (mIter (mVar 1)) (gvN 2) (mB (mOp (oIn true) (mVar 2) (mVar 0))) (mVar 2) [2]) mNil)) mNil)))))
def m_unews_of : List D → M D := mBody N_unews_of 2 b_unews_of
/-! ### deed_key -/
abbrev s_udeed_key : Stmt := top 13
abbrev N_udeed_key : List Str := ["deed"]
abbrev P_udeed_key : List Str := ["deed"]
theorem sc_udeed_key : FnScope N_udeed_key P_udeed_key (defScope s_udeed_key) := ⟨rfl, rfl, rfl, by decide +kernel, rfl, by decide +kernel, by decide +kernel⟩
def b_udeed_key : En → M Fl := (sRet (sN (mIf (mB (mOp oEq (mOp oIx (mVar 0) (mC (.int 0))) (mC (.str "put")))) (mOp oIx (mOp oIx (mVar 0) (mC (.int 1))) (mC (.int 0))) (mOp oIx (mVar 0) (mC (.int 1))))))
def m_udeed_key : List D → M D := mBody N_udeed_key 1 b_udeed_key
/-! ### is_within -/
abbrev s_uis_within : Stmt := top 6
abbrev N_uis_within : List Str := ["kind", "one", "other", "reach", "total", "difference"]
abbrev P_uis_within : List Str := ["kind", "one", "other", "reach"]
theorem sc_uis_within : FnScope N_uis_within P_uis_within (defScope s_uis_within) := ⟨rfl, rfl, rfl, by decide +kernel, rfl, by decide +kernel, by decide +kernel⟩
def b_uis_within : En → M Fl := (sSeq (sAsg 4 (sN (mC (.int 0))))
    (sSeq (sFor (mIter (mCallG m_udifferences [(0, 0), (0, 1)] [] (mCons (mVar 1) (mCons (mVar 2) mNil)) mNil)) (tgN 5)
    (sSeq (sAsg 4 (sN (mCallG m_ujoined_parts [(0, 0), (0, 1)] [] (mCons (mVar 0) (mCons (mCall dLst (mCons (mVar 4) (mCons (mCallG m_upart_of [(0, 0), (0, 1)] [] (mCons (mVar 0) (mCons (mVar 5) mNil)) mNil) mNil))) mNil)) mNil)))
    (sIf (mB (mOp (oInt fun i j => decide (j < i)) (mVar 4) (mVar 3)))
    (sRet (sN (mC (.bl false))))
    sNext)))
    (sRet (sN (mOp (oInt fun i j => decide (i ≤ j)) (mVar 4) (mVar 3))))))
def m_uis_within : List D → M D := mBody N_uis_within 4 b_uis_within
/-! ### put_pair -/
abbrev s_uput_pair : Stmt := top 19
abbrev N_uput_pair : List Str := ["kind", "vector", "sieve", "deed"]
abbrev P_uput_pair : List Str := ["kind", "vector", "sieve", "deed"]
theorem sc_uput_pair : FnScope N_uput_pair P_uput_pair (defScope s_uput_pair) := ⟨rfl, rfl, rfl, by decide +kernel, rfl, by decide +kernel, by decide +kernel⟩
def b_uput_pair : En → M Fl := (sSeq (sIf (mOr (mB (mOp oNe (mOp oIx (mVar 3) (mC (.int 0))) (mC (.str "put")))) (mNot (mB (mCallG m_upasses [(0, 0), (0, 1)] [] (mCons (mVar 2) (mCons (mOp oIx (mVar 3) (mC (.int 1))) mNil)) mNil))))
    (sRet (sN (mC .non)))
    sNext)
    (sRet (sN (mCall dTup (mCons (mCallG m_udistance [(0, 0), (0, 1), (0, 2)] [] (mCons (mVar 0) (mCons (mVar 1) (mCons (mOp oIx (mOp oIx (mVar 3) (mC (.int 1))) (mC (.int 1))) mNil))) mNil) (mCons (mOp oIx (mOp oIx (mVar 3) (mC (.int 1))) (mC (.int 0))) mNil))))))
def m_uput_pair : List D → M D := mBody N_uput_pair 4 b_uput_pair
/-! ### Nearby.told -/
abbrev s_uNearby_told : Stmt := mth (top 21) 2
abbrev N_uNearby_told : List Str := ["self", "deed", "before", "key", "pairs", "pair"]
abbrev P_uNearby_told : List Str := ["self", "deed"]
theorem sc_uNearby_told : FnScope N_uNearby_told P_uNearby_told (defScope s_uNearby_told) := ⟨rfl, rfl, rfl, by decide +kernel, rfl, by decide +kernel, by decide +kernel⟩
def b_uNearby_told : En → M Fl := (sSeq (sUnp (sN (mCall dTup (mCons (mUn (fldD "Nearby" "all_pairs") (mVar 0)) (mCons (mCallG m_udeed_key [(0, 0)] [] (mCons (mVar 1) mNil) mNil) mNil)))) (tgTup 2 (tgCons (tgN 2) (tgCons (tgN 3) tgNil))))
    (sSeq (sAsg 4 (sF (mLc (mIter (mVar 2)) (gvN 5) (mB (mOp oNe (mOp oIx (mVar 5) (mC (.int 1))) (mVar 3))) (mVar 5) [5])))
    (sSeq (sIf (mAnd (mB (mOp oEq (mOp oIx (mVar 1) (mC (.int 0))) (mC (.str "put")))) (mB (mCallG m_uis_within [(0, 0), (0, 1), (0, 2), (0, 3)] [] (mCons (mUn (fldD "Nearby" "kind") (mVar 0)) (mCons (mUn (fldD "Nearby" "vector") (mVar 0)) (mCons (mOp oIx (mOp oIx (mVar 1) (mC (.int 1))) (mC (.int 1))) (mCons (mUn (fldD "Nearby" "reach") (mVar 0)) mNil)))) mNil)))
    (sSeq (sAsg 5 (sN (mCallG m_uput_pair [(0, 0), (0, 1), (0, 2), (0, 3)] [] (mCons (mUn (fldD "Nearby" "kind") (mVar 0)) (mCons (mUn (fldD "Nearby" "vector") (mVar 0)) (mCons (mUn (fldD "Nearby" "sieve") (mVar 0)) (mCons (mVar 1) mNil)))) mNil)))
    (sAsg 4 (sN (mIf (mB (mOp oIsN (mVar 5) (mC .non))) (mVar 4) (mOp oAdd (mVar 4) (mCall dLst (mCons (mVar 5) mNil)))))))
    sNext)
    (sSeq (sDrop (sN (mOp (fldPut "Nearby" "all_pairs") (mCall bTuple (mCons (mCall bSorted (mCons (mVar 4) mNil)) mNil)) (mVar 0))))
    (sRet (sN (mCallG m_unews_of [(0, 0), (0, 1)] [] (mCons (mVar 2) (mCons (mUn (fldD "Nearby" "all_pairs") (mVar 0)) mNil)) mNil)))))))
def m_uNearby_told : List D → M D := mBody N_uNearby_told 2 b_uNearby_told
/-! ### _law_news -/
abbrev s_u_law_news : Stmt := top 36
abbrev N_u_law_news : List Str := ["_law_before", "_law_after", "_law_pair"]
abbrev P_u_law_news : List Str := ["_law_before", "_law_after"]
theorem sc_u_law_news : FnScope N_u_law_news P_u_law_news (defScope s_u_law_news) := ⟨rfl, rfl, rfl, by decide +kernel, rfl, by decide +kernel, by decide +kernel⟩
def b_u_law_news : En → M Fl := (sRet (sN (mCall dTup (mCons (mCall bTuple (mCons (mLc (mIter (mVar 0)) (gvN 2) (mB (mOp (oIn true) (mVar 2) (mVar 1))) (mVar 2) [2]) mNil)) (mCons (mCall bTuple (mCons (mLc (mIter (mVar 1)) (gvN 2) (mB (mOp (oIn true) (mVar 2) (mVar 0))) (mVar 2) [2]) mNil)) mNil)))))
def m_u_law_news : List D → M D := mBody N_u_law_news 2 b_u_law_news
/-! ### Nearby.kept -/
abbrev s_uNearby_kept : Stmt := mth (top 21) 1
abbrev N_uNearby_kept : List Str := ["self"]
abbrev P_uNearby_kept : List Str := ["self"]
theorem sc_uNearby_kept : FnScope N_uNearby_kept P_uNearby_kept (defScope s_uNearby_kept) := ⟨rfl, rfl, rfl, by decide +kernel, rfl, by decide +kernel, by decide +kernel⟩
def b_uNearby_kept : En → M Fl := (sRet (sN (mUn (fldD "Nearby" "all_pairs") (mVar 0))))
def m_uNearby_kept : List D → M D := mBody N_uNearby_kept 1 b_uNearby_kept
/-! ### _law_run -/
abbrev s_u_law_run : Stmt := top 38
abbrev N_u_law_run : List Str := ["_law_heap_here", "_law_places", "_law_keys", "_law_turns", "_law_state", "_law_question_here", "_law_kind", "_law_vector_here", "_law_many", "_law_sieve_here", "_law_reach", "_law_passed", "_law_one", "_law_twin", "_law_due_here", "_law_first", "_law_turn", "_law_deed_here", "_law_later"]
abbrev P_u_law_run : List Str := ["_law_heap_here", "_law_places", "_law_keys", "_law_turns"]
theorem sc_u_law_run : FnScope N_u_law_run P_u_law_run (defScope s_u_law_run) := ⟨rfl, rfl, rfl, by decide +kernel, rfl, by decide +kernel, by decide +kernel⟩
def b_u_law_run_L1_1 : En → M Fl := (sIf (mOr (mB (mOp oNe (mCall bRepr (mCons (mMeth "Nearby" "kept" m_uNearby_kept [(0, 0)] [] (mVar 12) mNil mNil) mNil)) (mCall bRepr (mCons (mVar 14) mNil)))) (mB (mOp oNe (mCall dTup (mCons (mUn (fldD "Nearby" "kind") (mVar 12)) (mCons (mUn (fldD "Nearby" "vector") (mVar 12)) (mCons (mUn (fldD "Nearby" "reach") (mVar 12)) (mCons (mUn (fldD "Nearby" "sieve") (mVar 12)) mNil))))) (mCall dTup (mCons (mVar 6) (mCons (mVar 7) (mCons (mVar 10) (mCons (mVar 9) mNil))))))))
    (sRet (sN (mC (.bl false))))
    sNext)
def b_u_law_run_L1_2 : En → M Fl := (sAsg 17 (sN (mCallG m_u_law_deed [(0, 0), (0, 1), (0, 2), (0, 3)] [] (mCons (mVar 0) (mCons (mVar 4) (mCons (mVar 2) (mCons (mVar 1) mNil)))) mNil)))
def b_u_law_run_L1_3 : En → M Fl := (sAsg 4 (sFN (mCallG m_u_law_done [(0, 0), (0, 1)] [] (mCons (mVar 4) (mCons (mVar 17) mNil)) mNil)))
def b_u_law_run_L1_4 : En → M Fl := (sAsg 18 (sN (mCallG m_u_law_due [(0, 0), (0, 1), (0, 2)] [] (mCons (mVar 4) (mCons (mVar 5) (mCons (mVar 10) mNil))) mNil)))
def b_u_law_run_L1_5 : En → M Fl := (sIf (mB (mOp oNe (mCall bRepr (mCons (mMeth "Nearby" "told" m_uNearby_told [(0, 0), (2, 0)] [] (mVar 12) mNil (mCons (mVar 17) mNil)) mNil)) (mCall bRepr (mCons (mCallG m_u_law_news [(0, 0), (0, 1)] [] (mCons (mVar 14) (mCons (mVar 18) mNil)) mNil) mNil))))
    (sRet (sN (mC (.bl false))))
    sNext)
def b_u_law_run_L1 : En → M Fl := (sSeq b_u_law_run_L1_1
    (sSeq b_u_law_run_L1_2
    (sSeq b_u_law_run_L1_3
    (sSeq b_u_law_run_L1_4
    (sSeq b_u_law_run_L1_5
    (sAsg 14 (sN (mVar 18))))))))
def b_u_law_run_1 : En → M Fl := (sPar 4 5 (sN (mCallG m_u_law_start [(0, 0), (0, 1), (0, 2)] [] (mCons (mVar 0) (mCons (mVar 2) (mCons (mVar 1) mNil))) mNil)) (sN (mCallG m_u_law_question [(0, 0), (0, 1), (0, 2)] [] (mCons (mVar 0) (mCons (mVar 1) (mCons (mC (.int 1)) mNil))) mNil)))
def b_u_law_run_2 : En → M Fl := (sUnp (sN (mVar 5)) (tgTup 4 (tgCons (tgN 6) (tgCons (tgN 7) (tgCons (tgN 8) (tgCons (tgN 9) tgNil))))))
def b_u_law_run_3 : En → M Fl := (sAsg 10 (sN (mCallG m_u_law_pick [(0, 0), (0, 1)] [] (mCons (mVar 0) (mCons (mCall dLst (mCons (mOp oSub (mC (.int 0)) (mC (.int 1))) (mCons (mC (.int 0)) (mCons (mC (.int 1)) (mCons (mC (.int 2)) (mCons (mC (.int 3)) (mCons (mC (.int 5)) (mCons (mC (.int 9)) (mCons (mCallG m_u_law_draw [(0, 0), (0, 1)] [] (mCons (mVar 0) (mCons (mC (.int 40)) mNil)) mNil) (mCons (mOp oPow (mC (.int 10)) (mC (.int 9))) mNil)))))))))) mNil)) mNil)))
def b_u_law_run_4 : En → M Fl := (sAsg 11 (sON (mCallG m_u_law_done [(0, 0), (0, 1)] [] (mCons (mVar 4) (mCons (mCall dTup (mCons (mC (.str "take")) (mCons (mOp oSub (mC (.int 0)) (mC (.int 1))) mNil))) mNil)) mNil)))
def b_u_law_run_5 : En → M Fl := (sAsg 12 (sVL (mMake "Nearby" m_uNearby___init__ [(0, 0), (2, 4), (2, 3), (2, 2), (2, 1), (2, 0)] [] mNil (mCons (mVar 9) (mCons (mVar 10) (mCons (mVar 7) (mCons (mVar 6) (mCons (mVar 11) mNil))))))))
def b_u_law_run_6 : En → M Fl := (sPar 13 14 (sN (mMake "Nearby" m_uNearby___init__ [(0, 0), (0, 1), (0, 2), (0, 3), (0, 4), (0, 5)] [] (mCons (mVar 4) (mCons (mVar 6) (mCons (mVar 7) (mCons (mVar 10) (mCons (mVar 9) mNil))))) mNil)) (sN (mCallG m_u_law_due [(0, 0), (0, 1), (0, 2)] [] (mCons (mVar 4) (mCons (mVar 5) (mCons (mVar 10) mNil))) mNil)))
def b_u_law_run_7 : En → M Fl := (sPutK 11 (sN (mCall dTup (mCons (mC (.int 77)) (mCons (mVar 7) (mCons (mCall dTup mNil) mNil))))) (sN (mC (.int 77))))
def b_u_law_run_10 : En → M Fl := (sRet (sN (mAndV (mOp oEq (mCall bRepr (mCons (mMeth "Nearby" "kept" m_uNearby_kept [(0, 0)] [] (mVar 12) mNil mNil) mNil)) (mCall bRepr (mCons (mVar 14) mNil))) (mOp oEq (mCall bRepr (mCons (mMeth "Nearby" "kept" m_uNearby_kept [(0, 0)] [] (mVar 13) mNil mNil) mNil)) (mVar 15)))))
def b_u_law_run : En → M Fl := (sSeq b_u_law_run_1
    (sSeq b_u_law_run_2
    (sSeq b_u_law_run_3
    (sSeq b_u_law_run_4
    (sSeq b_u_law_run_5
    (sSeq b_u_law_run_6
    (sSeq b_u_law_run_7
    (sSeq (sAsg 15 (sN (mCall bRepr (mCons (mVar 14) mNil))))
    (sSeq (sFor (mIterA rng1 (mCons (mVar 3) mNil)) (tgN 16)
    b_u_law_run_L1)
    b_u_law_run_10)))))))))
def m_u_law_run : List D → M D := mBody N_u_law_run 4 b_u_law_run
/-! ### law -/
abbrev s_ulaw : Stmt := top 39
abbrev N_ulaw : List Str := ["_law_script", "_law_heap_here", "_law_turn", "_law_keys", "_law_one", "_law_at"]
abbrev P_ulaw : List Str := ["_law_script"]
theorem sc_ulaw : FnScope N_ulaw P_ulaw (defScope s_ulaw) := ⟨rfl, rfl, rfl, by decide +kernel, rfl, by decide +kernel, by decide +kernel⟩
def b_ulaw_L1_1 : En → M Fl := (sAsg 3 (sF (mLc (mIterA rng1 (mCons (mOp oAdd (mC (.int 3)) (mCallG m_u_law_draw [(0, 0), (0, 1)] [] (mCons (mVar 1) (mCons (mC (.int 8)) mNil)) mNil)) mNil)) (gvN 5) mYes (mOp oAdd (mOp oMul (mC (.int 3)) (mVar 5)) (mCallG m_u_law_draw [(0, 0), (0, 1)] [] (mCons (mVar 1) (mCons (mC (.int 3)) mNil)) mNil)) [5])))
def b_ulaw_L1_2 : En → M Fl := (sIf (mNot (mB (mCallG m_u_law_run [(0, 0), (0, 1), (0, 2), (0, 3)] [] (mCons (mVar 1) (mCons (mCallG m_u_law_pick [(0, 0), (0, 1)] [] (mCons (mVar 1) (mCons (mCall dLst (mCons (mC (.int 1)) (mCons (mC (.int 2)) (mCons (mC (.int 3)) (mCons (mC (.int 2)) (mCons (mC (.int 8)) mNil)))))) mNil)) mNil) (mCons (mVar 3) (mCons (mOp oAdd (mC (.int 6)) (mCallG m_u_law_draw [(0, 0), (0, 1)] [] (mCons (mVar 1) (mCons (mC (.int 10)) mNil)) mNil)) mNil)))) mNil)))
    (sRet (sN (mC (.bl false))))
    sNext)
def b_ulaw_1 : En → M Fl := (sAsg 1 (sN (mCallG m_u_law_heap [(0, 0)] [] (mCons (mVar 0) mNil) mNil)))
def b_ulaw_2 : En → M Fl := (sFor (mIterA rng1 (mCons (mOp oAdd (mC (.int 2)) (mOp oMul (mC (.int 2)) (mCall bInt (mCons (mOp (oInt fun i j => decide (j < i)) (mCall bLen (mCons (mVar 0) mNil)) (mC (.int 1))) mNil)))) mNil)) (tgN 2)
    (sSeq b_ulaw_L1_1
    b_ulaw_L1_2))
def b_ulaw_3 : En → M Fl := (sAsg 4 (sN (mMake "Nearby" m_uNearby___init__ [(0, 0), (0, 1), (0, 2), (0, 3), (0, 4), (0, 5)] [] (mCons (mC (.dic [])) (mCons (mC (.str "square")) (mCons (mCall dTup (mCons (mC (.int 0)) (mCons (mC (.int 0)) mNil))) (mCons (mC (.int 25)) (mCons (mCall dTup (mCons (mC (.str "not")) (mCons (mCall dTup (mCons (mC (.str "has")) (mCons (mC (.str "a")) mNil))) mNil))) mNil))))) mNil)))
def b_ulaw_4 : En → M Fl := (sIf (mOr (mB (mOp oNe (mMeth "Nearby" "kept" m_uNearby_kept [(0, 0)] [] (mVar 4) mNil mNil) (mCall dTup mNil))) (mOr (mB (mOp oNe (mMeth "Nearby" "told" m_uNearby_told [(0, 0), (0, 1)] [] (mVar 4) (mCons (mCall dTup (mCons (mC (.str "put")) (mCons (mCall dTup (mCons (mC (.int 4)) (mCons (mCall dTup (mCons (mC (.int 3)) (mCons (mC (.int 4)) mNil))) (mCons (mCall dTup mNil) mNil)))) mNil))) mNil) mNil) (mCall dTup (mCons (mCall dTup mNil) (mCons (mCall dTup (mCons (mCall dTup (mCons (mC (.int 25)) (mCons (mC (.int 4)) mNil))) mNil)) mNil))))) (mB (mOp oNe (mMeth "Nearby" "told" m_uNearby_told [(0, 0), (0, 1)] [] (mVar 4) (mCons (mCall dTup (mCons (mC (.str "put")) (mCons (mCall dTup (mCons (mC (.int 5)) (mCons (mCall dTup (mCons (mC (.int 3)) (mCons (mC (.int 5)) mNil))) (mCons (mCall dTup mNil) mNil)))) mNil))) mNil) mNil) (mCall dTup (mCons (mCall dTup mNil) (mCons (mCall dTup mNil) mNil)))))))
    (sRet (sN (mC (.bl false))))
    sNext)
def b_ulaw_5 : En → M Fl := (sIf (mOr (mB (mOp oNe (mMeth "Nearby" "told" m_uNearby_told [(0, 0), (0, 1)] [] (mVar 4) (mCons (mCall dTup (mCons (mC (.str "put")) (mCons (mCall dTup (mCons (mC (.int 4)) (mCons (mCall dTup (mCons (mC (.int 3)) (mCons (mC (.int 4)) mNil))) (mCons (mCall dTup (mCons (mCall dTup (mCons (mC (.str "a")) (mCons (mC (.int 0)) mNil))) mNil)) mNil)))) mNil))) mNil) mNil) (mCall dTup (mCons (mCall dTup (mCons (mCall dTup (mCons (mC (.int 25)) (mCons (mC (.int 4)) mNil))) mNil)) (mCons (mCall dTup mNil) mNil))))) (mB (mOp oNe (mMeth "Nearby" "told" m_uNearby_told [(0, 0), (0, 1)] [] (mVar 4) (mCons (mCall dTup (mCons (mC (.str "take")) (mCons (mC (.int 4)) mNil))) mNil) mNil) (mCall dTup (mCons (mCall dTup mNil) (mCons (mCall dTup mNil) mNil))))))
    (sRet (sN (mC (.bl false))))
    sNext)
def b_ulaw_6 : En → M Fl := (sRet (sN (mAndV (mOp oEq (mMeth "Nearby" "told" m_uNearby_told [(0, 0), (0, 1)] [] (mVar 4) (mCons (mCall dTup (mCons (mC (.str "put")) (mCons (mCall dTup (mCons (mC (.int 6)) (mCons (mCall dTup (mCons (mC (.int 0)) (mCons (mOp oSub (mC (.int 0)) (mC (.int 5))) mNil))) (mCons (mCall dTup mNil) mNil)))) mNil))) mNil) mNil) (mCall dTup (mCons (mCall dTup mNil) (mCons (mCall dTup (mCons (mCall dTup (mCons (mC (.int 25)) (mCons (mC (.int 6)) mNil))) mNil)) mNil)))) (mOp oEq (mMeth "Nearby" "told" m_uNearby_told [(0, 0), (0, 1)] [] (mVar 4) (mCons (mCall dTup (mCons (mC (.str "put")) (mCons (mCall dTup (mCons (mC (.int 6)) (mCons (mCall dTup (mCons (mC (.int 1)) (mCons (mC (.int 0)) mNil))) (mCons (mCall dTup mNil) mNil)))) mNil))) mNil) mNil) (mCall dTup (mCons (mCall dTup (mCons (mCall dTup (mCons (mC (.int 25)) (mCons (mC (.int 6)) mNil))) mNil)) (mCons (mCall dTup (mCons (mCall dTup (mCons (mC (.int 1)) (mCons (mC (.int 6)) mNil))) mNil)) mNil)))))))
def b_ulaw : En → M Fl := (sSeq b_ulaw_1
    (sSeq b_ulaw_2
    (sSeq b_ulaw_3
    (sSeq b_ulaw_4
    (sSeq b_ulaw_5
    b_ulaw_6)))))
def m_ulaw : List D → M D := mBody N_ulaw 1 b_ulaw
end
end Fw

namespace Fw
open PySem PySem.Spec PyProof.Rows L2

/-! ### the law's heap of draws -/
structure Hq (S : Sto) (cs : List Int) (st : Int) : Prop where
  h1 : S[1]? = some (.lst [.obj 0, .int st])
  h0 : S[0]? = some (.lst (cs.map .int))
  len : cs.length ≤ 60
def HqOk (S : Sto) : Prop := ∃ cs st, Hq S cs st
structure Frm (S S' : Sto) : Prop where
  len : S'.length = S.length
  same : ∀ n, 2 ≤ n → S'[n]? = S[n]?
theorem Frm.refl (S : Sto) : Frm S S := ⟨rfl, fun _ _ => rfl⟩
theorem Frm.trans {S S1 S2 : Sto} (a : Frm S S1) (b : Frm S1 S2) : Frm S S2 := ⟨b.len.trans a.len, fun n h => (b.same n h).trans (a.same n h)⟩
theorem Frm.set {S : Sto} {n : Nat} {o : SO} (h : n < 2) : Frm S (S.set n o) := ⟨by simp, fun k hk => by rw [List.getElem?_set_ne (by omega)]⟩
theorem pyL_ints : ∀ cs : List Int, pyL (cs.map .int) = some (cs.map .int)
  | [] => by simp only [List.map_nil, pyL]
  | c :: cs => by simp only [List.map_cons, pyL, D.py, pyL_ints cs]
theorem lay_ints : ∀ cs : List Int, PyData.canLayAll0 (cs.map .int) = true
  | [] => by simp only [List.map_nil, PyData.canLayAll0]
  | c :: cs => by simp only [List.map_cons, PyData.canLayAll0, PyData.canLay0, lay_ints cs, Bool.and_self]
theorem dep_ints : ∀ cs : List Int, PyData.depthAll (cs.map .int) = 0
  | [] => by simp only [List.map_nil, PyData.depthAll]
  | c :: cs => by simp [List.map_cons, PyData.depthAll, PyData.depth, dep_ints cs]
theorem ne_nil_ints (cs : List Int) : oNe (.lst (cs.map .int)) (.lst []) = M.ret (.bl (!decide (cs = []))) := by
  unfold oNe
  have h1 : SeqAt.shaped (.list (cs.map .int)) = true := by
    unfold SeqAt.shaped
    simp only [PyData.canLay0, lay_ints, PyData.depth, dep_ints]; rfl
  have h2 : SeqAt.shaped (.list []) = true := by rfl
  simp only [D.py, pyL_ints, pyL, Option.map_some, h1, h2, Bool.and_self, M.ass_t, M.ret_bnd]
  cases cs <;> simp [PyData.eqv, PyData.eqvAll]
def dT : Nv → M Bool := (mAnd (mB (mOp oNeS (mOp oIxS (mVar 0) (mC (.int 0))) (mCall dLst mNil))) (mB (mOp oEqS (mOp oIxS (mOp oIxS (mVar 0) (mC (.int 0))) (mUn oNeg (mC (.int 1)))) (mC (.int 0)))))
def dB : En → M Fl := (sDrop (sN (mUn popS (mOp oIxS (mVar 0) (mC (.int 0))))))
section
variable {S : Sto} {cs : List Int} {st n : Int}
theorem ix_h0 (h : Hq S cs st) : oIxS (.obj 1) (.int 0) S = .ok (.obj 0) S := by
  simp only [oIxS, M.bnd_app, sGet, h.h1, M.opt]
  rfl
theorem ix_h1 (h : Hq S cs st) : oIxS (.obj 1) (.int 1) S = .ok (.int st) S := by
  simp only [oIxS, M.bnd_app, sGet, h.h1, M.opt]
  rfl
theorem ne_h0 (h : Hq S cs st) : oNeS (.obj 0) (.lst []) S = .ok (.bl (!decide (cs = []))) S := by
  simp only [oNeS, snap, M.bnd_app, sGet, h.h0, M.ret_app, ne_nil_ints]
theorem pop_h0 {z : Int} (h : Hq S (cs ++ [z]) st) : popS (.obj 0) S = .ok (.int z) (S.set 0 (.lst (cs.map .int))) := by
  simp only [popS, soOf, M.bnd_bnd, M.bnd_app, sGet, h.h0, M.ret_app, sPut]
  simp [M.opt, M.bnd_app, sPut, M.ret_app]
theorem app_h0 {z : Int} (h : Hq S cs st) : appS (.obj 0) (.int z) S = .ok .non (S.set 0 (.lst ((cs ++ [z]).map .int))) := by
  have hl : decide (cs.length < sizeLine) = true := decide_eq_true (by rw [sizeLine_eq]; have := h.len; omega)
  simp only [appS, D.imm, M.ass_t, M.ret_bnd, soOf, M.bnd_bnd, M.bnd_app, sGet, h.h0, M.ret_app, List.length_map, hl, sPut]
  simp
theorem set_h1 {z : Int} (h : Hq S cs st) : setS (.obj 1) (.int 1) (.int z) S = .ok .non (S.set 1 (.lst [.obj 0, .int z])) := by
  simp only [setS, D.imm, M.ass_t, M.ret_bnd, soOf, M.bnd_bnd, M.bnd_app, sGet, h.h1, M.ret_app]
  rfl
theorem atI_last {α : Type} (xs : List α) (z : α) : atI (xs ++ [z]) (-1) = some z := by
  unfold atI ixN
  have e1 : ¬ ((0 : Int) ≤ -1) := by omega
  have e2 : -(((xs ++ [z]).length : Nat) : Int) ≤ -1 := by simp; omega
  rw [if_neg e1, if_pos e2]
  have e3 : (-1 + (((xs ++ [z]).length : Nat) : Int)).toNat = xs.length := by simp; omega
  simp only [Option.bind_some, e3]
  simp
theorem ix_last {z : Int} (h : Hq S (cs ++ [z]) st) : oIxS (.obj 0) (.int (-1)) S = .ok (.int z) S := by
  simp only [oIxS, M.bnd_app, sGet, h.h0, List.map_append, List.map_cons, List.map_nil, atI_last, M.opt_some, M.ret_app]
theorem eq_s {a b : Int} : oEqS (.int a) (.int b) = M.ret (.bl (decide (a = b))) := eq_int
theorem Hq.pop {z : Int} (h : Hq S (cs ++ [z]) st) : Hq (S.set 0 (.lst (cs.map .int))) cs st := by
  have hl : 0 < S.length := (List.getElem?_eq_some_iff.mp h.h0).1
  exact ⟨by rw [List.getElem?_set_ne (by decide)]; exact h.h1, by rw [List.getElem?_set_self hl], by have := h.len; simp at this; omega⟩
theorem Hq.app {z : Int} (h : Hq S cs st) (hl : cs.length < 60) : Hq (S.set 0 (.lst ((cs ++ [z]).map .int))) (cs ++ [z]) st := by
  have hl' : 0 < S.length := (List.getElem?_eq_some_iff.mp h.h0).1
  exact ⟨by rw [List.getElem?_set_ne (by decide)]; exact h.h1, by rw [List.getElem?_set_self hl'], by simp; omega⟩
theorem Hq.stir {z : Int} (h : Hq S cs st) : Hq (S.set 1 (.lst [.obj 0, .int z])) cs z := by
  have hl : 1 < S.length := (List.getElem?_eq_some_iff.mp h.h1).1
  exact ⟨by rw [List.getElem?_set_self hl], by rw [List.getElem?_set_ne (by decide)]; exact h.h0, h.len⟩
/-- the while of a draw -/
theorem dW {x : Sl} : ∀ (k : Nat) (cs : List Int) (S : Sto), Hq S cs st → cs.length < k → Gv (whileM dT dB k [.va (.obj 1), .va (.int n), x]) S fun f S' => f = .nx [.va (.obj 1), .va (.int n), x] ∧ (∃ cs', Hq S' cs' st) ∧ Frm S S'
  | 0, cs, S, h, hk => absurd hk (Nat.not_lt_zero _)
  | k + 1, cs, S, h, hk => by
    rcases List.eq_nil_or_concat cs with rfl | ⟨cs', z, rfl⟩
    · have e : dT (view true [.va (.obj 1), .va (.int n), x]) S = .ok false S := by
        simp only [dT, mVar, mC, mOp, mUn, mCall, mCons, mNil, mIf, mAnd, mOr, mNot, mB, mTV, mAndV, mOrV, mNotV, mChain, asB, mIter, mItems, mValues, mIterA, mCut, mSome, mNone, pInt, mCallG, mCallK, sel, M.ret_bnd, M.opt_some, M.ass_t, M.bnd_bnd, M.stk_bnd, view, Sl.see, List.map_cons, List.map_nil, List.getElem?_cons_zero, List.getElem?_cons_succ, Option.join_some, List.set_cons_zero, List.set_cons_succ, sSeq, sRet, sN, sIf, sAsg, sDrop, sNext, sUnp, sFor, sRetN, mBody, outV, startEn, List.length_cons, List.length_nil, List.replicate_succ, List.replicate_zero, List.cons_append, List.nil_append, M.calm_ret, small, tgN, tgTup, tgCons, tgNil, gvN, gvTup, gvCons, gvNil, wipeN, Option.toList_some, List.append_nil, if_true, Bool.not_true, Bool.not_false, Option.bind_some, items, itemsI, itemsV, dLst, M.bnd_app, ix_h0 h, ne_h0 h, M.ret_app, mNil, oNeg]
        simp [small, sizeLine_eq, M.bnd_app, ne_h0 h, M.ret_app]
      unfold Gv
      simp only [whileM, M.bnd_app, e]
      exact ⟨rfl, ⟨[], h⟩, Frm.refl S⟩
    · have e0 : (List.concat cs' z) = cs' ++ [z] := by simp
      rw [e0] at h hk
      have e : dT (view true [.va (.obj 1), .va (.int n), x]) S = .ok (decide (z = 0)) S := by
        simp only [dT, mVar, mC, mOp, mUn, mCall, mCons, mNil, mIf, mAnd, mOr, mNot, mB, mTV, mAndV, mOrV, mNotV, mChain, asB, mIter, mItems, mValues, mIterA, mCut, mSome, mNone, pInt, mCallG, mCallK, sel, M.ret_bnd, M.opt_some, M.ass_t, M.bnd_bnd, M.stk_bnd, view, Sl.see, List.map_cons, List.map_nil, List.getElem?_cons_zero, List.getElem?_cons_succ, Option.join_some, List.set_cons_zero, List.set_cons_succ, sSeq, sRet, sN, sIf, sAsg, sDrop, sNext, sUnp, sFor, sRetN, mBody, outV, startEn, List.length_cons, List.length_nil, List.replicate_succ, List.replicate_zero, List.cons_append, List.nil_append, M.calm_ret, small, tgN, tgTup, tgCons, tgNil, gvN, gvTup, gvCons, gvNil, wipeN, Option.toList_some, List.append_nil, if_true, Bool.not_true, Bool.not_false, Option.bind_some, items, itemsI, itemsV, dLst, M.bnd_app, ix_h0 h, ne_h0 h, M.ret_app, mNil, oNeg]
        simp [small, sizeLine_eq, M.bnd_app, ne_h0 h, M.ret_app, ix_h0 h, ix_last h, eq_s, asB]
      unfold Gv
      simp only [whileM, M.bnd_app, e]
      by_cases hz : z = 0
      · have e2 : dB [.va (.obj 1), .va (.int n), x] S = .ok (.nx [.va (.obj 1), .va (.int n), x]) (S.set 0 (.lst (cs'.map .int))) := by
          simp only [dB, mVar, mC, mOp, mUn, mCall, mCons, mNil, mIf, mAnd, mOr, mNot, mB, mTV, mAndV, mOrV, mNotV, mChain, asB, mIter, mItems, mValues, mIterA, mCut, mSome, mNone, pInt, mCallG, mCallK, sel, M.ret_bnd, M.opt_some, M.ass_t, M.bnd_bnd, M.stk_bnd, view, Sl.see, List.map_cons, List.map_nil, List.getElem?_cons_zero, List.getElem?_cons_succ, Option.join_some, List.set_cons_zero, List.set_cons_succ, sSeq, sRet, sN, sIf, sAsg, sDrop, sNext, sUnp, sFor, sRetN, mBody, outV, startEn, List.length_cons, List.length_nil, List.replicate_succ, List.replicate_zero, List.cons_append, List.nil_append, M.calm_ret, small, tgN, tgTup, tgCons, tgNil, gvN, gvTup, gvCons, gvNil, wipeN, Option.toList_some, List.append_nil, if_true, Bool.not_true, Bool.not_false, Option.bind_some, items, itemsI, itemsV, M.bnd_app, ix_h0 h, pop_h0 h, M.ret_app]
        rw [if_pos (decide_eq_true hz)]
        simp only [M.bnd_app, e2]
        have ih := dW (x := x) k cs' _ h.pop (by simp at hk; omega)
        exact ih.mono fun f S' ⟨a, b, c⟩ => ⟨a, b, (Frm.set (by decide)).trans c⟩
      · rw [if_neg (by simp [hz])]
        exact ⟨rfl, ⟨_, h⟩, Frm.refl S⟩
theorem fmod_lo {a n : Int} (hn : 0 < n) : 0 ≤ a.fmod n := Int.fmod_nonneg_of_pos a hn
theorem fmod_hi {a n : Int} (hn : 0 < n) : a.fmod n < n := Int.fmod_lt_of_pos a hn
/-- a draw: some whole number from 0 on, below n -/
theorem draw_gv {n : Int} (hs : HqOk S) (h0 : 0 < n) (h1 : n < 1000000) : Gv (m_u_law_draw [.obj 1, .int n]) S fun d S' => (∃ i : Int, d = .int i ∧ 0 ≤ i ∧ i < n) ∧ HqOk S' ∧ Frm S S' := by
  obtain ⟨cs, st, h⟩ := hs
  show Gv (M.bnd (M.ass (decide (2 = 2))) fun _ => M.bnd (b_u_law_draw [.va (.obj 1), .va (.int n), .no]) outV) S _
  refine Gv.seq (ass_tt (by decide)) (Gv.bnd ?_)
  show Gv (sSeq (whileM dT dB 70) _ _) S _
  unfold sSeq
  refine Gv.bnd ((dW 70 cs S h (by have := h.len; omega)).mono fun f S1 ⟨ef, ⟨cs1, g⟩, fr⟩ => ?_)
  subst ef
  have n0 : (n ≠ 0) := by omega
  have n1 : n.natAbs < 1073741824 := by omega
  rcases List.eq_nil_or_concat cs1 with rfl | ⟨cs', z, rfl⟩
  · unfold Gv
    simp only [mVar, mC, mOp, mUn, mCall, mCons, mNil, mIf, mAnd, mOr, mNot, mB, mTV, mAndV, mOrV, mNotV, mChain, asB, mIter, mItems, mValues, mIterA, mCut, mSome, mNone, pInt, mCallG, mCallK, sel, M.ret_bnd, M.opt_some, M.ass_t, M.bnd_bnd, M.stk_bnd, view, Sl.see, List.map_cons, List.map_nil, List.getElem?_cons_zero, List.getElem?_cons_succ, Option.join_some, List.set_cons_zero, List.set_cons_succ, sSeq, sRet, sN, sIf, sAsg, sDrop, sNext, sUnp, sFor, sRetN, mBody, outV, startEn, List.length_cons, List.length_nil, List.replicate_succ, List.replicate_zero, List.cons_append, List.nil_append, M.calm_ret, small, tgN, tgTup, tgCons, tgNil, gvN, gvTup, gvCons, gvNil, wipeN, Option.toList_some, List.append_nil, if_true, Bool.not_true, Bool.not_false, Option.bind_some, items, itemsI, itemsV, dLst, M.bnd_app, ix_h0 g, ne_h0 g, M.ret_app, mNil]
    simp [small, sizeLine_eq, M.bnd_app, ne_h0 g, M.ret_app, mSetS, ix_h1 g, oMul, near64, oAdd, bInt, oMod, set_h1 g, sV, D.imm, asB, sRet, sN, mOp, mVar, mC, mCall, mCons, mNil, view, Sl.see, ix_h1 g.stir, oFdiv, n0, outV]
    exact ⟨⟨fmod_lo h0, fmod_hi h0⟩, ⟨_, _, g.stir⟩, fr.trans (Frm.set (by decide))⟩
  · have e0 : (List.concat cs' z) = cs' ++ [z] := by simp
    rw [e0] at g
    have hl : cs'.length < 60 := by have := g.len; simp at this; omega
    unfold Gv
    simp only [mVar, mC, mOp, mUn, mCall, mCons, mNil, mIf, mAnd, mOr, mNot, mB, mTV, mAndV, mOrV, mNotV, mChain, asB, mIter, mItems, mValues, mIterA, mCut, mSome, mNone, pInt, mCallG, mCallK, sel, M.ret_bnd, M.opt_some, M.ass_t, M.bnd_bnd, M.stk_bnd, view, Sl.see, List.map_cons, List.map_nil, List.getElem?_cons_zero, List.getElem?_cons_succ, Option.join_some, List.set_cons_zero, List.set_cons_succ, sSeq, sRet, sN, sIf, sAsg, sDrop, sNext, sUnp, sFor, sRetN, mBody, outV, startEn, List.length_cons, List.length_nil, List.replicate_succ, List.replicate_zero, List.cons_append, List.nil_append, M.calm_ret, small, tgN, tgTup, tgCons, tgNil, gvN, gvTup, gvCons, gvNil, wipeN, Option.toList_some, List.append_nil, if_true, Bool.not_true, Bool.not_false, Option.bind_some, items, itemsI, itemsV, dLst, M.bnd_app, ix_h0 g, ne_h0 g, M.ret_app, mNil]
    simp [small, sizeLine_eq, M.bnd_app, ne_h0 g, M.ret_app, ix_h0 g, pop_h0 g, asB, sAsg, sDrop, sN, sRet, sSeq, mUn, mOp, mVar, mC, mCall, mCons, mNil, view, Sl.see, ix_h0 g.pop, mApp, oFdiv, n0, n1, isLstS, soOf, sGet, g.pop.h0, app_h0 g.pop, bInt, oMod, outV, -List.map_append]
    have q := g.pop.app (z := z.fdiv n) hl
    rw [List.set_set] at q
    exact ⟨⟨fmod_lo h0, fmod_hi h0⟩, ⟨_, _, q⟩, fr.trans (Frm.set (by decide))⟩
theorem atI_nat {α : Type} {xs : List α} {i : Int} (h0 : 0 ≤ i) (h1 : i < xs.length) : ∃ x, x ∈ xs ∧ atI xs i = some x := by
  unfold atI ixN
  rw [if_pos h0, if_pos h1]
  have hl : i.toNat < xs.length := by omega
  exact ⟨xs[i.toNat], List.getElem_mem hl, by simp [hl]⟩
theorem pick_gv {ds : List D} (hs : HqOk S) (h0 : 0 < ds.length) (h1 : ds.length < 1000000) : Gv (m_u_law_pick [.obj 1, .lst ds]) S fun d S' => d ∈ ds ∧ HqOk S' ∧ Frm S S' := by
  have dr := draw_gv (n := (ds.length : Int)) hs (by omega) (by omega)
  obtain ⟨d, S', e, ⟨i, ed, hi0, hi1⟩, ok, fr⟩ := dr.get
  subst ed
  obtain ⟨x, hx, ex⟩ := atI_nat (xs := ds) hi0 hi1
  unfold Gv
  simp only [m_u_law_pick, b_u_law_pick, N_u_law_pick, mVar, mC, mOp, mUn, mCall, mCons, mNil, mIf, mAnd, mOr, mNot, mB, mTV, mAndV, mOrV, mNotV, mChain, asB, mIter, mItems, mValues, mIterA, mCut, mSome, mNone, pInt, mCallG, mCallK, sel, M.ret_bnd, M.opt_some, M.ass_t, M.bnd_bnd, M.stk_bnd, view, Sl.see, List.map_cons, List.map_nil, List.getElem?_cons_zero, List.getElem?_cons_succ, Option.join_some, List.set_cons_zero, List.set_cons_succ, sSeq, sRet, sN, sIf, sAsg, sDrop, sNext, sUnp, sFor, sRetN, mBody, outV, startEn, List.length_cons, List.length_nil, List.replicate_succ, List.replicate_zero, List.cons_append, List.nil_append, M.calm_ret, small, tgN, tgTup, tgCons, tgNil, gvN, gvTup, gvCons, gvNil, wipeN, Option.toList_some, List.append_nil, if_true, Bool.not_true, Bool.not_false, Option.bind_some, items, itemsI, itemsV, bLen, M.bnd_app, decide_true, M.ret_app, e, oIx, ex]
  exact ⟨hx, ok, fr⟩
end
end Fw

namespace Fw
open PySem PySem.Spec PyProof.Rows L2

/-! ### typed data -/
structure It where
  k : Int
  v : List Int
  ls : List (Str × Int)
def eV (v : List Int) : D := .tup (v.map .int)
def eL (p : Str × Int) : D := .tup [.str p.1, .int p.2]
def eLs (ls : List (Str × Int)) : D := .tup (ls.map eL)
def eI (it : It) : D := .tup [.int it.k, eV it.v, eLs it.ls]
inductive Kn where
  | sq | un | su | mo
def Kn.s : Kn → Str
  | .sq => "square"
  | .un => "unlike"
  | .su => "sum"
  | .mo => "most"
inductive Sv1 where
  | all | has (s : Str) | rng (s : Str) (a b : Int) | noh (s : Str)
inductive Sv where
  | one (a : Sv1) | both (c : Bool) (a b : Sv1)
def eS1 : Sv1 → D
  | .all => .tup [.str "all"]
  | .has s => .tup [.str "has", .str s]
  | .rng s a b => .tup [.str "in", .str s, .int a, .int b]
  | .noh s => .tup [.str "not", .tup [.str "has", .str s]]
def eS : Sv → D
  | .one a => eS1 a
  | .both c a b => .tup [.str (if c then "and" else "or"), eS1 a, eS1 b]
/-! literals compared -/
theorem lit_eq {a b : Str} {r : Bool} (ha : PyData.strOk a = true) (hb : PyData.strOk b = true) (h : (a == b) = r) : oEq (.str a) (.str b) = M.ret (.bl r) := by rw [eq_str ha hb, h]
theorem lit_ne {a b : Str} {r : Bool} (ha : PyData.strOk a = true) (hb : PyData.strOk b = true) (h : (a == b) = !r) : oNe (.str a) (.str b) = M.ret (.bl r) := by rw [ne_str ha hb, h, Bool.not_not]
theorem l1 : oEq (.str Kn.sq.s) (.str "square") = M.ret (.bl true) := lit_eq (by decide +kernel) (by decide +kernel) (by decide +kernel)
theorem l2 : oEq (.str Kn.un.s) (.str "square") = M.ret (.bl false) := lit_eq (by decide +kernel) (by decide +kernel) (by decide +kernel)
theorem l3 : oEq (.str Kn.su.s) (.str "square") = M.ret (.bl false) := lit_eq (by decide +kernel) (by decide +kernel) (by decide +kernel)
theorem l4 : oEq (.str Kn.mo.s) (.str "square") = M.ret (.bl false) := lit_eq (by decide +kernel) (by decide +kernel) (by decide +kernel)
theorem l5 : oEq (.str Kn.un.s) (.str "unlike") = M.ret (.bl true) := lit_eq (by decide +kernel) (by decide +kernel) (by decide +kernel)
theorem l6 : oEq (.str Kn.su.s) (.str "unlike") = M.ret (.bl false) := lit_eq (by decide +kernel) (by decide +kernel) (by decide +kernel)
theorem l7 : oEq (.str Kn.mo.s) (.str "unlike") = M.ret (.bl false) := lit_eq (by decide +kernel) (by decide +kernel) (by decide +kernel)
theorem l8 : oEq (.str Kn.su.s) (.str "sum") = M.ret (.bl true) := lit_eq (by decide +kernel) (by decide +kernel) (by decide +kernel)
theorem l9 : oEq (.str Kn.mo.s) (.str "sum") = M.ret (.bl false) := lit_eq (by decide +kernel) (by decide +kernel) (by decide +kernel)
theorem l10 : oEq (.str Kn.mo.s) (.str "most") = M.ret (.bl true) := lit_eq (by decide +kernel) (by decide +kernel) (by decide +kernel)
theorem l11 : oEq (.str Kn.sq.s) (.str "most") = M.ret (.bl false) := lit_eq (by decide +kernel) (by decide +kernel) (by decide +kernel)
theorem l12 : oEq (.str Kn.un.s) (.str "most") = M.ret (.bl false) := lit_eq (by decide +kernel) (by decide +kernel) (by decide +kernel)
theorem l13 : oEq (.str Kn.su.s) (.str "most") = M.ret (.bl false) := lit_eq (by decide +kernel) (by decide +kernel) (by decide +kernel)
/-! ### distances -/
def part (k : Kn) (d : Int) : Int := match k with
  | .sq => d * d
  | .un => if d = 0 then 0 else 1
  | _ => if d < 0 then -d else d
def maxZ (l : List Int) : Int := if l = [] then 0 else maxL l
def joined (k : Kn) (l : List Int) : Int := match k with
  | .mo => maxZ l
  | _ => l.sum
def subs (a b : List Int) : List Int := (a.zip b).map fun p => p.1 - p.2
def dist (k : Kn) (a b : List Int) : Int := joined k ((subs a b).map (part k))
theorem intsD_map : ∀ l : List Int, intsD (l.map .int) = some l
  | [] => by simp only [List.map_nil, intsD]
  | a :: l => by simp only [List.map_cons, intsD, intsD_map l, Option.map_some]
theorem zip_map {α β : Type} (f : α → D) (g : β → D) : ∀ (a : List α) (b : List β), ((a.map f).zip (b.map g)).map (fun p => D.tup [p.1, p.2]) = (a.zip b).map fun p => D.tup [f p.1, g p.2]
  | [], b => by simp
  | a :: as, [] => by simp
  | a :: as, b :: bs => by simp [zip_map f g as bs]
def nearD (d : Int) : Prop := d.natAbs < 2 ^ 60
theorem part_ev (k : Kn) (d : Int) (h : nearD d) : m_upart_of [.str k.s, .int d] = M.ret (.int (part k d)) := by
  have n1 : near64 d = true := by unfold nearD at h; unfold near64; simp; omega
  cases k
  · simp only [m_upart_of, b_upart_of, N_upart_of, mVar, mC, mOp, mUn, mCall, mCons, mNil, mIf, mAnd, mOr, mNot, mB, mTV, mAndV, mOrV, mNotV, mChain, asB, mIter, mItems, mValues, mIterA, mCut, mSome, mNone, pInt, mCallG, mCallK, sel, M.ret_bnd, M.opt_some, M.ass_t, M.bnd_bnd, M.stk_bnd, view, Sl.see, List.map_cons, List.map_nil, List.getElem?_cons_zero, List.getElem?_cons_succ, Option.join_some, List.set_cons_zero, List.set_cons_succ, sSeq, sRet, sN, sIf, sAsg, sDrop, sNext, sUnp, sFor, sRetN, mBody, outV, startEn, List.length_cons, List.length_nil, List.replicate_succ, List.replicate_zero, List.cons_append, List.nil_append, M.calm_ret, small, tgN, tgTup, tgCons, tgNil, gvN, gvTup, gvCons, gvNil, wipeN, Option.toList_some, List.append_nil, if_true, Bool.not_true, Bool.not_false, Option.bind_some, items, itemsI, itemsV, decide_true, l1, oMul, n1, Bool.true_or, part]
  · simp only [m_upart_of, b_upart_of, N_upart_of, mVar, mC, mOp, mUn, mCall, mCons, mNil, mIf, mAnd, mOr, mNot, mB, mTV, mAndV, mOrV, mNotV, mChain, asB, mIter, mItems, mValues, mIterA, mCut, mSome, mNone, pInt, mCallG, mCallK, sel, M.ret_bnd, M.opt_some, M.ass_t, M.bnd_bnd, M.stk_bnd, view, Sl.see, List.map_cons, List.map_nil, List.getElem?_cons_zero, List.getElem?_cons_succ, Option.join_some, List.set_cons_zero, List.set_cons_succ, sSeq, sRet, sN, sIf, sAsg, sDrop, sNext, sUnp, sFor, sRetN, mBody, outV, startEn, List.length_cons, List.length_nil, List.replicate_succ, List.replicate_zero, List.cons_append, List.nil_append, M.calm_ret, small, tgN, tgTup, tgCons, tgNil, gvN, gvTup, gvCons, gvNil, wipeN, Option.toList_some, List.append_nil, if_true, Bool.not_true, Bool.not_false, Option.bind_some, items, itemsI, itemsV, decide_true, l2, l5, ne_int, part, Bool.false_eq_true, if_false]
    by_cases h0 : d = 0 <;> simp [h0, M.ret_bnd, mVar, mC, mOp, mUn, mCall, mCons, mNil, mIf, mAnd, mOr, mNot, mB, mTV, mAndV, mOrV, mNotV, mChain, asB, mIter, mItems, mValues, mIterA, mCut, mSome, mNone, pInt, mCallG, mCallK, sel, M.ret_bnd, M.opt_some, M.ass_t, M.bnd_bnd, M.stk_bnd, view, Sl.see, List.map_cons, List.map_nil, List.getElem?_cons_zero, List.getElem?_cons_succ, Option.join_some, List.set_cons_zero, List.set_cons_succ, sSeq, sRet, sN, sIf, sAsg, sDrop, sNext, sUnp, sFor, sRetN, mBody, outV, startEn, List.length_cons, List.length_nil, List.replicate_succ, List.replicate_zero, List.cons_append, List.nil_append, M.calm_ret, small, tgN, tgTup, tgCons, tgNil, gvN, gvTup, gvCons, gvNil, wipeN, Option.toList_some, List.append_nil, if_true, Bool.not_true, Bool.not_false, Option.bind_some, items, itemsI, itemsV]
  · simp only [m_upart_of, b_upart_of, N_upart_of, mVar, mC, mOp, mUn, mCall, mCons, mNil, mIf, mAnd, mOr, mNot, mB, mTV, mAndV, mOrV, mNotV, mChain, asB, mIter, mItems, mValues, mIterA, mCut, mSome, mNone, pInt, mCallG, mCallK, sel, M.ret_bnd, M.opt_some, M.ass_t, M.bnd_bnd, M.stk_bnd, view, Sl.see, List.map_cons, List.map_nil, List.getElem?_cons_zero, List.getElem?_cons_succ, Option.join_some, List.set_cons_zero, List.set_cons_succ, sSeq, sRet, sN, sIf, sAsg, sDrop, sNext, sUnp, sFor, sRetN, mBody, outV, startEn, List.length_cons, List.length_nil, List.replicate_succ, List.replicate_zero, List.cons_append, List.nil_append, M.calm_ret, small, tgN, tgTup, tgCons, tgNil, gvN, gvTup, gvCons, gvNil, wipeN, Option.toList_some, List.append_nil, if_true, Bool.not_true, Bool.not_false, Option.bind_some, items, itemsI, itemsV, decide_true, l3, l6, bAbs, part, Bool.false_eq_true, if_false]
  · simp only [m_upart_of, b_upart_of, N_upart_of, mVar, mC, mOp, mUn, mCall, mCons, mNil, mIf, mAnd, mOr, mNot, mB, mTV, mAndV, mOrV, mNotV, mChain, asB, mIter, mItems, mValues, mIterA, mCut, mSome, mNone, pInt, mCallG, mCallK, sel, M.ret_bnd, M.opt_some, M.ass_t, M.bnd_bnd, M.stk_bnd, view, Sl.see, List.map_cons, List.map_nil, List.getElem?_cons_zero, List.getElem?_cons_succ, Option.join_some, List.set_cons_zero, List.set_cons_succ, sSeq, sRet, sN, sIf, sAsg, sDrop, sNext, sUnp, sFor, sRetN, mBody, outV, startEn, List.length_cons, List.length_nil, List.replicate_succ, List.replicate_zero, List.cons_append, List.nil_append, M.calm_ret, small, tgN, tgTup, tgCons, tgNil, gvN, gvTup, gvCons, gvNil, wipeN, Option.toList_some, List.append_nil, if_true, Bool.not_true, Bool.not_false, Option.bind_some, items, itemsI, itemsV, decide_true, l4, l7, bAbs, part, Bool.false_eq_true, if_false]
theorem joined_ev (k : Kn) (l : List Int) : m_ujoined_parts [.str k.s, .lst (l.map .int)] = M.ret (.int (joined k l)) := by
  cases k
  · simp only [m_ujoined_parts, b_ujoined_parts, N_ujoined_parts, mVar, mC, mOp, mUn, mCall, mCons, mNil, mIf, mAnd, mOr, mNot, mB, mTV, mAndV, mOrV, mNotV, mChain, asB, mIter, mItems, mValues, mIterA, mCut, mSome, mNone, pInt, mCallG, mCallK, sel, M.ret_bnd, M.opt_some, M.ass_t, M.bnd_bnd, M.stk_bnd, view, Sl.see, List.map_cons, List.map_nil, List.getElem?_cons_zero, List.getElem?_cons_succ, Option.join_some, List.set_cons_zero, List.set_cons_succ, sSeq, sRet, sN, sIf, sAsg, sDrop, sNext, sUnp, sFor, sRetN, mBody, outV, startEn, List.length_cons, List.length_nil, List.replicate_succ, List.replicate_zero, List.cons_append, List.nil_append, M.calm_ret, small, tgN, tgTup, tgCons, tgNil, gvN, gvTup, gvCons, gvNil, wipeN, Option.toList_some, List.append_nil, if_true, Bool.not_true, Bool.not_false, Option.bind_some, items, itemsI, itemsV, decide_true, l11, bSum, intsD_map, joined, Bool.false_eq_true, if_false]
  · simp only [m_ujoined_parts, b_ujoined_parts, N_ujoined_parts, mVar, mC, mOp, mUn, mCall, mCons, mNil, mIf, mAnd, mOr, mNot, mB, mTV, mAndV, mOrV, mNotV, mChain, asB, mIter, mItems, mValues, mIterA, mCut, mSome, mNone, pInt, mCallG, mCallK, sel, M.ret_bnd, M.opt_some, M.ass_t, M.bnd_bnd, M.stk_bnd, view, Sl.see, List.map_cons, List.map_nil, List.getElem?_cons_zero, List.getElem?_cons_succ, Option.join_some, List.set_cons_zero, List.set_cons_succ, sSeq, sRet, sN, sIf, sAsg, sDrop, sNext, sUnp, sFor, sRetN, mBody, outV, startEn, List.length_cons, List.length_nil, List.replicate_succ, List.replicate_zero, List.cons_append, List.nil_append, M.calm_ret, small, tgN, tgTup, tgCons, tgNil, gvN, gvTup, gvCons, gvNil, wipeN, Option.toList_some, List.append_nil, if_true, Bool.not_true, Bool.not_false, Option.bind_some, items, itemsI, itemsV, decide_true, l12, bSum, intsD_map, joined, Bool.false_eq_true, if_false]
  · simp only [m_ujoined_parts, b_ujoined_parts, N_ujoined_parts, mVar, mC, mOp, mUn, mCall, mCons, mNil, mIf, mAnd, mOr, mNot, mB, mTV, mAndV, mOrV, mNotV, mChain, asB, mIter, mItems, mValues, mIterA, mCut, mSome, mNone, pInt, mCallG, mCallK, sel, M.ret_bnd, M.opt_some, M.ass_t, M.bnd_bnd, M.stk_bnd, view, Sl.see, List.map_cons, List.map_nil, List.getElem?_cons_zero, List.getElem?_cons_succ, Option.join_some, List.set_cons_zero, List.set_cons_succ, sSeq, sRet, sN, sIf, sAsg, sDrop, sNext, sUnp, sFor, sRetN, mBody, outV, startEn, List.length_cons, List.length_nil, List.replicate_succ, List.replicate_zero, List.cons_append, List.nil_append, M.calm_ret, small, tgN, tgTup, tgCons, tgNil, gvN, gvTup, gvCons, gvNil, wipeN, Option.toList_some, List.append_nil, if_true, Bool.not_true, Bool.not_false, Option.bind_some, items, itemsI, itemsV, decide_true, l13, bSum, intsD_map, joined, Bool.false_eq_true, if_false]
  · simp only [m_ujoined_parts, b_ujoined_parts, N_ujoined_parts, mVar, mC, mOp, mUn, mCall, mCons, mNil, mIf, mAnd, mOr, mNot, mB, mTV, mAndV, mOrV, mNotV, mChain, asB, mIter, mItems, mValues, mIterA, mCut, mSome, mNone, pInt, mCallG, mCallK, sel, M.ret_bnd, M.opt_some, M.ass_t, M.bnd_bnd, M.stk_bnd, view, Sl.see, List.map_cons, List.map_nil, List.getElem?_cons_zero, List.getElem?_cons_succ, Option.join_some, List.set_cons_zero, List.set_cons_succ, sSeq, sRet, sN, sIf, sAsg, sDrop, sNext, sUnp, sFor, sRetN, mBody, outV, startEn, List.length_cons, List.length_nil, List.replicate_succ, List.replicate_zero, List.cons_append, List.nil_append, M.calm_ret, small, tgN, tgTup, tgCons, tgNil, gvN, gvTup, gvCons, gvNil, wipeN, Option.toList_some, List.append_nil, if_true, Bool.not_true, Bool.not_false, Option.bind_some, items, itemsI, itemsV, decide_true, l10, bMaxD, intsD_map, joined, maxZ]
    by_cases h : l = [] <;> simp [h, M.ret_bnd, outV]
theorem subs_ev (a b : List Int) (hl : a.length ≤ 1000) : m_udifferences [eV a, eV b] = M.ret (eV (subs a b)) := by
  have q := lc_map1 (α := Int × Int) (fun p => .tup [.int p.1, .int p.2]) (mi := mIterA zipD (mCons (mVar 0) (mCons (mVar 1) mNil))) (tg := gvTup 2 (gvCons (gvN 2) (gvCons (gvN 3) gvNil))) (e := mOp oSub (mVar 2) (mVar 3)) (vs := [2, 3]) (env := [some (eV a), some (eV b), none, none])
    (f := fun p => .int (p.1 - p.2)) (fun p => [some (eV a), some (eV b), some (.int p.1), some (.int p.2)]) (a.zip b) (by simp only [mVar, mC, mOp, mUn, mCall, mCons, mNil, mIf, mAnd, mOr, mNot, mB, mTV, mAndV, mOrV, mNotV, mChain, asB, mIter, mItems, mValues, mIterA, mCut, mSome, mNone, pInt, mCallG, mCallK, sel, M.ret_bnd, M.opt_some, M.ass_t, M.bnd_bnd, M.stk_bnd, view, Sl.see, List.map_cons, List.map_nil, List.getElem?_cons_zero, List.getElem?_cons_succ, Option.join_some, List.set_cons_zero, List.set_cons_succ, sSeq, sRet, sN, sIf, sAsg, sDrop, sNext, sUnp, sFor, sRetN, mBody, outV, startEn, List.length_cons, List.length_nil, List.replicate_succ, List.replicate_zero, List.cons_append, List.nil_append, M.calm_ret, small, tgN, tgTup, tgCons, tgNil, gvN, gvTup, gvCons, gvNil, wipeN, Option.toList_some, List.append_nil, if_true, Bool.not_true, Bool.not_false, Option.bind_some, items, itemsI, itemsV, eV, zipD, zip_map]) (by simp; omega) (fun x _ => by simp only [mVar, mC, mOp, mUn, mCall, mCons, mNil, mIf, mAnd, mOr, mNot, mB, mTV, mAndV, mOrV, mNotV, mChain, asB, mIter, mItems, mValues, mIterA, mCut, mSome, mNone, pInt, mCallG, mCallK, sel, M.ret_bnd, M.opt_some, M.ass_t, M.bnd_bnd, M.stk_bnd, view, Sl.see, List.map_cons, List.map_nil, List.getElem?_cons_zero, List.getElem?_cons_succ, Option.join_some, List.set_cons_zero, List.set_cons_succ, sSeq, sRet, sN, sIf, sAsg, sDrop, sNext, sUnp, sFor, sRetN, mBody, outV, startEn, List.length_cons, List.length_nil, List.replicate_succ, List.replicate_zero, List.cons_append, List.nil_append, M.calm_ret, small, tgN, tgTup, tgCons, tgNil, gvN, gvTup, gvCons, gvNil, wipeN, Option.toList_some, List.append_nil, if_true, Bool.not_true, Bool.not_false, Option.bind_some, items, itemsI, itemsV]) (fun x _ => by simp only [mVar, mC, mOp, mUn, mCall, mCons, mNil, mIf, mAnd, mOr, mNot, mB, mTV, mAndV, mOrV, mNotV, mChain, asB, mIter, mItems, mValues, mIterA, mCut, mSome, mNone, pInt, mCallG, mCallK, sel, M.ret_bnd, M.opt_some, M.ass_t, M.bnd_bnd, M.stk_bnd, view, Sl.see, List.map_cons, List.map_nil, List.getElem?_cons_zero, List.getElem?_cons_succ, Option.join_some, List.set_cons_zero, List.set_cons_succ, sSeq, sRet, sN, sIf, sAsg, sDrop, sNext, sUnp, sFor, sRetN, mBody, outV, startEn, List.length_cons, List.length_nil, List.replicate_succ, List.replicate_zero, List.cons_append, List.nil_append, M.calm_ret, small, tgN, tgTup, tgCons, tgNil, gvN, gvTup, gvCons, gvNil, wipeN, Option.toList_some, List.append_nil, if_true, Bool.not_true, Bool.not_false, Option.bind_some, items, itemsI, itemsV, oSub])
  simp only [m_udifferences, b_udifferences, N_udifferences, mVar, mC, mOp, mUn, mCall, mCons, mNil, mIf, mAnd, mOr, mNot, mB, mTV, mAndV, mOrV, mNotV, mChain, asB, mIter, mItems, mValues, mIterA, mCut, mSome, mNone, pInt, mCallG, mCallK, sel, M.ret_bnd, M.opt_some, M.ass_t, M.bnd_bnd, M.stk_bnd, view, Sl.see, List.map_cons, List.map_nil, List.getElem?_cons_zero, List.getElem?_cons_succ, Option.join_some, List.set_cons_zero, List.set_cons_succ, sSeq, sRet, sN, sIf, sAsg, sDrop, sNext, sUnp, sFor, sRetN, mBody, outV, startEn, List.length_cons, List.length_nil, List.replicate_succ, List.replicate_zero, List.cons_append, List.nil_append, M.calm_ret, small, tgN, tgTup, tgCons, tgNil, gvN, gvTup, gvCons, gvNil, wipeN, Option.toList_some, List.append_nil, if_true, Bool.not_true, Bool.not_false, Option.bind_some, items, itemsI, itemsV, decide_true, q, bTuple]
  simp only [eV, subs, List.map_map]
  rfl
theorem dist_ev (k : Kn) (a b : List Int) (hl : a.length ≤ 1000) (hn : ∀ d ∈ subs a b, nearD d) : m_udistance [.str k.s, eV a, eV b] = M.ret (.int (dist k a b)) := by
  have q := lc_map1 (α := Int) .int (mi := mIter (mCallG m_udifferences [(0, 0), (0, 1)] [] (mCons (mVar 1) (mCons (mVar 2) mNil)) mNil)) (tg := gvN 3) (e := mCallG m_upart_of [(0, 0), (0, 1)] [] (mCons (mVar 0) (mCons (mVar 3) mNil)) mNil) (vs := [3]) (env := [some (.str k.s), some (eV a), some (eV b), none])
    (f := fun d => .int (part k d)) (fun d => [some (.str k.s), some (eV a), some (eV b), some (.int d)]) (subs a b) (by simp only [mVar, mC, mOp, mUn, mCall, mCons, mNil, mIf, mAnd, mOr, mNot, mB, mTV, mAndV, mOrV, mNotV, mChain, asB, mIter, mItems, mValues, mIterA, mCut, mSome, mNone, pInt, mCallG, mCallK, sel, M.ret_bnd, M.opt_some, M.ass_t, M.bnd_bnd, M.stk_bnd, view, Sl.see, List.map_cons, List.map_nil, List.getElem?_cons_zero, List.getElem?_cons_succ, Option.join_some, List.set_cons_zero, List.set_cons_succ, sSeq, sRet, sN, sIf, sAsg, sDrop, sNext, sUnp, sFor, sRetN, mBody, outV, startEn, List.length_cons, List.length_nil, List.replicate_succ, List.replicate_zero, List.cons_append, List.nil_append, M.calm_ret, small, tgN, tgTup, tgCons, tgNil, gvN, gvTup, gvCons, gvNil, wipeN, Option.toList_some, List.append_nil, if_true, Bool.not_true, Bool.not_false, Option.bind_some, items, itemsI, itemsV, subs_ev a b hl]; rfl) (by simp [subs]; omega) (fun x _ => by simp only [mVar, mC, mOp, mUn, mCall, mCons, mNil, mIf, mAnd, mOr, mNot, mB, mTV, mAndV, mOrV, mNotV, mChain, asB, mIter, mItems, mValues, mIterA, mCut, mSome, mNone, pInt, mCallG, mCallK, sel, M.ret_bnd, M.opt_some, M.ass_t, M.bnd_bnd, M.stk_bnd, view, Sl.see, List.map_cons, List.map_nil, List.getElem?_cons_zero, List.getElem?_cons_succ, Option.join_some, List.set_cons_zero, List.set_cons_succ, sSeq, sRet, sN, sIf, sAsg, sDrop, sNext, sUnp, sFor, sRetN, mBody, outV, startEn, List.length_cons, List.length_nil, List.replicate_succ, List.replicate_zero, List.cons_append, List.nil_append, M.calm_ret, small, tgN, tgTup, tgCons, tgNil, gvN, gvTup, gvCons, gvNil, wipeN, Option.toList_some, List.append_nil, if_true, Bool.not_true, Bool.not_false, Option.bind_some, items, itemsI, itemsV]) (fun x hx => by simp only [mVar, mC, mOp, mUn, mCall, mCons, mNil, mIf, mAnd, mOr, mNot, mB, mTV, mAndV, mOrV, mNotV, mChain, asB, mIter, mItems, mValues, mIterA, mCut, mSome, mNone, pInt, mCallG, mCallK, sel, M.ret_bnd, M.opt_some, M.ass_t, M.bnd_bnd, M.stk_bnd, view, Sl.see, List.map_cons, List.map_nil, List.getElem?_cons_zero, List.getElem?_cons_succ, Option.join_some, List.set_cons_zero, List.set_cons_succ, sSeq, sRet, sN, sIf, sAsg, sDrop, sNext, sUnp, sFor, sRetN, mBody, outV, startEn, List.length_cons, List.length_nil, List.replicate_succ, List.replicate_zero, List.cons_append, List.nil_append, M.calm_ret, small, tgN, tgTup, tgCons, tgNil, gvN, gvTup, gvCons, gvNil, wipeN, Option.toList_some, List.append_nil, if_true, Bool.not_true, Bool.not_false, Option.bind_some, items, itemsI, itemsV, part_ev k x (hn x hx)])
  have e : (subs a b).map (fun d => D.int (part k d)) = ((subs a b).map (part k)).map .int := by rw [List.map_map]; rfl
  rw [e] at q
  simp only [m_udistance, b_udistance, N_udistance, mVar, mC, mOp, mUn, mCall, mCons, mNil, mIf, mAnd, mOr, mNot, mB, mTV, mAndV, mOrV, mNotV, mChain, asB, mIter, mItems, mValues, mIterA, mCut, mSome, mNone, pInt, mCallG, mCallK, sel, M.ret_bnd, M.opt_some, M.ass_t, M.bnd_bnd, M.stk_bnd, view, Sl.see, List.map_cons, List.map_nil, List.getElem?_cons_zero, List.getElem?_cons_succ, Option.join_some, List.set_cons_zero, List.set_cons_succ, sSeq, sRet, sN, sIf, sAsg, sDrop, sNext, sUnp, sFor, sRetN, mBody, outV, startEn, List.length_cons, List.length_nil, List.replicate_succ, List.replicate_zero, List.cons_append, List.nil_append, M.calm_ret, small, tgN, tgTup, tgCons, tgNil, gvN, gvTup, gvCons, gvNil, wipeN, Option.toList_some, List.append_nil, if_true, Bool.not_true, Bool.not_false, Option.bind_some, items, itemsI, itemsV, decide_true, q, joined_ev]
  rfl
/-! the law's own -/
def absZ (d : Int) : Int := if d < 0 then -d else d
theorem absZ_sq (d : Int) : absZ d * absZ d = d * d := by
  unfold absZ
  split
  · rw [Int.neg_mul_neg]
  · rfl
theorem absZ_pos {d : Int} (h : d ≠ 0) : 0 < absZ d := by unfold absZ; split <;> omega
theorem un_sum : ∀ l : List Int, ((((l.map absZ).filter fun d => decide (0 < d)).length : Nat) : Int) = (l.map (part .un)).sum
  | [] => rfl
  | d :: l => by
    have ih := un_sum l
    rw [List.map_cons, List.map_cons, List.sum_cons, ← ih]
    by_cases h : d = 0
    · subst h
      have e : (absZ 0 :: l.map absZ).filter (fun d => decide (0 < d)) = (l.map absZ).filter fun d => decide (0 < d) := List.filter_cons_of_neg (by decide)
      rw [e]; simp [part]
    · have e : (absZ d :: l.map absZ).filter (fun d => decide (0 < d)) = absZ d :: (l.map absZ).filter fun d => decide (0 < d) := List.filter_cons_of_pos (decide_eq_true (absZ_pos h))
      rw [e, List.length_cons]; simp only [part, if_neg h]; omega
theorem far_ev (k : Kn) (a b : List Int) (ha : a ≠ []) (hb : b ≠ []) (hl : a.length ≤ 1000) (hn : ∀ d ∈ subs a b, nearD d) : m_u_law_far [.str k.s, eV a, eV b] = M.ret (.int (dist k a b)) := by
  have q := lc_map1 (α := Int × Int) (fun p => .tup [.int p.1, .int p.2]) (mi := mIterA zipD (mCons (mVar 1) (mCons (mVar 2) mNil))) (tg := gvTup 2 (gvCons (gvN 4) (gvCons (gvN 5) gvNil))) (e := mCall bAbs (mCons (mOp oSub (mVar 4) (mVar 5)) mNil)) (vs := [4, 5]) (env := [some (.str k.s), some (eV a), some (eV b), none, none, none, none])
    (f := fun p => .int (absZ (p.1 - p.2))) (fun p => [some (.str k.s), some (eV a), some (eV b), none, some (.int p.1), some (.int p.2), none]) (a.zip b) (by simp only [mVar, mC, mOp, mUn, mCall, mCons, mNil, mIf, mAnd, mOr, mNot, mB, mTV, mAndV, mOrV, mNotV, mChain, asB, mIter, mItems, mValues, mIterA, mCut, mSome, mNone, pInt, mCallG, mCallK, sel, M.ret_bnd, M.opt_some, M.ass_t, M.bnd_bnd, M.stk_bnd, view, Sl.see, List.map_cons, List.map_nil, List.getElem?_cons_zero, List.getElem?_cons_succ, Option.join_some, List.set_cons_zero, List.set_cons_succ, sSeq, sRet, sN, sIf, sAsg, sDrop, sNext, sUnp, sFor, sRetN, mBody, outV, startEn, List.length_cons, List.length_nil, List.replicate_succ, List.replicate_zero, List.cons_append, List.nil_append, M.calm_ret, small, tgN, tgTup, tgCons, tgNil, gvN, gvTup, gvCons, gvNil, wipeN, Option.toList_some, List.append_nil, if_true, Bool.not_true, Bool.not_false, Option.bind_some, items, itemsI, itemsV, eV, zipD, zip_map]) (by simp; omega) (fun x _ => by simp only [mVar, mC, mOp, mUn, mCall, mCons, mNil, mIf, mAnd, mOr, mNot, mB, mTV, mAndV, mOrV, mNotV, mChain, asB, mIter, mItems, mValues, mIterA, mCut, mSome, mNone, pInt, mCallG, mCallK, sel, M.ret_bnd, M.opt_some, M.ass_t, M.bnd_bnd, M.stk_bnd, view, Sl.see, List.map_cons, List.map_nil, List.getElem?_cons_zero, List.getElem?_cons_succ, Option.join_some, List.set_cons_zero, List.set_cons_succ, sSeq, sRet, sN, sIf, sAsg, sDrop, sNext, sUnp, sFor, sRetN, mBody, outV, startEn, List.length_cons, List.length_nil, List.replicate_succ, List.replicate_zero, List.cons_append, List.nil_append, M.calm_ret, small, tgN, tgTup, tgCons, tgNil, gvN, gvTup, gvCons, gvNil, wipeN, Option.toList_some, List.append_nil, if_true, Bool.not_true, Bool.not_false, Option.bind_some, items, itemsI, itemsV]) (fun x _ => by simp only [mVar, mC, mOp, mUn, mCall, mCons, mNil, mIf, mAnd, mOr, mNot, mB, mTV, mAndV, mOrV, mNotV, mChain, asB, mIter, mItems, mValues, mIterA, mCut, mSome, mNone, pInt, mCallG, mCallK, sel, M.ret_bnd, M.opt_some, M.ass_t, M.bnd_bnd, M.stk_bnd, view, Sl.see, List.map_cons, List.map_nil, List.getElem?_cons_zero, List.getElem?_cons_succ, Option.join_some, List.set_cons_zero, List.set_cons_succ, sSeq, sRet, sN, sIf, sAsg, sDrop, sNext, sUnp, sFor, sRetN, mBody, outV, startEn, List.length_cons, List.length_nil, List.replicate_succ, List.replicate_zero, List.cons_append, List.nil_append, M.calm_ret, small, tgN, tgTup, tgCons, tgNil, gvN, gvTup, gvCons, gvNil, wipeN, Option.toList_some, List.append_nil, if_true, Bool.not_true, Bool.not_false, Option.bind_some, items, itemsI, itemsV, oSub, bAbs, absZ])
  have e : (a.zip b).map (fun p => D.int (absZ (p.1 - p.2))) = ((subs a b).map absZ).map .int := by simp only [subs, List.map_map]; rfl
  rw [e] at q
  have hq : ∀ d ∈ (subs a b).map absZ, nearD d ∧ 0 ≤ d := fun d hd => by
    obtain ⟨c, hc, rfl⟩ := List.mem_map.mp hd
    have := hn c hc
    unfold nearD absZ at *
    split <;> omega
  have ne : (subs a b).map absZ ≠ [] := by
    cases a with
    | nil => exact absurd rfl ha
    | cons x a => cases b with
      | nil => exact absurd rfl hb
      | cons y b => simp [subs]
  have im : (D.lst (((subs a b).map absZ).map .int)).immC = true := by
    simp only [D.immC]
    exact immL_all.mpr fun d hd => by
      obtain ⟨c, _, rfl⟩ := List.mem_map.mp hd
      rfl
  generalize hg : (subs a b).map absZ = zs at *
  have ll : zs.length ≤ 1000 := by rw [← hg]; simp [subs]; omega
  cases k
  · have q2 := lc_map1 (α := Int) .int (mi := mIter (mVar 3)) (tg := gvN 6) (e := mOp oMul (mVar 6) (mVar 6)) (vs := [6]) (env := [some (.str Kn.sq.s), some (eV a), some (eV b), some (.lst (zs.map .int)), none, none, none])
      (f := fun d => .int (d * d)) (fun d => [some (.str Kn.sq.s), some (eV a), some (eV b), some (.lst (zs.map .int)), none, none, some (.int d)]) zs (by simp only [mVar, mC, mOp, mUn, mCall, mCons, mNil, mIf, mAnd, mOr, mNot, mB, mTV, mAndV, mOrV, mNotV, mChain, asB, mIter, mItems, mValues, mIterA, mCut, mSome, mNone, pInt, mCallG, mCallK, sel, M.ret_bnd, M.opt_some, M.ass_t, M.bnd_bnd, M.stk_bnd, view, Sl.see, List.map_cons, List.map_nil, List.getElem?_cons_zero, List.getElem?_cons_succ, Option.join_some, List.set_cons_zero, List.set_cons_succ, sSeq, sRet, sN, sIf, sAsg, sDrop, sNext, sUnp, sFor, sRetN, mBody, outV, startEn, List.length_cons, List.length_nil, List.replicate_succ, List.replicate_zero, List.cons_append, List.nil_append, M.calm_ret, small, tgN, tgTup, tgCons, tgNil, gvN, gvTup, gvCons, gvNil, wipeN, Option.toList_some, List.append_nil, if_true, Bool.not_true, Bool.not_false, Option.bind_some, items, itemsI, itemsV]) (by omega) (fun x _ => by simp only [mVar, mC, mOp, mUn, mCall, mCons, mNil, mIf, mAnd, mOr, mNot, mB, mTV, mAndV, mOrV, mNotV, mChain, asB, mIter, mItems, mValues, mIterA, mCut, mSome, mNone, pInt, mCallG, mCallK, sel, M.ret_bnd, M.opt_some, M.ass_t, M.bnd_bnd, M.stk_bnd, view, Sl.see, List.map_cons, List.map_nil, List.getElem?_cons_zero, List.getElem?_cons_succ, Option.join_some, List.set_cons_zero, List.set_cons_succ, sSeq, sRet, sN, sIf, sAsg, sDrop, sNext, sUnp, sFor, sRetN, mBody, outV, startEn, List.length_cons, List.length_nil, List.replicate_succ, List.replicate_zero, List.cons_append, List.nil_append, M.calm_ret, small, tgN, tgTup, tgCons, tgNil, gvN, gvTup, gvCons, gvNil, wipeN, Option.toList_some, List.append_nil, if_true, Bool.not_true, Bool.not_false, Option.bind_some, items, itemsI, itemsV])
      (fun x hx => by
        have n1 : near64 x = true := by
          have := (hq x hx).1
          unfold nearD at this; unfold near64; simp; omega
        simp only [mVar, mC, mOp, mUn, mCall, mCons, mNil, mIf, mAnd, mOr, mNot, mB, mTV, mAndV, mOrV, mNotV, mChain, asB, mIter, mItems, mValues, mIterA, mCut, mSome, mNone, pInt, mCallG, mCallK, sel, M.ret_bnd, M.opt_some, M.ass_t, M.bnd_bnd, M.stk_bnd, view, Sl.see, List.map_cons, List.map_nil, List.getElem?_cons_zero, List.getElem?_cons_succ, Option.join_some, List.set_cons_zero, List.set_cons_succ, sSeq, sRet, sN, sIf, sAsg, sDrop, sNext, sUnp, sFor, sRetN, mBody, outV, startEn, List.length_cons, List.length_nil, List.replicate_succ, List.replicate_zero, List.cons_append, List.nil_append, M.calm_ret, small, tgN, tgTup, tgCons, tgNil, gvN, gvTup, gvCons, gvNil, wipeN, Option.toList_some, List.append_nil, if_true, Bool.not_true, Bool.not_false, Option.bind_some, items, itemsI, itemsV, oMul, n1, Bool.true_or])
    have e2 : zs.map (fun d => D.int (d * d)) = (zs.map fun d => d * d).map .int := by rw [List.map_map]; rfl
    rw [e2] at q2
    have e3 : zs.map (fun d => d * d) = (subs a b).map (part .sq) := by rw [← hg, List.map_map]; exact List.map_congr_left fun d _ => absZ_sq d
    simp only [m_u_law_far, b_u_law_far, N_u_law_far, mVar, mC, mOp, mUn, mCall, mCons, mNil, mIf, mAnd, mOr, mNot, mB, mTV, mAndV, mOrV, mNotV, mChain, asB, mIter, mItems, mValues, mIterA, mCut, mSome, mNone, pInt, mCallG, mCallK, sel, M.ret_bnd, M.opt_some, M.ass_t, M.bnd_bnd, M.stk_bnd, view, Sl.see, List.map_cons, List.map_nil, List.getElem?_cons_zero, List.getElem?_cons_succ, Option.join_some, List.set_cons_zero, List.set_cons_succ, sSeq, sRet, sN, sIf, sAsg, sDrop, sNext, sUnp, sFor, sRetN, mBody, outV, startEn, List.length_cons, List.length_nil, List.replicate_succ, List.replicate_zero, List.cons_append, List.nil_append, M.calm_ret, small, tgN, tgTup, tgCons, tgNil, gvN, gvTup, gvCons, gvNil, wipeN, Option.toList_some, List.append_nil, if_true, Bool.not_true, Bool.not_false, Option.bind_some, items, itemsI, itemsV, decide_true, sF, q, im, l1, q2, bSum, intsD_map]
    rw [e3]; rfl
  · have q2 := lc_map (α := Int) .int (mi := mIter (mVar 3)) (tg := gvN 6) (t := mB (mOp (oInt fun i j => decide (j < i)) (mVar 6) (mC (.int 0)))) (e := mVar 6) (vs := [6]) (env := [some (.str Kn.un.s), some (eV a), some (eV b), some (.lst (zs.map .int)), none, none, none])
      (p := fun d => decide (0 < d)) (f := .int) (fun d => [some (.str Kn.un.s), some (eV a), some (eV b), some (.lst (zs.map .int)), none, none, some (.int d)]) zs (by simp only [mVar, mC, mOp, mUn, mCall, mCons, mNil, mIf, mAnd, mOr, mNot, mB, mTV, mAndV, mOrV, mNotV, mChain, asB, mIter, mItems, mValues, mIterA, mCut, mSome, mNone, pInt, mCallG, mCallK, sel, M.ret_bnd, M.opt_some, M.ass_t, M.bnd_bnd, M.stk_bnd, view, Sl.see, List.map_cons, List.map_nil, List.getElem?_cons_zero, List.getElem?_cons_succ, Option.join_some, List.set_cons_zero, List.set_cons_succ, sSeq, sRet, sN, sIf, sAsg, sDrop, sNext, sUnp, sFor, sRetN, mBody, outV, startEn, List.length_cons, List.length_nil, List.replicate_succ, List.replicate_zero, List.cons_append, List.nil_append, M.calm_ret, small, tgN, tgTup, tgCons, tgNil, gvN, gvTup, gvCons, gvNil, wipeN, Option.toList_some, List.append_nil, if_true, Bool.not_true, Bool.not_false, Option.bind_some, items, itemsI, itemsV]) (by omega) (fun x _ => by simp only [mVar, mC, mOp, mUn, mCall, mCons, mNil, mIf, mAnd, mOr, mNot, mB, mTV, mAndV, mOrV, mNotV, mChain, asB, mIter, mItems, mValues, mIterA, mCut, mSome, mNone, pInt, mCallG, mCallK, sel, M.ret_bnd, M.opt_some, M.ass_t, M.bnd_bnd, M.stk_bnd, view, Sl.see, List.map_cons, List.map_nil, List.getElem?_cons_zero, List.getElem?_cons_succ, Option.join_some, List.set_cons_zero, List.set_cons_succ, sSeq, sRet, sN, sIf, sAsg, sDrop, sNext, sUnp, sFor, sRetN, mBody, outV, startEn, List.length_cons, List.length_nil, List.replicate_succ, List.replicate_zero, List.cons_append, List.nil_append, M.calm_ret, small, tgN, tgTup, tgCons, tgNil, gvN, gvTup, gvCons, gvNil, wipeN, Option.toList_some, List.append_nil, if_true, Bool.not_true, Bool.not_false, Option.bind_some, items, itemsI, itemsV])
      (fun x _ => by simp only [mVar, mC, mOp, mUn, mCall, mCons, mNil, mIf, mAnd, mOr, mNot, mB, mTV, mAndV, mOrV, mNotV, mChain, asB, mIter, mItems, mValues, mIterA, mCut, mSome, mNone, pInt, mCallG, mCallK, sel, M.ret_bnd, M.opt_some, M.ass_t, M.bnd_bnd, M.stk_bnd, view, Sl.see, List.map_cons, List.map_nil, List.getElem?_cons_zero, List.getElem?_cons_succ, Option.join_some, List.set_cons_zero, List.set_cons_succ, sSeq, sRet, sN, sIf, sAsg, sDrop, sNext, sUnp, sFor, sRetN, mBody, outV, startEn, List.length_cons, List.length_nil, List.replicate_succ, List.replicate_zero, List.cons_append, List.nil_append, M.calm_ret, small, tgN, tgTup, tgCons, tgNil, gvN, gvTup, gvCons, gvNil, wipeN, Option.toList_some, List.append_nil, if_true, Bool.not_true, Bool.not_false, Option.bind_some, items, itemsI, itemsV, oInt]) (fun x _ _ => by simp only [mVar, mC, mOp, mUn, mCall, mCons, mNil, mIf, mAnd, mOr, mNot, mB, mTV, mAndV, mOrV, mNotV, mChain, asB, mIter, mItems, mValues, mIterA, mCut, mSome, mNone, pInt, mCallG, mCallK, sel, M.ret_bnd, M.opt_some, M.ass_t, M.bnd_bnd, M.stk_bnd, view, Sl.see, List.map_cons, List.map_nil, List.getElem?_cons_zero, List.getElem?_cons_succ, Option.join_some, List.set_cons_zero, List.set_cons_succ, sSeq, sRet, sN, sIf, sAsg, sDrop, sNext, sUnp, sFor, sRetN, mBody, outV, startEn, List.length_cons, List.length_nil, List.replicate_succ, List.replicate_zero, List.cons_append, List.nil_append, M.calm_ret, small, tgN, tgTup, tgCons, tgNil, gvN, gvTup, gvCons, gvNil, wipeN, Option.toList_some, List.append_nil, if_true, Bool.not_true, Bool.not_false, Option.bind_some, items, itemsI, itemsV])
    simp only [m_u_law_far, b_u_law_far, N_u_law_far, mVar, mC, mOp, mUn, mCall, mCons, mNil, mIf, mAnd, mOr, mNot, mB, mTV, mAndV, mOrV, mNotV, mChain, asB, mIter, mItems, mValues, mIterA, mCut, mSome, mNone, pInt, mCallG, mCallK, sel, M.ret_bnd, M.opt_some, M.ass_t, M.bnd_bnd, M.stk_bnd, view, Sl.see, List.map_cons, List.map_nil, List.getElem?_cons_zero, List.getElem?_cons_succ, Option.join_some, List.set_cons_zero, List.set_cons_succ, sSeq, sRet, sN, sIf, sAsg, sDrop, sNext, sUnp, sFor, sRetN, mBody, outV, startEn, List.length_cons, List.length_nil, List.replicate_succ, List.replicate_zero, List.cons_append, List.nil_append, M.calm_ret, small, tgN, tgTup, tgCons, tgNil, gvN, gvTup, gvCons, gvNil, wipeN, Option.toList_some, List.append_nil, if_true, Bool.not_true, Bool.not_false, Option.bind_some, items, itemsI, itemsV, decide_true, sF, q, im, l2, l5, q2, bLen, Bool.false_eq_true, if_false, List.length_map]
    rw [← hg, un_sum]; rfl
  · have e3 : zs = (subs a b).map (part .su) := hg.symm
    simp only [m_u_law_far, b_u_law_far, N_u_law_far, mVar, mC, mOp, mUn, mCall, mCons, mNil, mIf, mAnd, mOr, mNot, mB, mTV, mAndV, mOrV, mNotV, mChain, asB, mIter, mItems, mValues, mIterA, mCut, mSome, mNone, pInt, mCallG, mCallK, sel, M.ret_bnd, M.opt_some, M.ass_t, M.bnd_bnd, M.stk_bnd, view, Sl.see, List.map_cons, List.map_nil, List.getElem?_cons_zero, List.getElem?_cons_succ, Option.join_some, List.set_cons_zero, List.set_cons_succ, sSeq, sRet, sN, sIf, sAsg, sDrop, sNext, sUnp, sFor, sRetN, mBody, outV, startEn, List.length_cons, List.length_nil, List.replicate_succ, List.replicate_zero, List.cons_append, List.nil_append, M.calm_ret, small, tgN, tgTup, tgCons, tgNil, gvN, gvTup, gvCons, gvNil, wipeN, Option.toList_some, List.append_nil, if_true, Bool.not_true, Bool.not_false, Option.bind_some, items, itemsI, itemsV, decide_true, sF, q, im, l3, l6, l8, bSum, intsD_map, Bool.false_eq_true, if_false]
    rw [e3]; rfl
  · have e3 : zs = (subs a b).map (part .mo) := hg.symm
    have h0 : decide (0 < zs.length) = true := decide_eq_true (List.length_pos_iff.mpr ne)
    simp only [m_u_law_far, b_u_law_far, N_u_law_far, mVar, mC, mOp, mUn, mCall, mCons, mNil, mIf, mAnd, mOr, mNot, mB, mTV, mAndV, mOrV, mNotV, mChain, asB, mIter, mItems, mValues, mIterA, mCut, mSome, mNone, pInt, mCallG, mCallK, sel, M.ret_bnd, M.opt_some, M.ass_t, M.bnd_bnd, M.stk_bnd, view, Sl.see, List.map_cons, List.map_nil, List.getElem?_cons_zero, List.getElem?_cons_succ, Option.join_some, List.set_cons_zero, List.set_cons_succ, sSeq, sRet, sN, sIf, sAsg, sDrop, sNext, sUnp, sFor, sRetN, mBody, outV, startEn, List.length_cons, List.length_nil, List.replicate_succ, List.replicate_zero, List.cons_append, List.nil_append, M.calm_ret, small, tgN, tgTup, tgCons, tgNil, gvN, gvTup, gvCons, gvNil, wipeN, Option.toList_some, List.append_nil, if_true, Bool.not_true, Bool.not_false, Option.bind_some, items, itemsI, itemsV, decide_true, sF, q, im, l4, l7, l9, bMax, intsD_map, Bool.false_eq_true, if_false, h0]
    have e4 : dist .mo a b = maxL zs := by
      unfold dist joined maxZ
      rw [← e3, if_neg ne]
    rw [e4]
end Fw

namespace Fw
open PySem PySem.Spec PyProof.Rows L2

/-! ### filters -/
theorem ix_t0 {a : D} {r : List D} : oIx (.tup (a :: r)) (.int 0) = M.ret a := by
  simp only [oIx, atI, ixN, List.length_cons]
  rw [if_pos (by decide), if_pos (by omega)]; rfl
theorem ix_t1 {a b : D} {r : List D} : oIx (.tup (a :: b :: r)) (.int 1) = M.ret b := by
  simp only [oIx, atI, ixN, List.length_cons]
  rw [if_pos (by decide), if_pos (by omega)]; rfl
theorem ix_t2 {a b c : D} {r : List D} : oIx (.tup (a :: b :: c :: r)) (.int 2) = M.ret c := by
  simp only [oIx, atI, ixN, List.length_cons]
  rw [if_pos (by decide), if_pos (by omega)]; rfl
theorem ix_t3 {a b c d : D} {r : List D} : oIx (.tup (a :: b :: c :: d :: r)) (.int 3) = M.ret d := by
  simp only [oIx, atI, ixN, List.length_cons]
  rw [if_pos (by decide), if_pos (by omega)]; rfl
def lab (ls : List (Str × Int)) (s : Str) : Option Int := (ls.find? fun p => p.1 == s).map (·.2)
def LsOk (ls : List (Str × Int)) : Prop := (∀ p ∈ ls, PyData.strOk p.1 = true) ∧ ls.length ≤ 24
theorem label_loop {s : Str} (hs : PyData.strOk s = true) {A : Sl} : ∀ (ls : List (Str × Int)), (∀ p ∈ ls, PyData.strOk p.1 = true) → ∀ x y : Sl, ∃ en, loopM (tgTup 2 (tgCons (tgN 2) (tgCons (tgN 3) tgNil))) (sIf (mB (mOp oEq (mVar 2) (mVar 1)))
    (sRet (sN (mVar 3)))
    sNext) (ls.map eL) [A, .va (.str s), x, y] = M.ret (match lab ls s with | some v => Fl.rt (.int v) | none => .nx en)
  | [], _, x, y => ⟨_, rfl⟩
  | (n, v) :: ls, h, x, y => by
    have hn := h (n, v) List.mem_cons_self
    by_cases e : (n == s) = true
    · refine ⟨[], ?_⟩
      have e2 : lab ((n, v) :: ls) s = some v := by simp [lab, e]
      rw [e2]
      simp only [List.map_cons, loopM, eL, mVar, mC, mOp, mUn, mCall, mCons, mNil, mIf, mAnd, mOr, mNot, mB, mTV, mAndV, mOrV, mNotV, mChain, asB, mIter, mItems, mValues, mIterA, mCut, mSome, mNone, pInt, mCallG, mCallK, sel, M.ret_bnd, M.opt_some, M.ass_t, M.bnd_bnd, M.stk_bnd, view, Sl.see, List.map_cons, List.map_nil, List.getElem?_cons_zero, List.getElem?_cons_succ, Option.join_some, List.set_cons_zero, List.set_cons_succ, sSeq, sRet, sN, sIf, sAsg, sDrop, sNext, sUnp, sFor, sRetN, mBody, outV, startEn, List.length_cons, List.length_nil, List.replicate_succ, List.replicate_zero, List.cons_append, List.nil_append, M.calm_ret, small, tgN, tgTup, tgCons, tgNil, gvN, gvTup, gvCons, gvNil, wipeN, Option.toList_some, List.append_nil, if_true, Bool.not_true, Bool.not_false, Option.bind_some, items, itemsI, itemsV, eq_str hn hs, e]
    · obtain ⟨en, ih⟩ := label_loop hs (A := A) ls (fun p hp => h p (List.mem_cons_of_mem _ hp)) (.va (.str n)) (.va (.int v))
      refine ⟨en, ?_⟩
      have e1 : (n == s) = false := by simpa using e
      have e2 : lab ((n, v) :: ls) s = lab ls s := by simp [lab, e1]
      rw [e2, ← ih]
      simp only [List.map_cons, loopM, eL, mVar, mC, mOp, mUn, mCall, mCons, mNil, mIf, mAnd, mOr, mNot, mB, mTV, mAndV, mOrV, mNotV, mChain, asB, mIter, mItems, mValues, mIterA, mCut, mSome, mNone, pInt, mCallG, mCallK, sel, M.ret_bnd, M.opt_some, M.ass_t, M.bnd_bnd, M.stk_bnd, view, Sl.see, List.map_cons, List.map_nil, List.getElem?_cons_zero, List.getElem?_cons_succ, Option.join_some, List.set_cons_zero, List.set_cons_succ, sSeq, sRet, sN, sIf, sAsg, sDrop, sNext, sUnp, sFor, sRetN, mBody, outV, startEn, List.length_cons, List.length_nil, List.replicate_succ, List.replicate_zero, List.cons_append, List.nil_append, M.calm_ret, small, tgN, tgTup, tgCons, tgNil, gvN, gvTup, gvCons, gvNil, wipeN, Option.toList_some, List.append_nil, if_true, Bool.not_true, Bool.not_false, Option.bind_some, items, itemsI, itemsV, eq_str hn hs, e1, Bool.false_eq_true, if_false]
def oI : Option Int → D
  | some v => .int v
  | none => .non
theorem label_ev {ls : List (Str × Int)} {s : Str} (hs : PyData.strOk s = true) (h : LsOk ls) : m_ulabel_in [eLs ls, .str s] = M.ret (oI (lab ls s)) := by
  obtain ⟨en, e⟩ := label_loop hs (A := .va (.tup (ls.map eL))) ls h.1 .no .no
  simp only [m_ulabel_in, b_ulabel_in, N_ulabel_in, mVar, mC, mOp, mUn, mCall, mCons, mNil, mIf, mAnd, mOr, mNot, mB, mTV, mAndV, mOrV, mNotV, mChain, asB, mIter, mItems, mValues, mIterA, mCut, mSome, mNone, pInt, mCallG, mCallK, sel, M.ret_bnd, M.opt_some, M.ass_t, M.bnd_bnd, M.stk_bnd, view, Sl.see, List.map_cons, List.map_nil, List.getElem?_cons_zero, List.getElem?_cons_succ, Option.join_some, List.set_cons_zero, List.set_cons_succ, sSeq, sRet, sN, sIf, sAsg, sDrop, sNext, sUnp, sFor, sRetN, mBody, outV, startEn, List.length_cons, List.length_nil, List.replicate_succ, List.replicate_zero, List.cons_append, List.nil_append, M.calm_ret, small, tgN, tgTup, tgCons, tgNil, gvN, gvTup, gvCons, gvNil, wipeN, Option.toList_some, List.append_nil, if_true, Bool.not_true, Bool.not_false, Option.bind_some, items, itemsI, itemsV, decide_true, eLs] at e ⊢
  rw [e]
  cases lab ls s <;> rfl
def ok1 (a : Sv1) (ls : List (Str × Int)) : Bool := match a with
  | .all => true
  | .has s => (lab ls s).isSome
  | .rng s a b => match lab ls s with
    | some v => decide (a ≤ v) && decide (v ≤ b)
    | none => false
  | .noh s => !(lab ls s).isSome
def okS (a : Sv) (ls : List (Str × Int)) : Bool := match a with
  | .one a => ok1 a ls
  | .both true a b => ok1 a ls && ok1 b ls
  | .both false a b => ok1 a ls || ok1 b ls
def Sv1.ok : Sv1 → Prop
  | .all => True
  | .has s => PyData.strOk s = true
  | .rng s _ _ => PyData.strOk s = true
  | .noh s => PyData.strOk s = true
def Sv.ok : Sv → Prop
  | .one a => a.ok
  | .both _ a b => a.ok ∧ b.ok
theorem k1 : oEq (.str "all") (.str "all") = M.ret (.bl true) := lit_eq (by decide +kernel) (by decide +kernel) (by decide +kernel)
theorem k2 : oEq (.str "has") (.str "all") = M.ret (.bl false) := lit_eq (by decide +kernel) (by decide +kernel) (by decide +kernel)
theorem k3 : oEq (.str "in") (.str "all") = M.ret (.bl false) := lit_eq (by decide +kernel) (by decide +kernel) (by decide +kernel)
theorem k4 : oEq (.str "not") (.str "all") = M.ret (.bl false) := lit_eq (by decide +kernel) (by decide +kernel) (by decide +kernel)
theorem k5 : oEq (.str "and") (.str "all") = M.ret (.bl false) := lit_eq (by decide +kernel) (by decide +kernel) (by decide +kernel)
theorem k6 : oEq (.str "or") (.str "all") = M.ret (.bl false) := lit_eq (by decide +kernel) (by decide +kernel) (by decide +kernel)
theorem k7 : oEq (.str "has") (.str "not") = M.ret (.bl false) := lit_eq (by decide +kernel) (by decide +kernel) (by decide +kernel)
theorem k8 : oEq (.str "in") (.str "not") = M.ret (.bl false) := lit_eq (by decide +kernel) (by decide +kernel) (by decide +kernel)
theorem k9 : oEq (.str "not") (.str "not") = M.ret (.bl true) := lit_eq (by decide +kernel) (by decide +kernel) (by decide +kernel)
theorem k10 : oEq (.str "and") (.str "not") = M.ret (.bl false) := lit_eq (by decide +kernel) (by decide +kernel) (by decide +kernel)
theorem k11 : oEq (.str "or") (.str "not") = M.ret (.bl false) := lit_eq (by decide +kernel) (by decide +kernel) (by decide +kernel)
theorem k12 : oEq (.str "has") (.str "and") = M.ret (.bl false) := lit_eq (by decide +kernel) (by decide +kernel) (by decide +kernel)
theorem k13 : oEq (.str "in") (.str "and") = M.ret (.bl false) := lit_eq (by decide +kernel) (by decide +kernel) (by decide +kernel)
theorem k14 : oEq (.str "and") (.str "and") = M.ret (.bl true) := lit_eq (by decide +kernel) (by decide +kernel) (by decide +kernel)
theorem k15 : oEq (.str "or") (.str "and") = M.ret (.bl false) := lit_eq (by decide +kernel) (by decide +kernel) (by decide +kernel)
theorem k16 : oEq (.str "has") (.str "or") = M.ret (.bl false) := lit_eq (by decide +kernel) (by decide +kernel) (by decide +kernel)
theorem k17 : oEq (.str "in") (.str "or") = M.ret (.bl false) := lit_eq (by decide +kernel) (by decide +kernel) (by decide +kernel)
theorem k18 : oEq (.str "or") (.str "or") = M.ret (.bl true) := lit_eq (by decide +kernel) (by decide +kernel) (by decide +kernel)
theorem k19 : oEq (.str "has") (.str "has") = M.ret (.bl true) := lit_eq (by decide +kernel) (by decide +kernel) (by decide +kernel)
theorem k20 : oEq (.str "in") (.str "has") = M.ret (.bl false) := lit_eq (by decide +kernel) (by decide +kernel) (by decide +kernel)
theorem k21 : oEq (.str "not") (.str "has") = M.ret (.bl false) := lit_eq (by decide +kernel) (by decide +kernel) (by decide +kernel)
theorem k22 : oEq (.str "and") (.str "has") = M.ret (.bl false) := lit_eq (by decide +kernel) (by decide +kernel) (by decide +kernel)
theorem k23 : oEq (.str "or") (.str "has") = M.ret (.bl false) := lit_eq (by decide +kernel) (by decide +kernel) (by decide +kernel)
theorem k24 : oEq (.str "all") (.str "has") = M.ret (.bl false) := lit_eq (by decide +kernel) (by decide +kernel) (by decide +kernel)
theorem k25 : oEq (.str "in") (.str "in") = M.ret (.bl true) := lit_eq (by decide +kernel) (by decide +kernel) (by decide +kernel)
theorem k26 : oEq (.str "not") (.str "in") = M.ret (.bl false) := lit_eq (by decide +kernel) (by decide +kernel) (by decide +kernel)
theorem k27 : oEq (.str "and") (.str "in") = M.ret (.bl false) := lit_eq (by decide +kernel) (by decide +kernel) (by decide +kernel)
theorem k28 : oEq (.str "or") (.str "in") = M.ret (.bl false) := lit_eq (by decide +kernel) (by decide +kernel) (by decide +kernel)
theorem k29 : oEq (.str "all") (.str "in") = M.ret (.bl false) := lit_eq (by decide +kernel) (by decide +kernel) (by decide +kernel)
theorem k30 : oEq (.str "all") (.str "not") = M.ret (.bl false) := lit_eq (by decide +kernel) (by decide +kernel) (by decide +kernel)
theorem k31 : oEq (.str "all") (.str "and") = M.ret (.bl false) := lit_eq (by decide +kernel) (by decide +kernel) (by decide +kernel)
theorem cut1 (k a b : D) : oCut (.tup [k, a, b]) (some 1) none = M.ret (.tup [a, b]) := by rfl
theorem lets_s (n : Nat) (x : List D) : m_ulets_by (n + 1) x = mBody N_ulets_by 2 (b_ulets_by (m_ulets_by n)) x := rfl
theorem lets_has (n : Nat) {s : Str} {ls : List (Str × Int)} (hs : PyData.strOk s = true) (h : LsOk ls) : m_ulets_by (n + 1) [.tup [.str "has", .str s], eLs ls] = M.ret (.bl (lab ls s).isSome) := by
  have e := label_ev hs h
  rw [lets_s]
  simp only [b_ulets_by, N_ulets_by, mVar, mC, mOp, mUn, mCall, mCons, mNil, mIf, mAnd, mOr, mNot, mB, mTV, mAndV, mOrV, mNotV, mChain, asB, mIter, mItems, mValues, mIterA, mCut, mSome, mNone, pInt, mCallG, mCallK, sel, M.ret_bnd, M.opt_some, M.ass_t, M.bnd_bnd, M.stk_bnd, view, Sl.see, List.map_cons, List.map_nil, List.getElem?_cons_zero, List.getElem?_cons_succ, Option.join_some, List.set_cons_zero, List.set_cons_succ, sSeq, sRet, sN, sIf, sAsg, sDrop, sNext, sUnp, sFor, sRetN, mBody, outV, startEn, List.length_cons, List.length_nil, List.replicate_succ, List.replicate_zero, List.cons_append, List.nil_append, M.calm_ret, small, tgN, tgTup, tgCons, tgNil, gvN, gvTup, gvCons, gvNil, wipeN, Option.toList_some, List.append_nil, if_true, Bool.not_true, Bool.not_false, Option.bind_some, items, itemsI, itemsV, decide_true, ix_t0, ix_t1, k2, k7, k12, k16, k19, e, Bool.false_eq_true, if_false]
  cases lab ls s <;> rfl
theorem lets_rng (n : Nat) {kw s : Str} {x y : Int} {ls : List (Str × Int)} (q1 : oEq (.str kw) (.str "all") = M.ret (.bl false)) (q2 : oEq (.str kw) (.str "not") = M.ret (.bl false)) (q3 : oEq (.str kw) (.str "and") = M.ret (.bl false)) (q4 : oEq (.str kw) (.str "or") = M.ret (.bl false)) (q5 : oEq (.str kw) (.str "has") = M.ret (.bl false)) (hs : PyData.strOk s = true) (h : LsOk ls) :
    m_ulets_by (n + 1) [.tup [.str kw, .str s, .int x, .int y], eLs ls] = M.ret (.bl (ok1 (.rng s x y) ls)) := by
  have e := label_ev hs h
  rw [lets_s]
  simp only [b_ulets_by, N_ulets_by, mVar, mC, mOp, mUn, mCall, mCons, mNil, mIf, mAnd, mOr, mNot, mB, mTV, mAndV, mOrV, mNotV, mChain, asB, mIter, mItems, mValues, mIterA, mCut, mSome, mNone, pInt, mCallG, mCallK, sel, M.ret_bnd, M.opt_some, M.ass_t, M.bnd_bnd, M.stk_bnd, view, Sl.see, List.map_cons, List.map_nil, List.getElem?_cons_zero, List.getElem?_cons_succ, Option.join_some, List.set_cons_zero, List.set_cons_succ, sSeq, sRet, sN, sIf, sAsg, sDrop, sNext, sUnp, sFor, sRetN, mBody, outV, startEn, List.length_cons, List.length_nil, List.replicate_succ, List.replicate_zero, List.cons_append, List.nil_append, M.calm_ret, small, tgN, tgTup, tgCons, tgNil, gvN, gvTup, gvCons, gvNil, wipeN, Option.toList_some, List.append_nil, if_true, Bool.not_true, Bool.not_false, Option.bind_some, items, itemsI, itemsV, decide_true, ix_t0, ix_t1, ix_t2, ix_t3, q1, q2, q3, q4, q5, e, ok1, Bool.false_eq_true, if_false]
  cases lab ls s with
  | none => rfl
  | some v =>
    simp only [oI, oNotN, mVar, mC, mOp, mUn, mCall, mCons, mNil, mIf, mAnd, mOr, mNot, mB, mTV, mAndV, mOrV, mNotV, mChain, asB, mIter, mItems, mValues, mIterA, mCut, mSome, mNone, pInt, mCallG, mCallK, sel, M.ret_bnd, M.opt_some, M.ass_t, M.bnd_bnd, M.stk_bnd, view, Sl.see, List.map_cons, List.map_nil, List.getElem?_cons_zero, List.getElem?_cons_succ, Option.join_some, List.set_cons_zero, List.set_cons_succ, sSeq, sRet, sN, sIf, sAsg, sDrop, sNext, sUnp, sFor, sRetN, mBody, outV, startEn, List.length_cons, List.length_nil, List.replicate_succ, List.replicate_zero, List.cons_append, List.nil_append, M.calm_ret, small, tgN, tgTup, tgCons, tgNil, gvN, gvTup, gvCons, gvNil, wipeN, Option.toList_some, List.append_nil, if_true, Bool.not_true, Bool.not_false, Option.bind_some, items, itemsI, itemsV, oInt]
    generalize decide (x ≤ v) = p
    generalize decide (v ≤ y) = q
    cases p <;> cases q <;> rfl
theorem lets1 (n : Nat) (a : Sv1) {ls : List (Str × Int)} (ha : a.ok) (h : LsOk ls) : m_ulets_by (n + 2) [eS1 a, eLs ls] = M.ret (.bl (ok1 a ls)) := by
  cases a with
  | all => rw [lets_s]; simp only [b_ulets_by, N_ulets_by, mVar, mC, mOp, mUn, mCall, mCons, mNil, mIf, mAnd, mOr, mNot, mB, mTV, mAndV, mOrV, mNotV, mChain, asB, mIter, mItems, mValues, mIterA, mCut, mSome, mNone, pInt, mCallG, mCallK, sel, M.ret_bnd, M.opt_some, M.ass_t, M.bnd_bnd, M.stk_bnd, view, Sl.see, List.map_cons, List.map_nil, List.getElem?_cons_zero, List.getElem?_cons_succ, Option.join_some, List.set_cons_zero, List.set_cons_succ, sSeq, sRet, sN, sIf, sAsg, sDrop, sNext, sUnp, sFor, sRetN, mBody, outV, startEn, List.length_cons, List.length_nil, List.replicate_succ, List.replicate_zero, List.cons_append, List.nil_append, M.calm_ret, small, tgN, tgTup, tgCons, tgNil, gvN, gvTup, gvCons, gvNil, wipeN, Option.toList_some, List.append_nil, if_true, Bool.not_true, Bool.not_false, Option.bind_some, items, itemsI, itemsV, decide_true, eS1, ix_t0, k1, ok1]
  | has s => exact lets_has (n + 1) ha h
  | noh s =>
    have e := lets_has n ha h
    rw [lets_s]
    simp only [b_ulets_by, N_ulets_by, mVar, mC, mOp, mUn, mCall, mCons, mNil, mIf, mAnd, mOr, mNot, mB, mTV, mAndV, mOrV, mNotV, mChain, asB, mIter, mItems, mValues, mIterA, mCut, mSome, mNone, pInt, mCallG, mCallK, sel, M.ret_bnd, M.opt_some, M.ass_t, M.bnd_bnd, M.stk_bnd, view, Sl.see, List.map_cons, List.map_nil, List.getElem?_cons_zero, List.getElem?_cons_succ, Option.join_some, List.set_cons_zero, List.set_cons_succ, sSeq, sRet, sN, sIf, sAsg, sDrop, sNext, sUnp, sFor, sRetN, mBody, outV, startEn, List.length_cons, List.length_nil, List.replicate_succ, List.replicate_zero, List.cons_append, List.nil_append, M.calm_ret, small, tgN, tgTup, tgCons, tgNil, gvN, gvTup, gvCons, gvNil, wipeN, Option.toList_some, List.append_nil, if_true, Bool.not_true, Bool.not_false, Option.bind_some, items, itemsI, itemsV, decide_true, eS1, ix_t0, ix_t1, k4, k9, ok1, Bool.false_eq_true, if_false, e]
  | rng s x y => exact lets_rng (n + 1) k3 k8 k13 k17 k20 ha h
theorem lets_ev (a : Sv) {ls : List (Str × Int)} (ha : a.ok) (h : LsOk ls) : m_ulets_by 5 [eS a, eLs ls] = M.ret (.bl (okS a ls)) := by
  cases a with
  | one a => exact lets1 3 a ha h
  | both c a b =>
    rw [show (5 : Nat) = 4 + 1 from rfl, lets_s]
    have q : ∀ k : D, mLc (mIter (mCut (mVar 0) (mSome (mC (.int 1))) mNone)) (gvN 3) mYes (mCallG (m_ulets_by 4) [(0, 0), (0, 1)] [] (mCons (mVar 3) (mCons (mVar 1) mNil)) mNil) [3] [some (.tup [k, eS1 a, eS1 b]), some (eLs ls), none, none] = M.ret (.lst [.bl (ok1 a ls), .bl (ok1 b ls)]) := fun k =>
      lc_map1 (α := Sv1) eS1 (f := fun a => .bl (ok1 a ls)) (fun a' => [some (.tup [k, eS1 a, eS1 b]), some (eLs ls), none, some (eS1 a')]) [a, b] (by simp only [mVar, mC, mOp, mUn, mCall, mCons, mNil, mIf, mAnd, mOr, mNot, mB, mTV, mAndV, mOrV, mNotV, mChain, asB, mIter, mItems, mValues, mIterA, mCut, mSome, mNone, pInt, mCallG, mCallK, sel, M.ret_bnd, M.opt_some, M.ass_t, M.bnd_bnd, M.stk_bnd, view, Sl.see, List.map_cons, List.map_nil, List.getElem?_cons_zero, List.getElem?_cons_succ, Option.join_some, List.set_cons_zero, List.set_cons_succ, sSeq, sRet, sN, sIf, sAsg, sDrop, sNext, sUnp, sFor, sRetN, mBody, outV, startEn, List.length_cons, List.length_nil, List.replicate_succ, List.replicate_zero, List.cons_append, List.nil_append, M.calm_ret, small, tgN, tgTup, tgCons, tgNil, gvN, gvTup, gvCons, gvNil, wipeN, Option.toList_some, List.append_nil, if_true, Bool.not_true, Bool.not_false, Option.bind_some, items, itemsI, itemsV, cut1]) (by simp) (fun x _ => by simp only [mVar, mC, mOp, mUn, mCall, mCons, mNil, mIf, mAnd, mOr, mNot, mB, mTV, mAndV, mOrV, mNotV, mChain, asB, mIter, mItems, mValues, mIterA, mCut, mSome, mNone, pInt, mCallG, mCallK, sel, M.ret_bnd, M.opt_some, M.ass_t, M.bnd_bnd, M.stk_bnd, view, Sl.see, List.map_cons, List.map_nil, List.getElem?_cons_zero, List.getElem?_cons_succ, Option.join_some, List.set_cons_zero, List.set_cons_succ, sSeq, sRet, sN, sIf, sAsg, sDrop, sNext, sUnp, sFor, sRetN, mBody, outV, startEn, List.length_cons, List.length_nil, List.replicate_succ, List.replicate_zero, List.cons_append, List.nil_append, M.calm_ret, small, tgN, tgTup, tgCons, tgNil, gvN, gvTup, gvCons, gvNil, wipeN, Option.toList_some, List.append_nil, if_true, Bool.not_true, Bool.not_false, Option.bind_some, items, itemsI, itemsV]) (fun x hx => by
        have hx' : x.ok := by
          rcases List.mem_cons.mp hx with rfl | hx
          · exact ha.1
          · rw [List.mem_singleton.mp hx]; exact ha.2
        simp only [mVar, mC, mOp, mUn, mCall, mCons, mNil, mIf, mAnd, mOr, mNot, mB, mTV, mAndV, mOrV, mNotV, mChain, asB, mIter, mItems, mValues, mIterA, mCut, mSome, mNone, pInt, mCallG, mCallK, sel, M.ret_bnd, M.opt_some, M.ass_t, M.bnd_bnd, M.stk_bnd, view, Sl.see, List.map_cons, List.map_nil, List.getElem?_cons_zero, List.getElem?_cons_succ, Option.join_some, List.set_cons_zero, List.set_cons_succ, sSeq, sRet, sN, sIf, sAsg, sDrop, sNext, sUnp, sFor, sRetN, mBody, outV, startEn, List.length_cons, List.length_nil, List.replicate_succ, List.replicate_zero, List.cons_append, List.nil_append, M.calm_ret, small, tgN, tgTup, tgCons, tgNil, gvN, gvTup, gvCons, gvNil, wipeN, Option.toList_some, List.append_nil, if_true, Bool.not_true, Bool.not_false, Option.bind_some, items, itemsI, itemsV, lets1 2 x hx' h])
    cases c with
    | true =>
      simp only [b_ulets_by, N_ulets_by, mBody, outV, startEn, List.length_cons, List.length_nil, List.map_cons, List.map_nil, List.replicate_succ, List.replicate_zero, List.cons_append, List.nil_append, sSeq, sIf, sRet, sN, sNext, mB, mOp, mVar, mC, mCall, mCons, mNil, view, Sl.see, List.getElem?_cons_zero, Option.join_some, M.opt_some, M.ass_t, M.ret_bnd, asB, if_true, decide_true, eS, ix_t0, k5, k10, k14, Bool.false_eq_true, if_false]
      simp only [q, bAll, blsD, M.ret_bnd, M.opt_some, Option.map_some, outV, okS]
      simp [M.ret_bnd]
    | false =>
      simp only [b_ulets_by, N_ulets_by, mBody, outV, startEn, List.length_cons, List.length_nil, List.map_cons, List.map_nil, List.replicate_succ, List.replicate_zero, List.cons_append, List.nil_append, sSeq, sIf, sRet, sN, sNext, mB, mOp, mVar, mC, mCall, mCons, mNil, view, Sl.see, List.getElem?_cons_zero, Option.join_some, M.opt_some, M.ass_t, M.ret_bnd, asB, if_true, decide_true, eS, ix_t0, k6, k11, k15, k18, Bool.false_eq_true, if_false]
      simp only [q, bAny, blsD, M.ret_bnd, M.opt_some, Option.map_some, outV, okS]
      simp [M.ret_bnd]
theorem pass_ev (a : Sv) (it : It) (ha : a.ok) (h : LsOk it.ls) : m_upasses [eS a, eI it] = M.ret (.bl (okS a it.ls)) := by
  simp only [m_upasses, b_upasses, N_upasses, mVar, mC, mOp, mUn, mCall, mCons, mNil, mIf, mAnd, mOr, mNot, mB, mTV, mAndV, mOrV, mNotV, mChain, asB, mIter, mItems, mValues, mIterA, mCut, mSome, mNone, pInt, mCallG, mCallK, sel, M.ret_bnd, M.opt_some, M.ass_t, M.bnd_bnd, M.stk_bnd, view, Sl.see, List.map_cons, List.map_nil, List.getElem?_cons_zero, List.getElem?_cons_succ, Option.join_some, List.set_cons_zero, List.set_cons_succ, sSeq, sRet, sN, sIf, sAsg, sDrop, sNext, sUnp, sFor, sRetN, mBody, outV, startEn, List.length_cons, List.length_nil, List.replicate_succ, List.replicate_zero, List.cons_append, List.nil_append, M.calm_ret, small, tgN, tgTup, tgCons, tgNil, gvN, gvTup, gvCons, gvNil, wipeN, Option.toList_some, List.append_nil, if_true, Bool.not_true, Bool.not_false, Option.bind_some, items, itemsI, itemsV, decide_true, eI, ix_t2, lets_ev a ha h]
end Fw

namespace Fw
open PySem PySem.Spec PyProof.Rows L2

/-! ### the law's own filter -/
def okL1 (a : Sv1) (ls : List (Str × Int)) : Bool := match a with
  | .all => true
  | .has s => ls.any fun p => p.1 == s
  | .rng s a b => ls.any fun p => (p.1 == s) && (decide (a ≤ p.2) && decide (p.2 ≤ b))
  | .noh s => !ls.any fun p => p.1 == s
theorem lp_s (n : Nat) (x : List D) : m_u_law_passes (n + 1) x = mBody N_u_law_passes 2 (b_u_law_passes (m_u_law_passes n)) x := rfl
theorem blsD_map : ∀ l : List Bool, blsD (l.map .bl) = some l
  | [] => by simp only [List.map_nil, blsD]
  | a :: l => by simp only [List.map_cons, blsD, blsD_map l, Option.map_some]
theorem any_id {α : Type} (f : α → Bool) : ∀ l : List α, (l.map f).any id = l.any f
  | [] => rfl
  | a :: l => by simp [any_id f l]
theorem lp_has (n : Nat) {kw s : Str} {it : It} (q1 : oEq (.str kw) (.str "has") = M.ret (.bl true)) (hs : PyData.strOk s = true) (h : LsOk it.ls) : m_u_law_passes (n + 1) [.tup [.str kw, .str s], eI it] = M.ret (.bl (okL1 (.has s) it.ls)) := by
  have q := lc_map1 (α := Str × Int) eL (mi := mIter (mOp oIx (mVar 1) (mC (.int 2)))) (tg := gvTup 2 (gvCons (gvN 3) (gvCons (gvN 4) gvNil))) (e := mOp oEq (mVar 3) (mOp oIx (mVar 0) (mC (.int 1)))) (vs := [3, 4]) (env := [some (.tup [.str kw, .str s]), some (eI it), some (.str kw), none, none, none])
    (f := fun p => .bl (p.1 == s)) (fun p => [some (.tup [.str kw, .str s]), some (eI it), some (.str kw), some (.str p.1), some (.int p.2), none]) it.ls (by simp only [mVar, mC, mOp, mUn, mCall, mCons, mNil, mIf, mAnd, mOr, mNot, mB, mTV, mAndV, mOrV, mNotV, mChain, asB, mIter, mItems, mValues, mIterA, mCut, mSome, mNone, pInt, mCallG, mCallK, sel, M.ret_bnd, M.opt_some, M.ass_t, M.bnd_bnd, M.stk_bnd, view, Sl.see, List.map_cons, List.map_nil, List.getElem?_cons_zero, List.getElem?_cons_succ, Option.join_some, List.set_cons_zero, List.set_cons_succ, sSeq, sRet, sN, sIf, sAsg, sDrop, sNext, sUnp, sFor, sRetN, mBody, outV, startEn, List.length_cons, List.length_nil, List.replicate_succ, List.replicate_zero, List.cons_append, List.nil_append, M.calm_ret, small, tgN, tgTup, tgCons, tgNil, gvN, gvTup, gvCons, gvNil, wipeN, Option.toList_some, List.append_nil, if_true, Bool.not_true, Bool.not_false, Option.bind_some, items, itemsI, itemsV, eI, ix_t2, eLs]) (Nat.le_trans h.2 (by decide)) (fun x _ => by simp only [mVar, mC, mOp, mUn, mCall, mCons, mNil, mIf, mAnd, mOr, mNot, mB, mTV, mAndV, mOrV, mNotV, mChain, asB, mIter, mItems, mValues, mIterA, mCut, mSome, mNone, pInt, mCallG, mCallK, sel, M.ret_bnd, M.opt_some, M.ass_t, M.bnd_bnd, M.stk_bnd, view, Sl.see, List.map_cons, List.map_nil, List.getElem?_cons_zero, List.getElem?_cons_succ, Option.join_some, List.set_cons_zero, List.set_cons_succ, sSeq, sRet, sN, sIf, sAsg, sDrop, sNext, sUnp, sFor, sRetN, mBody, outV, startEn, List.length_cons, List.length_nil, List.replicate_succ, List.replicate_zero, List.cons_append, List.nil_append, M.calm_ret, small, tgN, tgTup, tgCons, tgNil, gvN, gvTup, gvCons, gvNil, wipeN, Option.toList_some, List.append_nil, if_true, Bool.not_true, Bool.not_false, Option.bind_some, items, itemsI, itemsV, eL]) (fun x hx => by simp only [mVar, mC, mOp, mUn, mCall, mCons, mNil, mIf, mAnd, mOr, mNot, mB, mTV, mAndV, mOrV, mNotV, mChain, asB, mIter, mItems, mValues, mIterA, mCut, mSome, mNone, pInt, mCallG, mCallK, sel, M.ret_bnd, M.opt_some, M.ass_t, M.bnd_bnd, M.stk_bnd, view, Sl.see, List.map_cons, List.map_nil, List.getElem?_cons_zero, List.getElem?_cons_succ, Option.join_some, List.set_cons_zero, List.set_cons_succ, sSeq, sRet, sN, sIf, sAsg, sDrop, sNext, sUnp, sFor, sRetN, mBody, outV, startEn, List.length_cons, List.length_nil, List.replicate_succ, List.replicate_zero, List.cons_append, List.nil_append, M.calm_ret, small, tgN, tgTup, tgCons, tgNil, gvN, gvTup, gvCons, gvNil, wipeN, Option.toList_some, List.append_nil, if_true, Bool.not_true, Bool.not_false, Option.bind_some, items, itemsI, itemsV, ix_t1, eq_str (h.1 x hx) hs])
  have e : it.ls.map (fun p => D.bl (p.1 == s)) = (it.ls.map fun p => p.1 == s).map .bl := by rw [List.map_map]; rfl
  rw [e] at q
  rw [lp_s]
  simp only [b_u_law_passes, N_u_law_passes, mVar, mC, mOp, mUn, mCall, mCons, mNil, mIf, mAnd, mOr, mNot, mB, mTV, mAndV, mOrV, mNotV, mChain, asB, mIter, mItems, mValues, mIterA, mCut, mSome, mNone, pInt, mCallG, mCallK, sel, M.ret_bnd, M.opt_some, M.ass_t, M.bnd_bnd, M.stk_bnd, view, Sl.see, List.map_cons, List.map_nil, List.getElem?_cons_zero, List.getElem?_cons_succ, Option.join_some, List.set_cons_zero, List.set_cons_succ, sSeq, sRet, sN, sIf, sAsg, sDrop, sNext, sUnp, sFor, sRetN, mBody, outV, startEn, List.length_cons, List.length_nil, List.replicate_succ, List.replicate_zero, List.cons_append, List.nil_append, M.calm_ret, small, tgN, tgTup, tgCons, tgNil, gvN, gvTup, gvCons, gvNil, wipeN, Option.toList_some, List.append_nil, if_true, Bool.not_true, Bool.not_false, Option.bind_some, items, itemsI, itemsV, decide_true, ix_t0, q1, q, bAny, blsD_map, any_id, okL1]
theorem lp_rng (n : Nat) {kw s : Str} {a b : Int} {it : It} (q1 : oEq (.str kw) (.str "has") = M.ret (.bl false)) (q2 : oEq (.str kw) (.str "in") = M.ret (.bl true)) (hs : PyData.strOk s = true) (h : LsOk it.ls) :
    m_u_law_passes (n + 1) [.tup [.str kw, .str s, .int a, .int b], eI it] = M.ret (.bl (okL1 (.rng s a b) it.ls)) := by
  have q := lc_map1 (α := Str × Int) eL (mi := mIter (mOp oIx (mVar 1) (mC (.int 2)))) (tg := gvTup 2 (gvCons (gvN 3) (gvCons (gvN 4) gvNil)))
    (e := mAndV (mOp oEq (mVar 3) (mOp oIx (mVar 0) (mC (.int 1)))) (mChain (oInt fun i j => decide (i ≤ j)) (oInt fun i j => decide (i ≤ j)) (mOp oIx (mVar 0) (mC (.int 2))) (mVar 4) (mOp oIx (mVar 0) (mC (.int 3))))) (vs := [3, 4]) (env := [some (.tup [.str kw, .str s, .int a, .int b]), some (eI it), some (.str kw), none, none, none])
    (f := fun p => .bl ((p.1 == s) && (decide (a ≤ p.2) && decide (p.2 ≤ b)))) (fun p => [some (.tup [.str kw, .str s, .int a, .int b]), some (eI it), some (.str kw), some (.str p.1), some (.int p.2), none]) it.ls (by simp only [mVar, mC, mOp, mUn, mCall, mCons, mNil, mIf, mAnd, mOr, mNot, mB, mTV, mAndV, mOrV, mNotV, mChain, asB, mIter, mItems, mValues, mIterA, mCut, mSome, mNone, pInt, mCallG, mCallK, sel, M.ret_bnd, M.opt_some, M.ass_t, M.bnd_bnd, M.stk_bnd, view, Sl.see, List.map_cons, List.map_nil, List.getElem?_cons_zero, List.getElem?_cons_succ, Option.join_some, List.set_cons_zero, List.set_cons_succ, sSeq, sRet, sN, sIf, sAsg, sDrop, sNext, sUnp, sFor, sRetN, mBody, outV, startEn, List.length_cons, List.length_nil, List.replicate_succ, List.replicate_zero, List.cons_append, List.nil_append, M.calm_ret, small, tgN, tgTup, tgCons, tgNil, gvN, gvTup, gvCons, gvNil, wipeN, Option.toList_some, List.append_nil, if_true, Bool.not_true, Bool.not_false, Option.bind_some, items, itemsI, itemsV, eI, ix_t2, eLs]) (Nat.le_trans h.2 (by decide)) (fun x _ => by simp only [mVar, mC, mOp, mUn, mCall, mCons, mNil, mIf, mAnd, mOr, mNot, mB, mTV, mAndV, mOrV, mNotV, mChain, asB, mIter, mItems, mValues, mIterA, mCut, mSome, mNone, pInt, mCallG, mCallK, sel, M.ret_bnd, M.opt_some, M.ass_t, M.bnd_bnd, M.stk_bnd, view, Sl.see, List.map_cons, List.map_nil, List.getElem?_cons_zero, List.getElem?_cons_succ, Option.join_some, List.set_cons_zero, List.set_cons_succ, sSeq, sRet, sN, sIf, sAsg, sDrop, sNext, sUnp, sFor, sRetN, mBody, outV, startEn, List.length_cons, List.length_nil, List.replicate_succ, List.replicate_zero, List.cons_append, List.nil_append, M.calm_ret, small, tgN, tgTup, tgCons, tgNil, gvN, gvTup, gvCons, gvNil, wipeN, Option.toList_some, List.append_nil, if_true, Bool.not_true, Bool.not_false, Option.bind_some, items, itemsI, itemsV, eL])
    (fun x hx => by
      simp only [mVar, mC, mOp, mUn, mCall, mCons, mNil, mIf, mAnd, mOr, mNot, mB, mTV, mAndV, mOrV, mNotV, mChain, asB, mIter, mItems, mValues, mIterA, mCut, mSome, mNone, pInt, mCallG, mCallK, sel, M.ret_bnd, M.opt_some, M.ass_t, M.bnd_bnd, M.stk_bnd, view, Sl.see, List.map_cons, List.map_nil, List.getElem?_cons_zero, List.getElem?_cons_succ, Option.join_some, List.set_cons_zero, List.set_cons_succ, sSeq, sRet, sN, sIf, sAsg, sDrop, sNext, sUnp, sFor, sRetN, mBody, outV, startEn, List.length_cons, List.length_nil, List.replicate_succ, List.replicate_zero, List.cons_append, List.nil_append, M.calm_ret, small, tgN, tgTup, tgCons, tgNil, gvN, gvTup, gvCons, gvNil, wipeN, Option.toList_some, List.append_nil, if_true, Bool.not_true, Bool.not_false, Option.bind_some, items, itemsI, itemsV, ix_t1, ix_t2, ix_t3, eq_str (h.1 x hx) hs, oInt]
      generalize (x.1 == s) = r
      generalize decide (a ≤ x.2) = p
      generalize decide (x.2 ≤ b) = q
      cases r <;> cases p <;> cases q <;> rfl)
  have e : it.ls.map (fun p => D.bl ((p.1 == s) && (decide (a ≤ p.2) && decide (p.2 ≤ b)))) = (it.ls.map fun p => (p.1 == s) && (decide (a ≤ p.2) && decide (p.2 ≤ b))).map .bl := by rw [List.map_map]; rfl
  rw [e] at q
  rw [lp_s]
  simp only [b_u_law_passes, N_u_law_passes, mVar, mC, mOp, mUn, mCall, mCons, mNil, mIf, mAnd, mOr, mNot, mB, mTV, mAndV, mOrV, mNotV, mChain, asB, mIter, mItems, mValues, mIterA, mCut, mSome, mNone, pInt, mCallG, mCallK, sel, M.ret_bnd, M.opt_some, M.ass_t, M.bnd_bnd, M.stk_bnd, view, Sl.see, List.map_cons, List.map_nil, List.getElem?_cons_zero, List.getElem?_cons_succ, Option.join_some, List.set_cons_zero, List.set_cons_succ, sSeq, sRet, sN, sIf, sAsg, sDrop, sNext, sUnp, sFor, sRetN, mBody, outV, startEn, List.length_cons, List.length_nil, List.replicate_succ, List.replicate_zero, List.cons_append, List.nil_append, M.calm_ret, small, tgN, tgTup, tgCons, tgNil, gvN, gvTup, gvCons, gvNil, wipeN, Option.toList_some, List.append_nil, if_true, Bool.not_true, Bool.not_false, Option.bind_some, items, itemsI, itemsV, decide_true, ix_t0, q1, q2, q, bAny, blsD_map, any_id, okL1, Bool.false_eq_true, if_false]
theorem lp_not (n : Nat) {kw : Str} {x : D} {it : It} {r : Bool} (q1 : oEq (.str kw) (.str "has") = M.ret (.bl false)) (q2 : oEq (.str kw) (.str "in") = M.ret (.bl false)) (q3 : oEq (.str kw) (.str "not") = M.ret (.bl true)) (e : m_u_law_passes n [x, eI it] = M.ret (.bl r)) :
    m_u_law_passes (n + 1) [.tup [.str kw, x], eI it] = M.ret (.bl (!r)) := by
  rw [lp_s]
  simp only [b_u_law_passes, N_u_law_passes, mVar, mC, mOp, mUn, mCall, mCons, mNil, mIf, mAnd, mOr, mNot, mB, mTV, mAndV, mOrV, mNotV, mChain, asB, mIter, mItems, mValues, mIterA, mCut, mSome, mNone, pInt, mCallG, mCallK, sel, M.ret_bnd, M.opt_some, M.ass_t, M.bnd_bnd, M.stk_bnd, view, Sl.see, List.map_cons, List.map_nil, List.getElem?_cons_zero, List.getElem?_cons_succ, Option.join_some, List.set_cons_zero, List.set_cons_succ, sSeq, sRet, sN, sIf, sAsg, sDrop, sNext, sUnp, sFor, sRetN, mBody, outV, startEn, List.length_cons, List.length_nil, List.replicate_succ, List.replicate_zero, List.cons_append, List.nil_append, M.calm_ret, small, tgN, tgTup, tgCons, tgNil, gvN, gvTup, gvCons, gvNil, wipeN, Option.toList_some, List.append_nil, if_true, Bool.not_true, Bool.not_false, Option.bind_some, items, itemsI, itemsV, decide_true, ix_t0, ix_t1, q1, q2, q3, e, Bool.false_eq_true, if_false]
theorem lp_all (n : Nat) {kw : Str} {it : It} (q1 : oEq (.str kw) (.str "has") = M.ret (.bl false)) (q2 : oEq (.str kw) (.str "in") = M.ret (.bl false)) (q3 : oEq (.str kw) (.str "not") = M.ret (.bl false)) (q4 : oEq (.str kw) (.str "and") = M.ret (.bl false)) (q5 : oEq (.str kw) (.str "all") = M.ret (.bl true)) :
    m_u_law_passes (n + 1) [.tup [.str kw], eI it] = M.ret (.bl true) := by
  rw [lp_s]
  simp only [b_u_law_passes, N_u_law_passes, mVar, mC, mOp, mUn, mCall, mCons, mNil, mIf, mAnd, mOr, mNot, mB, mTV, mAndV, mOrV, mNotV, mChain, asB, mIter, mItems, mValues, mIterA, mCut, mSome, mNone, pInt, mCallG, mCallK, sel, M.ret_bnd, M.opt_some, M.ass_t, M.bnd_bnd, M.stk_bnd, view, Sl.see, List.map_cons, List.map_nil, List.getElem?_cons_zero, List.getElem?_cons_succ, Option.join_some, List.set_cons_zero, List.set_cons_succ, sSeq, sRet, sN, sIf, sAsg, sDrop, sNext, sUnp, sFor, sRetN, mBody, outV, startEn, List.length_cons, List.length_nil, List.replicate_succ, List.replicate_zero, List.cons_append, List.nil_append, M.calm_ret, small, tgN, tgTup, tgCons, tgNil, gvN, gvTup, gvCons, gvNil, wipeN, Option.toList_some, List.append_nil, if_true, Bool.not_true, Bool.not_false, Option.bind_some, items, itemsI, itemsV, decide_true, ix_t0, ix_t1, q1, q2, q3, q4, q5, Bool.false_eq_true, if_false]
theorem lp1 (n : Nat) (a : Sv1) {it : It} (ha : a.ok) (h : LsOk it.ls) : m_u_law_passes (n + 2) [eS1 a, eI it] = M.ret (.bl (okL1 a it.ls)) := by
  cases a with
  | all => exact lp_all (n + 1) k24 k29 k30 k31 k1
  | has s => exact lp_has (n + 1) k19 ha h
  | noh s => exact lp_not (n + 1) k21 k26 k9 (lp_has n k19 ha h)
  | rng s x y => exact lp_rng (n + 1) k20 k25 ha h
def okLS (a : Sv) (ls : List (Str × Int)) : Bool := match a with
  | .one a => okL1 a ls
  | .both true a b => okL1 a ls && okL1 b ls
  | .both false a b => okL1 a ls || okL1 b ls
theorem lp_two {kw : Str} {a b : Sv1} {it : It} (ha : a.ok) (hb : b.ok) (h : LsOk it.ls) : mLc (mIter (mCut (mVar 0) (mSome (mC (.int 1))) mNone)) (gvN 5) mYes (mCallG (m_u_law_passes 4) [(0, 0), (0, 1)] [] (mCons (mVar 5) (mCons (mVar 1) mNil)) mNil) [5] [some (.tup [.str kw, eS1 a, eS1 b]), some (eI it), some (.str kw), none, none, none] =
    M.ret (.lst [.bl (okL1 a it.ls), .bl (okL1 b it.ls)]) :=
  lc_map1 (α := Sv1) eS1 (f := fun a => .bl (okL1 a it.ls)) (fun a' => [some (.tup [.str kw, eS1 a, eS1 b]), some (eI it), some (.str kw), none, none, some (eS1 a')]) [a, b] (by simp only [mVar, mC, mOp, mUn, mCall, mCons, mNil, mIf, mAnd, mOr, mNot, mB, mTV, mAndV, mOrV, mNotV, mChain, asB, mIter, mItems, mValues, mIterA, mCut, mSome, mNone, pInt, mCallG, mCallK, sel, M.ret_bnd, M.opt_some, M.ass_t, M.bnd_bnd, M.stk_bnd, view, Sl.see, List.map_cons, List.map_nil, List.getElem?_cons_zero, List.getElem?_cons_succ, Option.join_some, List.set_cons_zero, List.set_cons_succ, sSeq, sRet, sN, sIf, sAsg, sDrop, sNext, sUnp, sFor, sRetN, mBody, outV, startEn, List.length_cons, List.length_nil, List.replicate_succ, List.replicate_zero, List.cons_append, List.nil_append, M.calm_ret, small, tgN, tgTup, tgCons, tgNil, gvN, gvTup, gvCons, gvNil, wipeN, Option.toList_some, List.append_nil, if_true, Bool.not_true, Bool.not_false, Option.bind_some, items, itemsI, itemsV, cut1]) (by simp) (fun x _ => by simp only [mVar, mC, mOp, mUn, mCall, mCons, mNil, mIf, mAnd, mOr, mNot, mB, mTV, mAndV, mOrV, mNotV, mChain, asB, mIter, mItems, mValues, mIterA, mCut, mSome, mNone, pInt, mCallG, mCallK, sel, M.ret_bnd, M.opt_some, M.ass_t, M.bnd_bnd, M.stk_bnd, view, Sl.see, List.map_cons, List.map_nil, List.getElem?_cons_zero, List.getElem?_cons_succ, Option.join_some, List.set_cons_zero, List.set_cons_succ, sSeq, sRet, sN, sIf, sAsg, sDrop, sNext, sUnp, sFor, sRetN, mBody, outV, startEn, List.length_cons, List.length_nil, List.replicate_succ, List.replicate_zero, List.cons_append, List.nil_append, M.calm_ret, small, tgN, tgTup, tgCons, tgNil, gvN, gvTup, gvCons, gvNil, wipeN, Option.toList_some, List.append_nil, if_true, Bool.not_true, Bool.not_false, Option.bind_some, items, itemsI, itemsV]) (fun x hx => by
    have hx' : x.ok := by
      rcases List.mem_cons.mp hx with rfl | hx
      · exact ha
      · rw [List.mem_singleton.mp hx]; exact hb
    simp only [mVar, mC, mOp, mUn, mCall, mCons, mNil, mIf, mAnd, mOr, mNot, mB, mTV, mAndV, mOrV, mNotV, mChain, asB, mIter, mItems, mValues, mIterA, mCut, mSome, mNone, pInt, mCallG, mCallK, sel, M.ret_bnd, M.opt_some, M.ass_t, M.bnd_bnd, M.stk_bnd, view, Sl.see, List.map_cons, List.map_nil, List.getElem?_cons_zero, List.getElem?_cons_succ, Option.join_some, List.set_cons_zero, List.set_cons_succ, sSeq, sRet, sN, sIf, sAsg, sDrop, sNext, sUnp, sFor, sRetN, mBody, outV, startEn, List.length_cons, List.length_nil, List.replicate_succ, List.replicate_zero, List.cons_append, List.nil_append, M.calm_ret, small, tgN, tgTup, tgCons, tgNil, gvN, gvTup, gvCons, gvNil, wipeN, Option.toList_some, List.append_nil, if_true, Bool.not_true, Bool.not_false, Option.bind_some, items, itemsI, itemsV, lp1 2 x hx' h])
theorem lp_and {kw : Str} {a b : Sv1} {it : It} (ha : a.ok) (hb : b.ok) (h : LsOk it.ls) (q1 : oEq (.str kw) (.str "has") = M.ret (.bl false)) (q2 : oEq (.str kw) (.str "in") = M.ret (.bl false)) (q3 : oEq (.str kw) (.str "not") = M.ret (.bl false)) (q4 : oEq (.str kw) (.str "and") = M.ret (.bl true)) :
    m_u_law_passes 5 [.tup [.str kw, eS1 a, eS1 b], eI it] = M.ret (.bl (okL1 a it.ls && okL1 b it.ls)) := by
  have q := lp_two (kw := kw) ha hb h
  rw [show (5 : Nat) = 4 + 1 from rfl, lp_s]
  simp only [b_u_law_passes, N_u_law_passes, mBody, outV, startEn, List.length_cons, List.length_nil, List.map_cons, List.map_nil, List.replicate_succ, List.replicate_zero, List.cons_append, List.nil_append, sSeq, sIf, sRet, sN, sNext, sAsg, mB, mOp, mVar, mC, mCall, mCons, mNil, view, Sl.see, List.getElem?_cons_zero, List.getElem?_cons_succ, List.set_cons_succ, List.set_cons_zero, Option.join_some, M.opt_some, M.ass_t, M.ret_bnd, M.bnd_bnd, asB, if_true, decide_true, ix_t0, q1, q2, q3, q4, Bool.false_eq_true, if_false]
  simp only [q, bAll, blsD, M.ret_bnd, M.opt_some, Option.map_some, outV]
  simp [M.ret_bnd]
theorem lp_or {kw : Str} {a b : Sv1} {it : It} (ha : a.ok) (hb : b.ok) (h : LsOk it.ls) (q1 : oEq (.str kw) (.str "has") = M.ret (.bl false)) (q2 : oEq (.str kw) (.str "in") = M.ret (.bl false)) (q3 : oEq (.str kw) (.str "not") = M.ret (.bl false)) (q4 : oEq (.str kw) (.str "and") = M.ret (.bl false)) (q5 : oEq (.str kw) (.str "all") = M.ret (.bl false)) :
    m_u_law_passes 5 [.tup [.str kw, eS1 a, eS1 b], eI it] = M.ret (.bl (okL1 a it.ls || okL1 b it.ls)) := by
  have q := lp_two (kw := kw) ha hb h
  rw [show (5 : Nat) = 4 + 1 from rfl, lp_s]
  simp only [b_u_law_passes, N_u_law_passes, mBody, outV, startEn, List.length_cons, List.length_nil, List.map_cons, List.map_nil, List.replicate_succ, List.replicate_zero, List.cons_append, List.nil_append, sSeq, sIf, sRet, sN, sNext, sAsg, mB, mOp, mOrV, mVar, mC, mCall, mCons, mNil, view, Sl.see, List.getElem?_cons_zero, List.getElem?_cons_succ, List.set_cons_succ, List.set_cons_zero, Option.join_some, M.opt_some, M.ass_t, M.ret_bnd, M.bnd_bnd, asB, if_true, decide_true, ix_t0, q1, q2, q3, q4, q5, Bool.false_eq_true, if_false]
  simp only [q, bAny, blsD, M.ret_bnd, M.opt_some, Option.map_some, outV]
  simp [M.ret_bnd]
theorem lp_ev (a : Sv) {it : It} (ha : a.ok) (h : LsOk it.ls) : m_u_law_passes 5 [eS a, eI it] = M.ret (.bl (okLS a it.ls)) := by
  cases a with
  | one a => exact lp1 3 a ha h
  | both c a b =>
    cases c with
    | true => exact lp_and ha.1 ha.2 h k22 k27 k10 k14
    | false => exact lp_or ha.1 ha.2 h k23 k28 k11 k15 k6
/-! the same where names stand once -/
theorem lab_any {s : Str} : ∀ {ls : List (Str × Int)}, (lab ls s).isSome = ls.any fun p => p.1 == s
  | [] => rfl
  | (n, v) :: ls => by
    by_cases e : (n == s) = true
    · simp [lab, e]
    · have e1 : (n == s) = false := by simpa using e
      have ih := lab_any (s := s) (ls := ls)
      unfold lab at ih ⊢
      simp only [List.find?_cons, e1, List.any_cons, Bool.false_or]
      exact ih
theorem lab_rng {s : Str} {a b : Int} : ∀ {ls : List (Str × Int)}, (ls.map (·.1)).Nodup → (match lab ls s with
    | some v => decide (a ≤ v) && decide (v ≤ b)
    | none => false) = ls.any fun p => (p.1 == s) && (decide (a ≤ p.2) && decide (p.2 ≤ b))
  | [], _ => rfl
  | (n, v) :: ls, h => by
    obtain ⟨h1, h2⟩ := List.nodup_cons.mp h
    by_cases e : (n == s) = true
    · have en : n = s := eq_of_beq e
      have : (ls.any fun p => (p.1 == s) && (decide (a ≤ p.2) && decide (p.2 ≤ b))) = false := by
        rw [List.any_eq_false]
        intro p hp hq
        simp only [Bool.and_eq_true] at hq
        exact h1 (List.mem_map.mpr ⟨p, hp, (eq_of_beq hq.1).trans en.symm⟩)
      have e2 : lab ((n, v) :: ls) s = some v := by simp [lab, e]
      rw [e2, List.any_cons, this, e]
      simp
    · have e1 : (n == s) = false := by simpa using e
      have e2 : lab ((n, v) :: ls) s = lab ls s := by simp [lab, e1]
      rw [e2, lab_rng h2, List.any_cons, e1]; rfl
theorem ok1_eq (a : Sv1) {ls : List (Str × Int)} (h : (ls.map (·.1)).Nodup) : okL1 a ls = ok1 a ls := by
  cases a with
  | all => rfl
  | has s => exact lab_any.symm
  | noh s => exact congrArg (!·) lab_any.symm
  | rng s x y => exact (lab_rng h).symm
theorem okS_eq (a : Sv) {ls : List (Str × Int)} (h : (ls.map (·.1)).Nodup) : okLS a ls = okS a ls := by
  cases a with
  | one a => exact ok1_eq a h
  | both c a b => cases c <;> simp only [okLS, okS, ok1_eq a h, ok1_eq b h]
end Fw

namespace Fw
open PySem PySem.Spec PyProof.Rows L2

/-! ### states -/
abbrev St2 := List (Int × It)
def eSt (st : St2) : D := .dic (st.map fun p => (Sum.inl p.1, eI p.2))
structure ItOk (n : Nat) (it : It) : Prop where
  len : it.v.length = n
  big : ∀ x ∈ it.v, x.natAbs ≤ 20000
  ls : LsOk it.ls
  nd : (it.ls.map (·.1)).Nodup
  k : it.k.natAbs ≤ 1000
structure StOk (n : Nat) (st : St2) : Prop where
  nd : (st.map (·.1)).Nodup
  key : ∀ p ∈ st, p.2.k = p.1
  it : ∀ p ∈ st, ItOk n p.2
  len : st.length ≤ 11
structure VcOk (n : Nat) (v : List Int) : Prop where
  len : v.length = n
  big : ∀ x ∈ v, x.natAbs ≤ 20000
theorem near_subs {n : Nat} {a b : List Int} (ha : ∀ x ∈ a, x.natAbs ≤ 20000) (hb : ∀ x ∈ b, x.natAbs ≤ 20000) : ∀ d ∈ subs a b, nearD d := fun d hd => by
  obtain ⟨p, hp, rfl⟩ := List.mem_map.mp hd
  have h1 := ha p.1 (List.of_mem_zip hp).1
  have h2 := hb p.2 (List.of_mem_zip hp).2
  unfold nearD; omega
def prs (st : St2) (k : Kn) (v : List Int) (s : Sv) : List (Int × Int) := srt leP ((st.filter fun p => okS s p.2.ls).map fun p => (dist k v p.2.v, p.1))
def dueZ (st : St2) (k : Kn) (v : List Int) (s : Sv) (r : Int) : List (Int × Int) := (prs st k v s).filter fun p => decide (p.1 ≤ r)
theorem perm_srtP {l m : List (Int × Int)} (h : l.Perm m) : srt leP l = srt leP m := srt_uniq leP_tot ((srt_perm l).trans (h.trans (srt_perm m).symm)) (srt_pw leP_tot l) (srt_pw leP_tot m)
theorem srtP_len (l : List (Int × Int)) : (srt leP l).length = l.length := (srt_perm l).length_eq
theorem passing_ev {n : Nat} {st : St2} {s : Sv} (h : StOk n st) (hs : s.ok) : m_upassing_keys [eSt st, eS s] = M.ret (.tup ((srt leI ((st.filter fun p => okS s p.2.ls).map (·.1))).map .int)) := by
  have q := lc_map (α := Int × It) (fun p => .tup [.int p.1, eI p.2]) (mi := mItems (mVar 0)) (tg := gvTup 2 (gvCons (gvN 2) (gvCons (gvN 3) gvNil))) (t := mB (mCallG m_upasses [(0, 0), (0, 1)] [] (mCons (mVar 1) (mCons (mVar 3) mNil)) mNil)) (e := mVar 2) (vs := [2, 3])
    (env := [some (eSt st), some (eS s), none, none]) (p := fun p => okS s p.2.ls) (f := fun p => .int p.1) (fun p => [some (eSt st), some (eS s), some (.int p.1), some (eI p.2)]) st (by simp only [mVar, mC, mOp, mUn, mCall, mCons, mNil, mIf, mAnd, mOr, mNot, mB, mTV, mAndV, mOrV, mNotV, mChain, asB, mIter, mItems, mValues, mIterA, mCut, mSome, mNone, pInt, mCallG, mCallK, sel, M.ret_bnd, M.opt_some, M.ass_t, M.bnd_bnd, M.stk_bnd, view, Sl.see, List.map_cons, List.map_nil, List.getElem?_cons_zero, List.getElem?_cons_succ, Option.join_some, List.set_cons_zero, List.set_cons_succ, sSeq, sRet, sN, sIf, sAsg, sDrop, sNext, sUnp, sFor, sRetN, mBody, outV, startEn, List.length_cons, List.length_nil, List.replicate_succ, List.replicate_zero, List.cons_append, List.nil_append, M.calm_ret, small, tgN, tgTup, tgCons, tgNil, gvN, gvTup, gvCons, gvNil, wipeN, Option.toList_some, List.append_nil, if_true, Bool.not_true, Bool.not_false, Option.bind_some, items, itemsI, itemsV, eSt, List.map_map]; rfl) (by have := h.len; omega)
    (fun x _ => by simp only [mVar, mC, mOp, mUn, mCall, mCons, mNil, mIf, mAnd, mOr, mNot, mB, mTV, mAndV, mOrV, mNotV, mChain, asB, mIter, mItems, mValues, mIterA, mCut, mSome, mNone, pInt, mCallG, mCallK, sel, M.ret_bnd, M.opt_some, M.ass_t, M.bnd_bnd, M.stk_bnd, view, Sl.see, List.map_cons, List.map_nil, List.getElem?_cons_zero, List.getElem?_cons_succ, Option.join_some, List.set_cons_zero, List.set_cons_succ, sSeq, sRet, sN, sIf, sAsg, sDrop, sNext, sUnp, sFor, sRetN, mBody, outV, startEn, List.length_cons, List.length_nil, List.replicate_succ, List.replicate_zero, List.cons_append, List.nil_append, M.calm_ret, small, tgN, tgTup, tgCons, tgNil, gvN, gvTup, gvCons, gvNil, wipeN, Option.toList_some, List.append_nil, if_true, Bool.not_true, Bool.not_false, Option.bind_some, items, itemsI, itemsV]) (fun x hx => by simp only [mVar, mC, mOp, mUn, mCall, mCons, mNil, mIf, mAnd, mOr, mNot, mB, mTV, mAndV, mOrV, mNotV, mChain, asB, mIter, mItems, mValues, mIterA, mCut, mSome, mNone, pInt, mCallG, mCallK, sel, M.ret_bnd, M.opt_some, M.ass_t, M.bnd_bnd, M.stk_bnd, view, Sl.see, List.map_cons, List.map_nil, List.getElem?_cons_zero, List.getElem?_cons_succ, Option.join_some, List.set_cons_zero, List.set_cons_succ, sSeq, sRet, sN, sIf, sAsg, sDrop, sNext, sUnp, sFor, sRetN, mBody, outV, startEn, List.length_cons, List.length_nil, List.replicate_succ, List.replicate_zero, List.cons_append, List.nil_append, M.calm_ret, small, tgN, tgTup, tgCons, tgNil, gvN, gvTup, gvCons, gvNil, wipeN, Option.toList_some, List.append_nil, if_true, Bool.not_true, Bool.not_false, Option.bind_some, items, itemsI, itemsV, pass_ev s x.2 hs (h.it x hx).ls]) (fun x _ _ => by simp only [mVar, mC, mOp, mUn, mCall, mCons, mNil, mIf, mAnd, mOr, mNot, mB, mTV, mAndV, mOrV, mNotV, mChain, asB, mIter, mItems, mValues, mIterA, mCut, mSome, mNone, pInt, mCallG, mCallK, sel, M.ret_bnd, M.opt_some, M.ass_t, M.bnd_bnd, M.stk_bnd, view, Sl.see, List.map_cons, List.map_nil, List.getElem?_cons_zero, List.getElem?_cons_succ, Option.join_some, List.set_cons_zero, List.set_cons_succ, sSeq, sRet, sN, sIf, sAsg, sDrop, sNext, sUnp, sFor, sRetN, mBody, outV, startEn, List.length_cons, List.length_nil, List.replicate_succ, List.replicate_zero, List.cons_append, List.nil_append, M.calm_ret, small, tgN, tgTup, tgCons, tgNil, gvN, gvTup, gvCons, gvNil, wipeN, Option.toList_some, List.append_nil, if_true, Bool.not_true, Bool.not_false, Option.bind_some, items, itemsI, itemsV])
  have e : (st.filter fun p => okS s p.2.ls).map (fun p => D.int p.1) = ((st.filter fun p => okS s p.2.ls).map (·.1)).map .int := by rw [List.map_map]; rfl
  rw [e] at q
  simp only [m_upassing_keys, b_upassing_keys, N_upassing_keys, mVar, mC, mOp, mUn, mCall, mCons, mNil, mIf, mAnd, mOr, mNot, mB, mTV, mAndV, mOrV, mNotV, mChain, asB, mIter, mItems, mValues, mIterA, mCut, mSome, mNone, pInt, mCallG, mCallK, sel, M.ret_bnd, M.opt_some, M.ass_t, M.bnd_bnd, M.stk_bnd, view, Sl.see, List.map_cons, List.map_nil, List.getElem?_cons_zero, List.getElem?_cons_succ, Option.join_some, List.set_cons_zero, List.set_cons_succ, sSeq, sRet, sN, sIf, sAsg, sDrop, sNext, sUnp, sFor, sRetN, mBody, outV, startEn, List.length_cons, List.length_nil, List.replicate_succ, List.replicate_zero, List.cons_append, List.nil_append, M.calm_ret, small, tgN, tgTup, tgCons, tgNil, gvN, gvTup, gvCons, gvNil, wipeN, Option.toList_some, List.append_nil, if_true, Bool.not_true, Bool.not_false, Option.bind_some, items, itemsI, itemsV, decide_true, q, bSorted, intsD_map, bTuple]
theorem dlook_map {st : St2} {p : Int × It} (nd : (st.map (·.1)).Nodup) (h : p ∈ st) : dlook (st.map fun p => (Sum.inl p.1, eI p.2)) (.inl p.1) = some (eI p.2) := by
  induction st with
  | nil => cases h
  | cons q st ih =>
    obtain ⟨h1, h2⟩ := List.nodup_cons.mp nd
    rcases List.mem_cons.mp h with rfl | h
    · simp [dlook]
    · have ne : q.1 ≠ p.1 := fun z => h1 (List.mem_map.mpr ⟨p, h, z.symm⟩)
      have ih := ih h2 h
      unfold dlook at ih ⊢
      rw [List.map_cons, List.find?_cons_of_neg (by simpa using ne)]
      exact ih
theorem ix_st {n : Nat} {st : St2} {p : Int × It} (h : StOk n st) (hp : p ∈ st) : oIx (eSt st) (.int p.1) = M.ret (eI p.2) := by
  simp only [oIx, eSt, D.key, M.opt_some, M.ret_bnd, dlook_map h.nd hp]
theorem dtup2 (a b : D) : dTup [a, b] = M.ret (.tup [a, b]) := by
  unfold dTup
  rw [small_le (by simp)]; rfl
def vecOf (st : St2) (k : Int) : List Int := ((st.find? fun p => p.1 == k).map (·.2.v)).getD []
theorem vecOf_mem {st : St2} {p : Int × It} (nd : (st.map (·.1)).Nodup) (h : p ∈ st) : vecOf st p.1 = p.2.v := by
  induction st with
  | nil => cases h
  | cons q st ih =>
    obtain ⟨h1, h2⟩ := List.nodup_cons.mp nd
    rcases List.mem_cons.mp h with rfl | h
    · simp [vecOf]
    · have ne : q.1 ≠ p.1 := fun z => h1 (List.mem_map.mpr ⟨p, h, z.symm⟩)
      have ih := ih h2 h
      unfold vecOf at ih ⊢
      rw [List.find?_cons_of_neg (by simpa using ne)]
      exact ih
theorem prsD_map : ∀ l : List (Int × Int), prsD (l.map pD) = some l
  | [] => by simp only [List.map_nil, prsD]
  | (a, b) :: l => by simp only [List.map_cons, pD, prsD, prsD_map l, Option.map_some]
theorem sorted_pairs (l : List (Int × Int)) : bSorted [.lst (l.map pD)] = M.ret (.lst ((srt leP l).map pD)) := by
  cases l with
  | nil => rfl
  | cons p l =>
    have e : intsD (((p :: l)).map pD) = none := by simp only [List.map_cons, pD, intsD]
    unfold bSorted
    simp only [e, prsD_map]
theorem pairs_from_ev {n : Nat} {st : St2} {k : Kn} {v : List Int} {s : Sv} (h : StOk n st) (hs : s.ok) (hv : VcOk n v) (hn : n ≤ 1000) : m_upairs_from [eSt st, .str k.s, eV v, eS s] = M.ret (.tup ((prs st k v s).map pD)) := by
  have hk : ∀ x ∈ srt leI ((st.filter fun p => okS s p.2.ls).map (·.1)), ∃ p ∈ st, p.1 = x := fun x hx => by
    obtain ⟨p, hp, rfl⟩ := List.mem_map.mp ((srt_perm _).mem_iff.mp hx)
    exact ⟨p, (List.mem_filter.mp hp).1, rfl⟩
  have q := lc_map1 (α := Int) .int (mi := mIter (mVar 4)) (tg := gvN 5) (e := mCall dTup (mCons (mCallG m_udistance [(0, 0), (0, 1), (0, 2)] [] (mCons (mVar 1) (mCons (mVar 2) (mCons (mOp oIx (mOp oIx (mVar 0) (mVar 5)) (mC (.int 1))) mNil))) mNil) (mCons (mVar 5) mNil))) (vs := [5])
    (env := [some (eSt st), some (.str k.s), some (eV v), some (eS s), some (.tup ((srt leI ((st.filter fun p => okS s p.2.ls).map (·.1))).map .int)), none]) (f := fun x => pD (dist k v (vecOf st x), x))
    (fun x => [some (eSt st), some (.str k.s), some (eV v), some (eS s), some (.tup ((srt leI ((st.filter fun p => okS s p.2.ls).map (·.1))).map .int)), some (.int x)]) (srt leI ((st.filter fun p => okS s p.2.ls).map (·.1))) (by simp only [mVar, mC, mOp, mUn, mCall, mCons, mNil, mIf, mAnd, mOr, mNot, mB, mTV, mAndV, mOrV, mNotV, mChain, asB, mIter, mItems, mValues, mIterA, mCut, mSome, mNone, pInt, mCallG, mCallK, sel, M.ret_bnd, M.opt_some, M.ass_t, M.bnd_bnd, M.stk_bnd, view, Sl.see, List.map_cons, List.map_nil, List.getElem?_cons_zero, List.getElem?_cons_succ, Option.join_some, List.set_cons_zero, List.set_cons_succ, sSeq, sRet, sN, sIf, sAsg, sDrop, sNext, sUnp, sFor, sRetN, mBody, outV, startEn, List.length_cons, List.length_nil, List.replicate_succ, List.replicate_zero, List.cons_append, List.nil_append, M.calm_ret, small, tgN, tgTup, tgCons, tgNil, gvN, gvTup, gvCons, gvNil, wipeN, Option.toList_some, List.append_nil, if_true, Bool.not_true, Bool.not_false, Option.bind_some, items, itemsI, itemsV])
    (by rw [(srt_perm _).length_eq, List.length_map]; have := h.len; have := List.length_filter_le (fun p : Int × It => okS s p.2.ls) st; omega) (fun x _ => by simp only [mVar, mC, mOp, mUn, mCall, mCons, mNil, mIf, mAnd, mOr, mNot, mB, mTV, mAndV, mOrV, mNotV, mChain, asB, mIter, mItems, mValues, mIterA, mCut, mSome, mNone, pInt, mCallG, mCallK, sel, M.ret_bnd, M.opt_some, M.ass_t, M.bnd_bnd, M.stk_bnd, view, Sl.see, List.map_cons, List.map_nil, List.getElem?_cons_zero, List.getElem?_cons_succ, Option.join_some, List.set_cons_zero, List.set_cons_succ, sSeq, sRet, sN, sIf, sAsg, sDrop, sNext, sUnp, sFor, sRetN, mBody, outV, startEn, List.length_cons, List.length_nil, List.replicate_succ, List.replicate_zero, List.cons_append, List.nil_append, M.calm_ret, small, tgN, tgTup, tgCons, tgNil, gvN, gvTup, gvCons, gvNil, wipeN, Option.toList_some, List.append_nil, if_true, Bool.not_true, Bool.not_false, Option.bind_some, items, itemsI, itemsV])
    (fun x hx => by
      obtain ⟨p, hp, rfl⟩ := hk x hx
      have d := dist_ev k v p.2.v (by rw [hv.len]; exact hn) (near_subs (n := n) hv.big (h.it p hp).big)
      simp only [mVar, mC, mOp, mUn, mCall, mCons, mNil, mIf, mAnd, mOr, mNot, mB, mTV, mAndV, mOrV, mNotV, mChain, asB, mIter, mItems, mValues, mIterA, mCut, mSome, mNone, pInt, mCallG, mCallK, sel, M.ret_bnd, M.opt_some, M.ass_t, M.bnd_bnd, M.stk_bnd, view, Sl.see, List.map_cons, List.map_nil, List.getElem?_cons_zero, List.getElem?_cons_succ, Option.join_some, List.set_cons_zero, List.set_cons_succ, sSeq, sRet, sN, sIf, sAsg, sDrop, sNext, sUnp, sFor, sRetN, mBody, outV, startEn, List.length_cons, List.length_nil, List.replicate_succ, List.replicate_zero, List.cons_append, List.nil_append, M.calm_ret, small, tgN, tgTup, tgCons, tgNil, gvN, gvTup, gvCons, gvNil, wipeN, Option.toList_some, List.append_nil, if_true, Bool.not_true, Bool.not_false, Option.bind_some, items, itemsI, itemsV, ix_st h hp, eI, ix_t1, d, dtup2, vecOf_mem h.nd hp, pD])
  have e : (srt leI ((st.filter fun p => okS s p.2.ls).map (·.1))).map (fun x => pD (dist k v (vecOf st x), x)) = ((srt leI ((st.filter fun p => okS s p.2.ls).map (·.1))).map fun x => (dist k v (vecOf st x), x)).map pD := by rw [List.map_map]; rfl
  rw [e] at q
  have e2 : srt leP ((srt leI ((st.filter fun p => okS s p.2.ls).map (·.1))).map fun x => (dist k v (vecOf st x), x)) = prs st k v s := by
    refine perm_srtP (((srt_perm _).map _).trans ?_)
    rw [List.map_map]
    refine .of_eq (List.map_congr_left fun p hp => ?_)
    show (dist k v (vecOf st p.1), p.1) = _
    rw [vecOf_mem h.nd (List.mem_filter.mp hp).1]
  simp only [m_upairs_from, b_upairs_from, N_upairs_from, mVar, mC, mOp, mUn, mCall, mCons, mNil, mIf, mAnd, mOr, mNot, mB, mTV, mAndV, mOrV, mNotV, mChain, asB, mIter, mItems, mValues, mIterA, mCut, mSome, mNone, pInt, mCallG, mCallK, sel, M.ret_bnd, M.opt_some, M.ass_t, M.bnd_bnd, M.stk_bnd, view, Sl.see, List.map_cons, List.map_nil, List.getElem?_cons_zero, List.getElem?_cons_succ, Option.join_some, List.set_cons_zero, List.set_cons_succ, sSeq, sRet, sN, sIf, sAsg, sDrop, sNext, sUnp, sFor, sRetN, mBody, outV, startEn, List.length_cons, List.length_nil, List.replicate_succ, List.replicate_zero, List.cons_append, List.nil_append, M.calm_ret, small, tgN, tgTup, tgCons, tgNil, gvN, gvTup, gvCons, gvNil, wipeN, Option.toList_some, List.append_nil, if_true, Bool.not_true, Bool.not_false, Option.bind_some, items, itemsI, itemsV, decide_true, passing_ev h hs, q, sorted_pairs, bTuple, e2]
theorem prs_len (st : St2) (k : Kn) (v : List Int) (s : Sv) : (prs st k v s).length ≤ st.length := by
  unfold prs
  rw [srtP_len, List.length_map]
  exact List.length_filter_le _ _
theorem within_ev {n : Nat} {st : St2} {k : Kn} {v : List Int} {s : Sv} {r : Int} (h : StOk n st) (hs : s.ok) (hv : VcOk n v) (hn : n ≤ 1000) : m_uwithin [eSt st, .str k.s, eV v, .int r, eS s] = M.ret (.tup ((dueZ st k v s r).map pD)) := by
  have q := lc_map (α := Int × Int) pD (mi := mIter (mCallG m_upairs_from [(0, 0), (0, 1), (0, 2), (0, 3)] [] (mCons (mVar 0) (mCons (mVar 1) (mCons (mVar 2) (mCons (mVar 4) mNil)))) mNil)) (tg := gvN 5) (t := mB (mOp (oInt fun i j => decide (i ≤ j)) (mOp oIx (mVar 5) (mC (.int 0))) (mVar 3))) (e := mVar 5) (vs := [5])
    (env := [some (eSt st), some (.str k.s), some (eV v), some (.int r), some (eS s), none]) (p := fun p => decide (p.1 ≤ r)) (f := pD) (fun p => [some (eSt st), some (.str k.s), some (eV v), some (.int r), some (eS s), some (pD p)]) (prs st k v s)
    (by simp only [mVar, mC, mOp, mUn, mCall, mCons, mNil, mIf, mAnd, mOr, mNot, mB, mTV, mAndV, mOrV, mNotV, mChain, asB, mIter, mItems, mValues, mIterA, mCut, mSome, mNone, pInt, mCallG, mCallK, sel, M.ret_bnd, M.opt_some, M.ass_t, M.bnd_bnd, M.stk_bnd, view, Sl.see, List.map_cons, List.map_nil, List.getElem?_cons_zero, List.getElem?_cons_succ, Option.join_some, List.set_cons_zero, List.set_cons_succ, sSeq, sRet, sN, sIf, sAsg, sDrop, sNext, sUnp, sFor, sRetN, mBody, outV, startEn, List.length_cons, List.length_nil, List.replicate_succ, List.replicate_zero, List.cons_append, List.nil_append, M.calm_ret, small, tgN, tgTup, tgCons, tgNil, gvN, gvTup, gvCons, gvNil, wipeN, Option.toList_some, List.append_nil, if_true, Bool.not_true, Bool.not_false, Option.bind_some, items, itemsI, itemsV, pairs_from_ev h hs hv hn]) (by have := prs_len st k v s; have := h.len; omega) (fun x _ => by simp only [mVar, mC, mOp, mUn, mCall, mCons, mNil, mIf, mAnd, mOr, mNot, mB, mTV, mAndV, mOrV, mNotV, mChain, asB, mIter, mItems, mValues, mIterA, mCut, mSome, mNone, pInt, mCallG, mCallK, sel, M.ret_bnd, M.opt_some, M.ass_t, M.bnd_bnd, M.stk_bnd, view, Sl.see, List.map_cons, List.map_nil, List.getElem?_cons_zero, List.getElem?_cons_succ, Option.join_some, List.set_cons_zero, List.set_cons_succ, sSeq, sRet, sN, sIf, sAsg, sDrop, sNext, sUnp, sFor, sRetN, mBody, outV, startEn, List.length_cons, List.length_nil, List.replicate_succ, List.replicate_zero, List.cons_append, List.nil_append, M.calm_ret, small, tgN, tgTup, tgCons, tgNil, gvN, gvTup, gvCons, gvNil, wipeN, Option.toList_some, List.append_nil, if_true, Bool.not_true, Bool.not_false, Option.bind_some, items, itemsI, itemsV]) (fun x _ => by simp only [mVar, mC, mOp, mUn, mCall, mCons, mNil, mIf, mAnd, mOr, mNot, mB, mTV, mAndV, mOrV, mNotV, mChain, asB, mIter, mItems, mValues, mIterA, mCut, mSome, mNone, pInt, mCallG, mCallK, sel, M.ret_bnd, M.opt_some, M.ass_t, M.bnd_bnd, M.stk_bnd, view, Sl.see, List.map_cons, List.map_nil, List.getElem?_cons_zero, List.getElem?_cons_succ, Option.join_some, List.set_cons_zero, List.set_cons_succ, sSeq, sRet, sN, sIf, sAsg, sDrop, sNext, sUnp, sFor, sRetN, mBody, outV, startEn, List.length_cons, List.length_nil, List.replicate_succ, List.replicate_zero, List.cons_append, List.nil_append, M.calm_ret, small, tgN, tgTup, tgCons, tgNil, gvN, gvTup, gvCons, gvNil, wipeN, Option.toList_some, List.append_nil, if_true, Bool.not_true, Bool.not_false, Option.bind_some, items, itemsI, itemsV, pD, ix_t0, oInt]) (fun x _ _ => by simp only [mVar, mC, mOp, mUn, mCall, mCons, mNil, mIf, mAnd, mOr, mNot, mB, mTV, mAndV, mOrV, mNotV, mChain, asB, mIter, mItems, mValues, mIterA, mCut, mSome, mNone, pInt, mCallG, mCallK, sel, M.ret_bnd, M.opt_some, M.ass_t, M.bnd_bnd, M.stk_bnd, view, Sl.see, List.map_cons, List.map_nil, List.getElem?_cons_zero, List.getElem?_cons_succ, Option.join_some, List.set_cons_zero, List.set_cons_succ, sSeq, sRet, sN, sIf, sAsg, sDrop, sNext, sUnp, sFor, sRetN, mBody, outV, startEn, List.length_cons, List.length_nil, List.replicate_succ, List.replicate_zero, List.cons_append, List.nil_append, M.calm_ret, small, tgN, tgTup, tgCons, tgNil, gvN, gvTup, gvCons, gvNil, wipeN, Option.toList_some, List.append_nil, if_true, Bool.not_true, Bool.not_false, Option.bind_some, items, itemsI, itemsV])
  simp only [m_uwithin, b_uwithin, N_uwithin, mVar, mC, mOp, mUn, mCall, mCons, mNil, mIf, mAnd, mOr, mNot, mB, mTV, mAndV, mOrV, mNotV, mChain, asB, mIter, mItems, mValues, mIterA, mCut, mSome, mNone, pInt, mCallG, mCallK, sel, M.ret_bnd, M.opt_some, M.ass_t, M.bnd_bnd, M.stk_bnd, view, Sl.see, List.map_cons, List.map_nil, List.getElem?_cons_zero, List.getElem?_cons_succ, Option.join_some, List.set_cons_zero, List.set_cons_succ, sSeq, sRet, sN, sIf, sAsg, sDrop, sNext, sUnp, sFor, sRetN, mBody, outV, startEn, List.length_cons, List.length_nil, List.replicate_succ, List.replicate_zero, List.cons_append, List.nil_append, M.calm_ret, small, tgN, tgTup, tgCons, tgNil, gvN, gvTup, gvCons, gvNil, wipeN, Option.toList_some, List.append_nil, if_true, Bool.not_true, Bool.not_false, Option.bind_some, items, itemsI, itemsV, decide_true, q, bTuple]
  rfl
def eQ (k : Kn) (v : List Int) (m : Int) (s : Sv) : D := .tup [.str k.s, eV v, .int m, eS s]
theorem law_pairs_ev {n : Nat} {st : St2} {k : Kn} {v : List Int} {m : Int} {s : Sv} (h : StOk n st) (hs : s.ok) (hv : VcOk n v) (hn : n ≤ 1000) (h0 : 0 < n) : m_u_law_pairs [eSt st, eQ k v m s] = M.ret (.lst ((prs st k v s).map pD)) := by
  have q := lc_map (α := Int × It) (fun p => eI p.2) (mi := mIter (mUn valsD (mVar 0))) (tg := gvN 6) (t := mB (mCallG (m_u_law_passes 5) [(0, 0), (0, 1)] [] (mCons (mVar 5) (mCons (mVar 6) mNil)) mNil))
    (e := mCall dTup (mCons (mCallG m_u_law_far [(0, 0), (0, 1), (0, 2)] [] (mCons (mVar 2) (mCons (mVar 3) (mCons (mOp oIx (mVar 6) (mC (.int 1))) mNil))) mNil) (mCons (mOp oIx (mVar 6) (mC (.int 0))) mNil))) (vs := [6])
    (env := [some (eSt st), some (eQ k v m s), some (.str k.s), some (eV v), some (.int m), some (eS s), none]) (p := fun p => okS s p.2.ls) (f := fun p => pD (dist k v p.2.v, p.1)) (fun p => [some (eSt st), some (eQ k v m s), some (.str k.s), some (eV v), some (.int m), some (eS s), some (eI p.2)]) st
    (by simp only [mVar, mC, mOp, mUn, mCall, mCons, mNil, mIf, mAnd, mOr, mNot, mB, mTV, mAndV, mOrV, mNotV, mChain, asB, mIter, mItems, mValues, mIterA, mCut, mSome, mNone, pInt, mCallG, mCallK, sel, M.ret_bnd, M.opt_some, M.ass_t, M.bnd_bnd, M.stk_bnd, view, Sl.see, List.map_cons, List.map_nil, List.getElem?_cons_zero, List.getElem?_cons_succ, Option.join_some, List.set_cons_zero, List.set_cons_succ, sSeq, sRet, sN, sIf, sAsg, sDrop, sNext, sUnp, sFor, sRetN, mBody, outV, startEn, List.length_cons, List.length_nil, List.replicate_succ, List.replicate_zero, List.cons_append, List.nil_append, M.calm_ret, small, tgN, tgTup, tgCons, tgNil, gvN, gvTup, gvCons, gvNil, wipeN, Option.toList_some, List.append_nil, if_true, Bool.not_true, Bool.not_false, Option.bind_some, items, itemsI, itemsV, eSt, valsD, dicOf, List.map_map]; rfl) (by have := h.len; omega) (fun x _ => by simp only [mVar, mC, mOp, mUn, mCall, mCons, mNil, mIf, mAnd, mOr, mNot, mB, mTV, mAndV, mOrV, mNotV, mChain, asB, mIter, mItems, mValues, mIterA, mCut, mSome, mNone, pInt, mCallG, mCallK, sel, M.ret_bnd, M.opt_some, M.ass_t, M.bnd_bnd, M.stk_bnd, view, Sl.see, List.map_cons, List.map_nil, List.getElem?_cons_zero, List.getElem?_cons_succ, Option.join_some, List.set_cons_zero, List.set_cons_succ, sSeq, sRet, sN, sIf, sAsg, sDrop, sNext, sUnp, sFor, sRetN, mBody, outV, startEn, List.length_cons, List.length_nil, List.replicate_succ, List.replicate_zero, List.cons_append, List.nil_append, M.calm_ret, small, tgN, tgTup, tgCons, tgNil, gvN, gvTup, gvCons, gvNil, wipeN, Option.toList_some, List.append_nil, if_true, Bool.not_true, Bool.not_false, Option.bind_some, items, itemsI, itemsV]) (fun x hx => by simp only [mVar, mC, mOp, mUn, mCall, mCons, mNil, mIf, mAnd, mOr, mNot, mB, mTV, mAndV, mOrV, mNotV, mChain, asB, mIter, mItems, mValues, mIterA, mCut, mSome, mNone, pInt, mCallG, mCallK, sel, M.ret_bnd, M.opt_some, M.ass_t, M.bnd_bnd, M.stk_bnd, view, Sl.see, List.map_cons, List.map_nil, List.getElem?_cons_zero, List.getElem?_cons_succ, Option.join_some, List.set_cons_zero, List.set_cons_succ, sSeq, sRet, sN, sIf, sAsg, sDrop, sNext, sUnp, sFor, sRetN, mBody, outV, startEn, List.length_cons, List.length_nil, List.replicate_succ, List.replicate_zero, List.cons_append, List.nil_append, M.calm_ret, small, tgN, tgTup, tgCons, tgNil, gvN, gvTup, gvCons, gvNil, wipeN, Option.toList_some, List.append_nil, if_true, Bool.not_true, Bool.not_false, Option.bind_some, items, itemsI, itemsV, lp_ev s hs (h.it x hx).ls, okS_eq s (h.it x hx).nd])
    (fun x hx _ => by
      have hi := h.it x hx
      have ne1 : v ≠ [] := fun z => by have := hv.len; rw [z] at this; simp at this; omega
      have ne2 : x.2.v ≠ [] := fun z => by have := hi.len; rw [z] at this; simp at this; omega
      have d := far_ev k v x.2.v ne1 ne2 (by rw [hv.len]; exact hn) (near_subs (n := n) hv.big hi.big)
      simp only [mVar, mC, mOp, mUn, mCall, mCons, mNil, mIf, mAnd, mOr, mNot, mB, mTV, mAndV, mOrV, mNotV, mChain, asB, mIter, mItems, mValues, mIterA, mCut, mSome, mNone, pInt, mCallG, mCallK, sel, M.ret_bnd, M.opt_some, M.ass_t, M.bnd_bnd, M.stk_bnd, view, Sl.see, List.map_cons, List.map_nil, List.getElem?_cons_zero, List.getElem?_cons_succ, Option.join_some, List.set_cons_zero, List.set_cons_succ, sSeq, sRet, sN, sIf, sAsg, sDrop, sNext, sUnp, sFor, sRetN, mBody, outV, startEn, List.length_cons, List.length_nil, List.replicate_succ, List.replicate_zero, List.cons_append, List.nil_append, M.calm_ret, small, tgN, tgTup, tgCons, tgNil, gvN, gvTup, gvCons, gvNil, wipeN, Option.toList_some, List.append_nil, if_true, Bool.not_true, Bool.not_false, Option.bind_some, items, itemsI, itemsV, eI, ix_t1, ix_t0, d, dtup2, h.key x hx, pD])
  have e : (st.filter fun p => okS s p.2.ls).map (fun p => pD (dist k v p.2.v, p.1)) = ((st.filter fun p => okS s p.2.ls).map fun p => (dist k v p.2.v, p.1)).map pD := by rw [List.map_map]; rfl
  rw [e] at q
  simp only [m_u_law_pairs, b_u_law_pairs, N_u_law_pairs, mVar, mC, mOp, mUn, mCall, mCons, mNil, mIf, mAnd, mOr, mNot, mB, mTV, mAndV, mOrV, mNotV, mChain, asB, mIter, mItems, mValues, mIterA, mCut, mSome, mNone, pInt, mCallG, mCallK, sel, M.ret_bnd, M.opt_some, M.ass_t, M.bnd_bnd, M.stk_bnd, view, Sl.see, List.map_cons, List.map_nil, List.getElem?_cons_zero, List.getElem?_cons_succ, Option.join_some, List.set_cons_zero, List.set_cons_succ, sSeq, sRet, sN, sIf, sAsg, sDrop, sNext, sUnp, sFor, sRetN, mBody, outV, startEn, List.length_cons, List.length_nil, List.replicate_succ, List.replicate_zero, List.cons_append, List.nil_append, M.calm_ret, small, tgN, tgTup, tgCons, tgNil, gvN, gvTup, gvCons, gvNil, wipeN, Option.toList_some, List.append_nil, if_true, Bool.not_true, Bool.not_false, Option.bind_some, items, itemsI, itemsV, decide_true, eQ, sFN] at q ⊢
  simp only [q, M.ret_bnd, sorted_pairs, outV]
  rfl
theorem law_due_ev {n : Nat} {st : St2} {k : Kn} {v : List Int} {m r : Int} {s : Sv} (h : StOk n st) (hs : s.ok) (hv : VcOk n v) (hn : n ≤ 1000) (h0 : 0 < n) : m_u_law_due [eSt st, eQ k v m s, .int r] = M.ret (.tup ((dueZ st k v s r).map pD)) := by
  have q := lc_map (α := Int × Int) pD (mi := mIter (mCallG m_u_law_pairs [(0, 0), (0, 1)] [] (mCons (mVar 0) (mCons (mVar 1) mNil)) mNil)) (tg := gvN 3) (t := mB (mOp (oInt fun i j => decide (i ≤ j)) (mOp oIx (mVar 3) (mC (.int 0))) (mVar 2))) (e := mVar 3) (vs := [3])
    (env := [some (eSt st), some (eQ k v m s), some (.int r), none]) (p := fun p => decide (p.1 ≤ r)) (f := pD) (fun p => [some (eSt st), some (eQ k v m s), some (.int r), some (pD p)]) (prs st k v s)
    (by simp only [mVar, mC, mOp, mUn, mCall, mCons, mNil, mIf, mAnd, mOr, mNot, mB, mTV, mAndV, mOrV, mNotV, mChain, asB, mIter, mItems, mValues, mIterA, mCut, mSome, mNone, pInt, mCallG, mCallK, sel, M.ret_bnd, M.opt_some, M.ass_t, M.bnd_bnd, M.stk_bnd, view, Sl.see, List.map_cons, List.map_nil, List.getElem?_cons_zero, List.getElem?_cons_succ, Option.join_some, List.set_cons_zero, List.set_cons_succ, sSeq, sRet, sN, sIf, sAsg, sDrop, sNext, sUnp, sFor, sRetN, mBody, outV, startEn, List.length_cons, List.length_nil, List.replicate_succ, List.replicate_zero, List.cons_append, List.nil_append, M.calm_ret, small, tgN, tgTup, tgCons, tgNil, gvN, gvTup, gvCons, gvNil, wipeN, Option.toList_some, List.append_nil, if_true, Bool.not_true, Bool.not_false, Option.bind_some, items, itemsI, itemsV, law_pairs_ev h hs hv hn h0]) (by have := prs_len st k v s; have := h.len; omega) (fun x _ => by simp only [mVar, mC, mOp, mUn, mCall, mCons, mNil, mIf, mAnd, mOr, mNot, mB, mTV, mAndV, mOrV, mNotV, mChain, asB, mIter, mItems, mValues, mIterA, mCut, mSome, mNone, pInt, mCallG, mCallK, sel, M.ret_bnd, M.opt_some, M.ass_t, M.bnd_bnd, M.stk_bnd, view, Sl.see, List.map_cons, List.map_nil, List.getElem?_cons_zero, List.getElem?_cons_succ, Option.join_some, List.set_cons_zero, List.set_cons_succ, sSeq, sRet, sN, sIf, sAsg, sDrop, sNext, sUnp, sFor, sRetN, mBody, outV, startEn, List.length_cons, List.length_nil, List.replicate_succ, List.replicate_zero, List.cons_append, List.nil_append, M.calm_ret, small, tgN, tgTup, tgCons, tgNil, gvN, gvTup, gvCons, gvNil, wipeN, Option.toList_some, List.append_nil, if_true, Bool.not_true, Bool.not_false, Option.bind_some, items, itemsI, itemsV]) (fun x _ => by simp only [mVar, mC, mOp, mUn, mCall, mCons, mNil, mIf, mAnd, mOr, mNot, mB, mTV, mAndV, mOrV, mNotV, mChain, asB, mIter, mItems, mValues, mIterA, mCut, mSome, mNone, pInt, mCallG, mCallK, sel, M.ret_bnd, M.opt_some, M.ass_t, M.bnd_bnd, M.stk_bnd, view, Sl.see, List.map_cons, List.map_nil, List.getElem?_cons_zero, List.getElem?_cons_succ, Option.join_some, List.set_cons_zero, List.set_cons_succ, sSeq, sRet, sN, sIf, sAsg, sDrop, sNext, sUnp, sFor, sRetN, mBody, outV, startEn, List.length_cons, List.length_nil, List.replicate_succ, List.replicate_zero, List.cons_append, List.nil_append, M.calm_ret, small, tgN, tgTup, tgCons, tgNil, gvN, gvTup, gvCons, gvNil, wipeN, Option.toList_some, List.append_nil, if_true, Bool.not_true, Bool.not_false, Option.bind_some, items, itemsI, itemsV, pD, ix_t0, oInt]) (fun x _ _ => by simp only [mVar, mC, mOp, mUn, mCall, mCons, mNil, mIf, mAnd, mOr, mNot, mB, mTV, mAndV, mOrV, mNotV, mChain, asB, mIter, mItems, mValues, mIterA, mCut, mSome, mNone, pInt, mCallG, mCallK, sel, M.ret_bnd, M.opt_some, M.ass_t, M.bnd_bnd, M.stk_bnd, view, Sl.see, List.map_cons, List.map_nil, List.getElem?_cons_zero, List.getElem?_cons_succ, Option.join_some, List.set_cons_zero, List.set_cons_succ, sSeq, sRet, sN, sIf, sAsg, sDrop, sNext, sUnp, sFor, sRetN, mBody, outV, startEn, List.length_cons, List.length_nil, List.replicate_succ, List.replicate_zero, List.cons_append, List.nil_append, M.calm_ret, small, tgN, tgTup, tgCons, tgNil, gvN, gvTup, gvCons, gvNil, wipeN, Option.toList_some, List.append_nil, if_true, Bool.not_true, Bool.not_false, Option.bind_some, items, itemsI, itemsV])
  simp only [m_u_law_due, b_u_law_due, N_u_law_due, mVar, mC, mOp, mUn, mCall, mCons, mNil, mIf, mAnd, mOr, mNot, mB, mTV, mAndV, mOrV, mNotV, mChain, asB, mIter, mItems, mValues, mIterA, mCut, mSome, mNone, pInt, mCallG, mCallK, sel, M.ret_bnd, M.opt_some, M.ass_t, M.bnd_bnd, M.stk_bnd, view, Sl.see, List.map_cons, List.map_nil, List.getElem?_cons_zero, List.getElem?_cons_succ, Option.join_some, List.set_cons_zero, List.set_cons_succ, sSeq, sRet, sN, sIf, sAsg, sDrop, sNext, sUnp, sFor, sRetN, mBody, outV, startEn, List.length_cons, List.length_nil, List.replicate_succ, List.replicate_zero, List.cons_append, List.nil_append, M.calm_ret, small, tgN, tgTup, tgCons, tgNil, gvN, gvTup, gvCons, gvNil, wipeN, Option.toList_some, List.append_nil, if_true, Bool.not_true, Bool.not_false, Option.bind_some, items, itemsI, itemsV, decide_true, q, bTuple]
  rfl
end Fw

namespace Fw
open PySem PySem.Spec PyProof.Rows L2

/-! ### news -/
def pP (p : Int × Int) : PyData := .tuple [.int p.1, .int p.2]
theorem pD_py (p : Int × Int) : (pD p).py = some (pP p) := by simp only [pD, D.py, pyL, Option.map_some, pP]
theorem pyL_pairs : ∀ l : List (Int × Int), pyL (l.map pD) = some (l.map pP)
  | [] => by simp only [List.map_nil, pyL]
  | p :: l => by simp only [List.map_cons, pyL, pD_py, pyL_pairs l]
theorem lay_pairs : ∀ l : List (Int × Int), PyData.canLayAll0 (l.map pP) = true
  | [] => by simp only [List.map_nil, PyData.canLayAll0]
  | p :: l => by simp only [List.map_cons, PyData.canLayAll0, pP, PyData.canLay0, lay_pairs l, Bool.and_self]
theorem dep_pairs : ∀ l : List (Int × Int), PyData.depthAll (l.map pP) ≤ 1
  | [] => by simp [PyData.depthAll]
  | p :: l => by have := dep_pairs l; simp [PyData.depthAll, pP, PyData.depth]; omega
theorem in_pairs (neg : Bool) (p : Int × Int) (l : List (Int × Int)) : oIn neg (pD p) (.tup (l.map pD)) = M.ret (.bl (neg != decide (p ∈ l))) := by
  have h1 : SeqAt.shaped (pP p) = true := by unfold SeqAt.shaped; simp [pP, PyData.canLay0, PyData.canLayAll0, PyData.depth, PyData.depthAll]
  have h2 : SeqAt.shaped (.tuple (l.map pP)) = true := by
    unfold SeqAt.shaped
    simp only [PyData.canLay0, lay_pairs, PyData.depth, Bool.true_and]
    exact decide_eq_true (by have := dep_pairs l; omega)
  have h3 : ((l.map pP).any fun z => PyData.eqv z (pP p)) = decide (p ∈ l) := by
    rw [List.any_map]
    have e : ∀ z : Int × Int, ((fun z => PyData.eqv z (pP p)) ∘ pP) z = decide (z = p) := fun z => by
      rw [← eqD_pair z p]
      unfold eqD
      simp only [pD_py]; rfl
    rw [show ((fun z => PyData.eqv z (pP p)) ∘ pP) = fun z => decide (z = p) from funext e]
    by_cases h : p ∈ l
    · rw [decide_eq_true h, List.any_eq_true]; exact ⟨p, h, by simp⟩
    · rw [decide_eq_false h, List.any_eq_false]; exact fun z hz e => h (by rw [← of_decide_eq_true e]; exact hz)
  unfold oIn
  simp only [pD_py, pyL_pairs, h1, h2, Bool.and_self, M.ass_t, M.ret_bnd, h3]
def newsZ (a b : List (Int × Int)) : D := .tup [.tup ((a.filter fun p => !decide (p ∈ b)).map pD), .tup ((b.filter fun p => !decide (p ∈ a)).map pD)]
theorem news_lc (a b : List (Int × Int)) (A B : D) (hl : a.length ≤ 1000) (i j : Nat) (hi : mIter (mVar i) [some A, some B, none] = M.ret (a.map pD)) (hj : ∀ x, mVar j [some A, some B, some x] = M.ret (.tup (b.map pD))) : mLc (mIter (mVar i)) (gvN 2) (mB (mOp (oIn true) (mVar 2) (mVar j))) (mVar 2) [2] [some A, some B, none] = M.ret (.lst ((a.filter fun p => !decide (p ∈ b)).map pD)) :=
  lc_map (α := Int × Int) pD (p := fun p => !decide (p ∈ b)) (f := pD) (fun p => [some A, some B, some (pD p)]) a hi (by omega) (fun x _ => by simp only [mVar, mC, mOp, mUn, mCall, mCons, mNil, mIf, mAnd, mOr, mNot, mB, mTV, mAndV, mOrV, mNotV, mChain, asB, mIter, mItems, mValues, mIterA, mCut, mSome, mNone, pInt, mCallG, mCallK, sel, M.ret_bnd, M.opt_some, M.ass_t, M.bnd_bnd, M.stk_bnd, view, Sl.see, List.map_cons, List.map_nil, List.getElem?_cons_zero, List.getElem?_cons_succ, Option.join_some, List.set_cons_zero, List.set_cons_succ, sSeq, sRet, sN, sIf, sAsg, sDrop, sNext, sUnp, sFor, sRetN, mBody, outV, startEn, List.length_cons, List.length_nil, List.replicate_succ, List.replicate_zero, List.cons_append, List.nil_append, M.calm_ret, small, tgN, tgTup, tgCons, tgNil, gvN, gvTup, gvCons, gvNil, wipeN, Option.toList_some, List.append_nil, if_true, Bool.not_true, Bool.not_false, Option.bind_some, items, itemsI, itemsV]) (fun x _ => by
    show M.bnd (M.bnd (mVar 2 [some A, some B, some (pD x)]) fun u => M.bnd (mVar j [some A, some B, some (pD x)]) fun w => oIn true u w) asB = _
    rw [show mVar 2 [some A, some B, some (pD x)] = M.ret (pD x) from rfl, M.ret_bnd, hj, M.ret_bnd, in_pairs, M.ret_bnd]
    cases decide (x ∈ b) <;> rfl) (fun x _ _ => by simp only [mVar, mC, mOp, mUn, mCall, mCons, mNil, mIf, mAnd, mOr, mNot, mB, mTV, mAndV, mOrV, mNotV, mChain, asB, mIter, mItems, mValues, mIterA, mCut, mSome, mNone, pInt, mCallG, mCallK, sel, M.ret_bnd, M.opt_some, M.ass_t, M.bnd_bnd, M.stk_bnd, view, Sl.see, List.map_cons, List.map_nil, List.getElem?_cons_zero, List.getElem?_cons_succ, Option.join_some, List.set_cons_zero, List.set_cons_succ, sSeq, sRet, sN, sIf, sAsg, sDrop, sNext, sUnp, sFor, sRetN, mBody, outV, startEn, List.length_cons, List.length_nil, List.replicate_succ, List.replicate_zero, List.cons_append, List.nil_append, M.calm_ret, small, tgN, tgTup, tgCons, tgNil, gvN, gvTup, gvCons, gvNil, wipeN, Option.toList_some, List.append_nil, if_true, Bool.not_true, Bool.not_false, Option.bind_some, items, itemsI, itemsV])
theorem news_ev (a b : List (Int × Int)) (ha : a.length ≤ 1000) (hb : b.length ≤ 1000) : m_unews_of [.tup (a.map pD), .tup (b.map pD)] = M.ret (newsZ a b) := by
  have q1 := news_lc a b (.tup (a.map pD)) (.tup (b.map pD)) ha 0 1 (by simp only [mVar, mC, mOp, mUn, mCall, mCons, mNil, mIf, mAnd, mOr, mNot, mB, mTV, mAndV, mOrV, mNotV, mChain, asB, mIter, mItems, mValues, mIterA, mCut, mSome, mNone, pInt, mCallG, mCallK, sel, M.ret_bnd, M.opt_some, M.ass_t, M.bnd_bnd, M.stk_bnd, view, Sl.see, List.map_cons, List.map_nil, List.getElem?_cons_zero, List.getElem?_cons_succ, Option.join_some, List.set_cons_zero, List.set_cons_succ, sSeq, sRet, sN, sIf, sAsg, sDrop, sNext, sUnp, sFor, sRetN, mBody, outV, startEn, List.length_cons, List.length_nil, List.replicate_succ, List.replicate_zero, List.cons_append, List.nil_append, M.calm_ret, small, tgN, tgTup, tgCons, tgNil, gvN, gvTup, gvCons, gvNil, wipeN, Option.toList_some, List.append_nil, if_true, Bool.not_true, Bool.not_false, Option.bind_some, items, itemsI, itemsV]) (fun x => by simp only [mVar, mC, mOp, mUn, mCall, mCons, mNil, mIf, mAnd, mOr, mNot, mB, mTV, mAndV, mOrV, mNotV, mChain, asB, mIter, mItems, mValues, mIterA, mCut, mSome, mNone, pInt, mCallG, mCallK, sel, M.ret_bnd, M.opt_some, M.ass_t, M.bnd_bnd, M.stk_bnd, view, Sl.see, List.map_cons, List.map_nil, List.getElem?_cons_zero, List.getElem?_cons_succ, Option.join_some, List.set_cons_zero, List.set_cons_succ, sSeq, sRet, sN, sIf, sAsg, sDrop, sNext, sUnp, sFor, sRetN, mBody, outV, startEn, List.length_cons, List.length_nil, List.replicate_succ, List.replicate_zero, List.cons_append, List.nil_append, M.calm_ret, small, tgN, tgTup, tgCons, tgNil, gvN, gvTup, gvCons, gvNil, wipeN, Option.toList_some, List.append_nil, if_true, Bool.not_true, Bool.not_false, Option.bind_some, items, itemsI, itemsV])
  have q2 := news_lc b a (.tup (a.map pD)) (.tup (b.map pD)) hb 1 0 (by simp only [mVar, mC, mOp, mUn, mCall, mCons, mNil, mIf, mAnd, mOr, mNot, mB, mTV, mAndV, mOrV, mNotV, mChain, asB, mIter, mItems, mValues, mIterA, mCut, mSome, mNone, pInt, mCallG, mCallK, sel, M.ret_bnd, M.opt_some, M.ass_t, M.bnd_bnd, M.stk_bnd, view, Sl.see, List.map_cons, List.map_nil, List.getElem?_cons_zero, List.getElem?_cons_succ, Option.join_some, List.set_cons_zero, List.set_cons_succ, sSeq, sRet, sN, sIf, sAsg, sDrop, sNext, sUnp, sFor, sRetN, mBody, outV, startEn, List.length_cons, List.length_nil, List.replicate_succ, List.replicate_zero, List.cons_append, List.nil_append, M.calm_ret, small, tgN, tgTup, tgCons, tgNil, gvN, gvTup, gvCons, gvNil, wipeN, Option.toList_some, List.append_nil, if_true, Bool.not_true, Bool.not_false, Option.bind_some, items, itemsI, itemsV]) (fun x => by simp only [mVar, mC, mOp, mUn, mCall, mCons, mNil, mIf, mAnd, mOr, mNot, mB, mTV, mAndV, mOrV, mNotV, mChain, asB, mIter, mItems, mValues, mIterA, mCut, mSome, mNone, pInt, mCallG, mCallK, sel, M.ret_bnd, M.opt_some, M.ass_t, M.bnd_bnd, M.stk_bnd, view, Sl.see, List.map_cons, List.map_nil, List.getElem?_cons_zero, List.getElem?_cons_succ, Option.join_some, List.set_cons_zero, List.set_cons_succ, sSeq, sRet, sN, sIf, sAsg, sDrop, sNext, sUnp, sFor, sRetN, mBody, outV, startEn, List.length_cons, List.length_nil, List.replicate_succ, List.replicate_zero, List.cons_append, List.nil_append, M.calm_ret, small, tgN, tgTup, tgCons, tgNil, gvN, gvTup, gvCons, gvNil, wipeN, Option.toList_some, List.append_nil, if_true, Bool.not_true, Bool.not_false, Option.bind_some, items, itemsI, itemsV])
  simp only [m_unews_of, b_unews_of, N_unews_of, mVar, mC, mOp, mUn, mCall, mCons, mNil, mIf, mAnd, mOr, mNot, mB, mTV, mAndV, mOrV, mNotV, mChain, asB, mIter, mItems, mValues, mIterA, mCut, mSome, mNone, pInt, mCallG, mCallK, sel, M.ret_bnd, M.opt_some, M.ass_t, M.bnd_bnd, M.stk_bnd, view, Sl.see, List.map_cons, List.map_nil, List.getElem?_cons_zero, List.getElem?_cons_succ, Option.join_some, List.set_cons_zero, List.set_cons_succ, sSeq, sRet, sN, sIf, sAsg, sDrop, sNext, sUnp, sFor, sRetN, mBody, outV, startEn, List.length_cons, List.length_nil, List.replicate_succ, List.replicate_zero, List.cons_append, List.nil_append, M.calm_ret, small, tgN, tgTup, tgCons, tgNil, gvN, gvTup, gvCons, gvNil, wipeN, Option.toList_some, List.append_nil, if_true, Bool.not_true, Bool.not_false, Option.bind_some, items, itemsI, itemsV, decide_true, q1, q2, bTuple, dtup2, newsZ]
theorem law_news_ev (a b : List (Int × Int)) (ha : a.length ≤ 1000) (hb : b.length ≤ 1000) : m_u_law_news [.tup (a.map pD), .tup (b.map pD)] = M.ret (newsZ a b) := by
  have q1 := news_lc a b (.tup (a.map pD)) (.tup (b.map pD)) ha 0 1 (by simp only [mVar, mC, mOp, mUn, mCall, mCons, mNil, mIf, mAnd, mOr, mNot, mB, mTV, mAndV, mOrV, mNotV, mChain, asB, mIter, mItems, mValues, mIterA, mCut, mSome, mNone, pInt, mCallG, mCallK, sel, M.ret_bnd, M.opt_some, M.ass_t, M.bnd_bnd, M.stk_bnd, view, Sl.see, List.map_cons, List.map_nil, List.getElem?_cons_zero, List.getElem?_cons_succ, Option.join_some, List.set_cons_zero, List.set_cons_succ, sSeq, sRet, sN, sIf, sAsg, sDrop, sNext, sUnp, sFor, sRetN, mBody, outV, startEn, List.length_cons, List.length_nil, List.replicate_succ, List.replicate_zero, List.cons_append, List.nil_append, M.calm_ret, small, tgN, tgTup, tgCons, tgNil, gvN, gvTup, gvCons, gvNil, wipeN, Option.toList_some, List.append_nil, if_true, Bool.not_true, Bool.not_false, Option.bind_some, items, itemsI, itemsV]) (fun x => by simp only [mVar, mC, mOp, mUn, mCall, mCons, mNil, mIf, mAnd, mOr, mNot, mB, mTV, mAndV, mOrV, mNotV, mChain, asB, mIter, mItems, mValues, mIterA, mCut, mSome, mNone, pInt, mCallG, mCallK, sel, M.ret_bnd, M.opt_some, M.ass_t, M.bnd_bnd, M.stk_bnd, view, Sl.see, List.map_cons, List.map_nil, List.getElem?_cons_zero, List.getElem?_cons_succ, Option.join_some, List.set_cons_zero, List.set_cons_succ, sSeq, sRet, sN, sIf, sAsg, sDrop, sNext, sUnp, sFor, sRetN, mBody, outV, startEn, List.length_cons, List.length_nil, List.replicate_succ, List.replicate_zero, List.cons_append, List.nil_append, M.calm_ret, small, tgN, tgTup, tgCons, tgNil, gvN, gvTup, gvCons, gvNil, wipeN, Option.toList_some, List.append_nil, if_true, Bool.not_true, Bool.not_false, Option.bind_some, items, itemsI, itemsV])
  have q2 := news_lc b a (.tup (a.map pD)) (.tup (b.map pD)) hb 1 0 (by simp only [mVar, mC, mOp, mUn, mCall, mCons, mNil, mIf, mAnd, mOr, mNot, mB, mTV, mAndV, mOrV, mNotV, mChain, asB, mIter, mItems, mValues, mIterA, mCut, mSome, mNone, pInt, mCallG, mCallK, sel, M.ret_bnd, M.opt_some, M.ass_t, M.bnd_bnd, M.stk_bnd, view, Sl.see, List.map_cons, List.map_nil, List.getElem?_cons_zero, List.getElem?_cons_succ, Option.join_some, List.set_cons_zero, List.set_cons_succ, sSeq, sRet, sN, sIf, sAsg, sDrop, sNext, sUnp, sFor, sRetN, mBody, outV, startEn, List.length_cons, List.length_nil, List.replicate_succ, List.replicate_zero, List.cons_append, List.nil_append, M.calm_ret, small, tgN, tgTup, tgCons, tgNil, gvN, gvTup, gvCons, gvNil, wipeN, Option.toList_some, List.append_nil, if_true, Bool.not_true, Bool.not_false, Option.bind_some, items, itemsI, itemsV]) (fun x => by simp only [mVar, mC, mOp, mUn, mCall, mCons, mNil, mIf, mAnd, mOr, mNot, mB, mTV, mAndV, mOrV, mNotV, mChain, asB, mIter, mItems, mValues, mIterA, mCut, mSome, mNone, pInt, mCallG, mCallK, sel, M.ret_bnd, M.opt_some, M.ass_t, M.bnd_bnd, M.stk_bnd, view, Sl.see, List.map_cons, List.map_nil, List.getElem?_cons_zero, List.getElem?_cons_succ, Option.join_some, List.set_cons_zero, List.set_cons_succ, sSeq, sRet, sN, sIf, sAsg, sDrop, sNext, sUnp, sFor, sRetN, mBody, outV, startEn, List.length_cons, List.length_nil, List.replicate_succ, List.replicate_zero, List.cons_append, List.nil_append, M.calm_ret, small, tgN, tgTup, tgCons, tgNil, gvN, gvTup, gvCons, gvNil, wipeN, Option.toList_some, List.append_nil, if_true, Bool.not_true, Bool.not_false, Option.bind_some, items, itemsI, itemsV])
  simp only [m_u_law_news, b_u_law_news, N_u_law_news, mVar, mC, mOp, mUn, mCall, mCons, mNil, mIf, mAnd, mOr, mNot, mB, mTV, mAndV, mOrV, mNotV, mChain, asB, mIter, mItems, mValues, mIterA, mCut, mSome, mNone, pInt, mCallG, mCallK, sel, M.ret_bnd, M.opt_some, M.ass_t, M.bnd_bnd, M.stk_bnd, view, Sl.see, List.map_cons, List.map_nil, List.getElem?_cons_zero, List.getElem?_cons_succ, Option.join_some, List.set_cons_zero, List.set_cons_succ, sSeq, sRet, sN, sIf, sAsg, sDrop, sNext, sUnp, sFor, sRetN, mBody, outV, startEn, List.length_cons, List.length_nil, List.replicate_succ, List.replicate_zero, List.cons_append, List.nil_append, M.calm_ret, small, tgN, tgTup, tgCons, tgNil, gvN, gvTup, gvCons, gvNil, wipeN, Option.toList_some, List.append_nil, if_true, Bool.not_true, Bool.not_false, Option.bind_some, items, itemsI, itemsV, decide_true, q1, q2, bTuple, dtup2, newsZ]
/-! ### within the reach, told early -/
def stepZ (k : Kn) (t d : Int) : Int := joined k [t, part k d]
theorem part_nn (k : Kn) (d : Int) : 0 ≤ part k d := by
  cases k
  · simp only [part]
    rcases Int.le_total 0 d with h | h
    · exact Int.mul_nonneg h h
    · have := Int.mul_nonneg (Int.neg_nonneg_of_nonpos h) (Int.neg_nonneg_of_nonpos h)
      rwa [Int.neg_mul_neg] at this
  · simp only [part]; split <;> omega
  · simp only [part]; split <;> omega
  · simp only [part]; split <;> omega
theorem maxZ_two (a b : Int) : maxZ [a, b] = if a < b then b else a := by
  simp only [maxZ, maxL, reduceCtorEq, if_false]
  rfl
theorem step_ge (k : Kn) (t d : Int) : t ≤ stepZ k t d := by
  have := part_nn k d
  cases k <;> simp only [stepZ, joined, List.sum_cons, List.sum_nil]
  · omega
  · omega
  · omega
  · rw [maxZ_two]; split <;> omega
theorem fold_ge (k : Kn) : ∀ (l : List Int) (t : Int), t ≤ l.foldl (stepZ k) t
  | [], t => Int.le_refl _
  | d :: l, t => Int.le_trans (step_ge k t d) (fold_ge k l _)
theorem maxL_le {l : List Int} {m : Int} (h : ∀ x ∈ l, x ≤ m) (hm : m ∈ l) : maxL l = m := by
  have ne : l ≠ [] := fun z => by rw [z] at hm; cases hm
  obtain ⟨h1, h2⟩ := maxL_spec ne
  exact Int.le_antisymm (h _ h1) (h2 _ hm)
theorem fold_sum {k : Kn} (hk : k ≠ .mo) : ∀ (l : List Int) (t : Int), l.foldl (stepZ k) t = t + (l.map (part k)).sum
  | [], t => by simp
  | d :: l, t => by
    rw [List.foldl_cons, fold_sum hk l, List.map_cons, List.sum_cons]
    cases k <;> simp only [stepZ, joined, List.sum_cons, List.sum_nil]
    · omega
    · omega
    · omega
    · exact absurd rfl hk
theorem maxZ_cons {a : Int} {l : List Int} (ha : 0 ≤ a) : maxZ (a :: l) = if a < maxZ l then maxZ l else a := by
  cases l with
  | nil => simp only [maxZ, maxL, reduceCtorEq, if_false, if_true]; split <;> omega
  | cons b l => simp only [maxZ, maxL, reduceCtorEq, if_false]
theorem maxZ_nn : ∀ {l : List Int}, (∀ x ∈ l, 0 ≤ x) → 0 ≤ maxZ l
  | [], _ => by simp [maxZ]
  | a :: l, h => by
    have ha := h a List.mem_cons_self
    have := maxZ_nn (l := l) fun x hx => h x (List.mem_cons_of_mem _ hx)
    rw [maxZ_cons ha]; split <;> omega
theorem fold_max : ∀ (l : List Int) (t : Int), 0 ≤ t → l.foldl (stepZ .mo) t = if t < maxZ (l.map (part .mo)) then maxZ (l.map (part .mo)) else t
  | [], t, h => by simp only [List.foldl_nil, List.map_nil, maxZ, if_true]; split <;> omega
  | d :: l, t, h => by
    have hd := part_nn .mo d
    have e : stepZ .mo t d = if t < part .mo d then part .mo d else t := maxZ_two _ _
    have h' : 0 ≤ stepZ .mo t d := by rw [e]; split <;> omega
    rw [List.foldl_cons, fold_max l _ h', e, List.map_cons, maxZ_cons hd]
    generalize maxZ (l.map (part .mo)) = m
    generalize part .mo d = p at *
    (repeat' split) <;> omega
theorem fold_dist (k : Kn) (a b : List Int) : (subs a b).foldl (stepZ k) 0 = dist k a b := by
  by_cases hk : k = .mo
  · subst hk
    have := maxZ_nn (l := (subs a b).map (part .mo)) fun x hx => by
      obtain ⟨d, _, rfl⟩ := List.mem_map.mp hx
      exact part_nn .mo d
    rw [fold_max _ _ (Int.le_refl _)]
    show (if 0 < maxZ ((subs a b).map (part .mo)) then maxZ ((subs a b).map (part .mo)) else 0) = maxZ ((subs a b).map (part .mo))
    split <;> omega
  · rw [fold_sum hk, Int.zero_add]
    unfold dist joined
    cases k <;> first | rfl | exact absurd rfl hk
theorem within_loop {k : Kn} {A B : Sl} {r : Int} : ∀ (l : List Int), (∀ d ∈ l, nearD d) → ∀ (t : Int) (x : Sl), ∃ f, loopM (tgN 5) (sSeq (sAsg 4 (sN (mCallG m_ujoined_parts [(0, 0), (0, 1)] [] (mCons (mVar 0) (mCons (mCall dLst (mCons (mVar 4) (mCons (mCallG m_upart_of [(0, 0), (0, 1)] [] (mCons (mVar 0) (mCons (mVar 5) mNil)) mNil) mNil))) mNil)) mNil)))
    (sIf (mB (mOp (oInt fun i j => decide (j < i)) (mVar 4) (mVar 3)))
    (sRet (sN (mC (.bl false))))
    sNext)) (l.map .int) [.va (.str k.s), A, B, .va (.int r), .va (.int t), x] = M.ret f ∧ ((f = .rt (.bl false) ∧ r < l.foldl (stepZ k) t) ∨ ∃ x', f = .nx [.va (.str k.s), A, B, .va (.int r), .va (.int (l.foldl (stepZ k) t)), x'])
  | [], _, t, x => ⟨_, rfl, .inr ⟨x, rfl⟩⟩
  | d :: l, h, t, x => by
    have p1 := part_ev k d (h d List.mem_cons_self)
    have p2 := joined_ev k [t, part k d]
    simp only [List.map_cons, List.map_nil] at p2
    have dl : dLst [.int t, .int (part k d)] = M.ret (.lst [.int t, .int (part k d)]) := by unfold dLst; rw [small_le (by simp)]; rfl
    by_cases hr : r < stepZ k t d
    · refine ⟨.rt (.bl false), ?_, .inl ⟨rfl, Int.lt_of_lt_of_le hr (fold_ge k l _)⟩⟩
      have hr' : decide (r < joined k [t, part k d]) = true := decide_eq_true hr
      simp only [List.map_cons, loopM, mVar, mC, mOp, mUn, mCall, mCons, mNil, mIf, mAnd, mOr, mNot, mB, mTV, mAndV, mOrV, mNotV, mChain, asB, mIter, mItems, mValues, mIterA, mCut, mSome, mNone, pInt, mCallG, mCallK, sel, M.ret_bnd, M.opt_some, M.ass_t, M.bnd_bnd, M.stk_bnd, view, Sl.see, List.map_cons, List.map_nil, List.getElem?_cons_zero, List.getElem?_cons_succ, Option.join_some, List.set_cons_zero, List.set_cons_succ, sSeq, sRet, sN, sIf, sAsg, sDrop, sNext, sUnp, sFor, sRetN, mBody, outV, startEn, List.length_cons, List.length_nil, List.replicate_succ, List.replicate_zero, List.cons_append, List.nil_append, M.calm_ret, small, tgN, tgTup, tgCons, tgNil, gvN, gvTup, gvCons, gvNil, wipeN, Option.toList_some, List.append_nil, if_true, Bool.not_true, Bool.not_false, Option.bind_some, items, itemsI, itemsV, p1, dl, p2, oInt, hr']
    · obtain ⟨f, e1, e2⟩ := within_loop (k := k) (A := A) (B := B) (r := r) l (fun y hy => h y (List.mem_cons_of_mem _ hy)) (stepZ k t d) (.va (.int d))
      refine ⟨f, ?_, e2⟩
      have hr' : decide (r < joined k [t, part k d]) = false := decide_eq_false hr
      rw [← e1]
      simp only [List.map_cons, loopM, mVar, mC, mOp, mUn, mCall, mCons, mNil, mIf, mAnd, mOr, mNot, mB, mTV, mAndV, mOrV, mNotV, mChain, asB, mIter, mItems, mValues, mIterA, mCut, mSome, mNone, pInt, mCallG, mCallK, sel, M.ret_bnd, M.opt_some, M.ass_t, M.bnd_bnd, M.stk_bnd, view, Sl.see, List.map_cons, List.map_nil, List.getElem?_cons_zero, List.getElem?_cons_succ, Option.join_some, List.set_cons_zero, List.set_cons_succ, sSeq, sRet, sN, sIf, sAsg, sDrop, sNext, sUnp, sFor, sRetN, mBody, outV, startEn, List.length_cons, List.length_nil, List.replicate_succ, List.replicate_zero, List.cons_append, List.nil_append, M.calm_ret, small, tgN, tgTup, tgCons, tgNil, gvN, gvTup, gvCons, gvNil, wipeN, Option.toList_some, List.append_nil, if_true, Bool.not_true, Bool.not_false, Option.bind_some, items, itemsI, itemsV, p1, dl, p2, oInt, hr', Bool.false_eq_true, if_false]
      rfl
theorem is_within_ev {k : Kn} {a b : List Int} {r : Int} (hl : a.length ≤ 1000) (hn : ∀ d ∈ subs a b, nearD d) : m_uis_within [.str k.s, eV a, eV b, .int r] = M.ret (.bl (decide (dist k a b ≤ r))) := by
  obtain ⟨f, e1, e2⟩ := within_loop (k := k) (A := .va (eV a)) (B := .va (eV b)) (r := r) (subs a b) hn 0 .no
  have sv : items (eV (subs a b)) = M.ret ((subs a b).map .int) := rfl
  simp only [m_uis_within, b_uis_within, N_uis_within, mVar, mC, mOp, mUn, mCall, mCons, mNil, mIf, mAnd, mOr, mNot, mB, mTV, mAndV, mOrV, mNotV, mChain, asB, mIter, mItems, mValues, mIterA, mCut, mSome, mNone, pInt, mCallG, mCallK, sel, M.ret_bnd, M.opt_some, M.ass_t, M.bnd_bnd, M.stk_bnd, view, Sl.see, List.map_cons, List.map_nil, List.getElem?_cons_zero, List.getElem?_cons_succ, Option.join_some, List.set_cons_zero, List.set_cons_succ, sSeq, sRet, sN, sIf, sAsg, sDrop, sNext, sUnp, sFor, sRetN, mBody, outV, startEn, List.length_cons, List.length_nil, List.replicate_succ, List.replicate_zero, List.cons_append, List.nil_append, M.calm_ret, small, tgN, tgTup, tgCons, tgNil, gvN, gvTup, gvCons, gvNil, wipeN, Option.toList_some, List.append_nil, if_true, Bool.not_true, Bool.not_false, Option.bind_some, items, itemsI, itemsV, decide_true, subs_ev a b hl] at e1 ⊢
  rw [show eV (subs a b) = D.tup ((subs a b).map .int) from rfl]
  simp only []
  rw [M.ret_bnd, e1, M.ret_bnd]
  rw [fold_dist] at e2
  rcases e2 with ⟨rfl, h⟩ | ⟨x', rfl⟩
  · rw [decide_eq_false (by omega)]; rfl
  · rfl
end Fw

namespace Fw
open PySem PySem.Spec PyProof.Rows L2

/-! ### deeds -/
inductive Dd where
  | take (k : Int) | put (it : It)
def Dd.key : Dd → Int
  | .take k => k
  | .put it => it.k
def eD : Dd → D
  | .take k => .tup [.str "take", .int k]
  | .put it => .tup [.str "put", eI it]
theorem pp1 : oEq (.str "put") (.str "put") = M.ret (.bl true) := lit_eq (by decide +kernel) (by decide +kernel) (by decide +kernel)
theorem pp2 : oEq (.str "take") (.str "put") = M.ret (.bl false) := lit_eq (by decide +kernel) (by decide +kernel) (by decide +kernel)
theorem pp3 : oNe (.str "put") (.str "put") = M.ret (.bl false) := lit_ne (by decide +kernel) (by decide +kernel) (by decide +kernel)
theorem pp4 : oNe (.str "take") (.str "put") = M.ret (.bl true) := lit_ne (by decide +kernel) (by decide +kernel) (by decide +kernel)
theorem deed_key_ev (d : Dd) : m_udeed_key [eD d] = M.ret (.int d.key) := by
  cases d with
  | take k => simp only [m_udeed_key, b_udeed_key, N_udeed_key, mVar, mC, mOp, mUn, mCall, mCons, mNil, mIf, mAnd, mOr, mNot, mB, mTV, mAndV, mOrV, mNotV, mChain, asB, mIter, mItems, mValues, mIterA, mCut, mSome, mNone, pInt, mCallG, mCallK, sel, M.ret_bnd, M.opt_some, M.ass_t, M.bnd_bnd, M.stk_bnd, view, Sl.see, List.map_cons, List.map_nil, List.getElem?_cons_zero, List.getElem?_cons_succ, Option.join_some, List.set_cons_zero, List.set_cons_succ, sSeq, sRet, sN, sIf, sAsg, sDrop, sNext, sUnp, sFor, sRetN, mBody, outV, startEn, List.length_cons, List.length_nil, List.replicate_succ, List.replicate_zero, List.cons_append, List.nil_append, M.calm_ret, small, tgN, tgTup, tgCons, tgNil, gvN, gvTup, gvCons, gvNil, wipeN, Option.toList_some, List.append_nil, if_true, Bool.not_true, Bool.not_false, Option.bind_some, items, itemsI, itemsV, decide_true, eD, ix_t0, ix_t1, pp2, Dd.key, Bool.false_eq_true, if_false]
  | put it => simp only [m_udeed_key, b_udeed_key, N_udeed_key, mVar, mC, mOp, mUn, mCall, mCons, mNil, mIf, mAnd, mOr, mNot, mB, mTV, mAndV, mOrV, mNotV, mChain, asB, mIter, mItems, mValues, mIterA, mCut, mSome, mNone, pInt, mCallG, mCallK, sel, M.ret_bnd, M.opt_some, M.ass_t, M.bnd_bnd, M.stk_bnd, view, Sl.see, List.map_cons, List.map_nil, List.getElem?_cons_zero, List.getElem?_cons_succ, Option.join_some, List.set_cons_zero, List.set_cons_succ, sSeq, sRet, sN, sIf, sAsg, sDrop, sNext, sUnp, sFor, sRetN, mBody, outV, startEn, List.length_cons, List.length_nil, List.replicate_succ, List.replicate_zero, List.cons_append, List.nil_append, M.calm_ret, small, tgN, tgTup, tgCons, tgNil, gvN, gvTup, gvCons, gvNil, wipeN, Option.toList_some, List.append_nil, if_true, Bool.not_true, Bool.not_false, Option.bind_some, items, itemsI, itemsV, decide_true, eD, ix_t0, ix_t1, pp1, Dd.key, eI]
def oP (o : Option (Int × Int)) : D := match o with
  | some p => pD p
  | none => .non
def putZ (k : Kn) (v : List Int) (s : Sv) (d : Dd) : Option (Int × Int) := match d with
  | .take _ => none
  | .put it => if okS s it.ls = true then some (dist k v it.v, it.k) else none
def Dd.ok (n : Nat) : Dd → Prop
  | .take k => k.natAbs ≤ 1000
  | .put it => ItOk n it
theorem put_pair_ev {n : Nat} {k : Kn} {v : List Int} {s : Sv} {d : Dd} (hs : s.ok) (hv : VcOk n v) (hn : n ≤ 1000) (hd : d.ok n) : m_uput_pair [.str k.s, eV v, eS s, eD d] = M.ret (oP (putZ k v s d)) := by
  cases d with
  | take k => simp only [m_uput_pair, b_uput_pair, N_uput_pair, mVar, mC, mOp, mUn, mCall, mCons, mNil, mIf, mAnd, mOr, mNot, mB, mTV, mAndV, mOrV, mNotV, mChain, asB, mIter, mItems, mValues, mIterA, mCut, mSome, mNone, pInt, mCallG, mCallK, sel, M.ret_bnd, M.opt_some, M.ass_t, M.bnd_bnd, M.stk_bnd, view, Sl.see, List.map_cons, List.map_nil, List.getElem?_cons_zero, List.getElem?_cons_succ, Option.join_some, List.set_cons_zero, List.set_cons_succ, sSeq, sRet, sN, sIf, sAsg, sDrop, sNext, sUnp, sFor, sRetN, mBody, outV, startEn, List.length_cons, List.length_nil, List.replicate_succ, List.replicate_zero, List.cons_append, List.nil_append, M.calm_ret, small, tgN, tgTup, tgCons, tgNil, gvN, gvTup, gvCons, gvNil, wipeN, Option.toList_some, List.append_nil, if_true, Bool.not_true, Bool.not_false, Option.bind_some, items, itemsI, itemsV, decide_true, eD, ix_t0, ix_t1, pp4, putZ, oP]
  | put it =>
    have p := pass_ev s it hs (ItOk.ls hd)
    have q := dist_ev k v it.v (by rw [hv.len]; exact hn) (near_subs (n := n) hv.big (ItOk.big hd))
    have e1 : oIx (eI it) (.int 1) = M.ret (eV it.v) := ix_t1
    have e0 : oIx (eI it) (.int 0) = M.ret (.int it.k) := ix_t0
    simp only [m_uput_pair, b_uput_pair, N_uput_pair, mVar, mC, mOp, mUn, mCall, mCons, mNil, mIf, mAnd, mOr, mNot, mB, mTV, mAndV, mOrV, mNotV, mChain, asB, mIter, mItems, mValues, mIterA, mCut, mSome, mNone, pInt, mCallG, mCallK, sel, M.ret_bnd, M.opt_some, M.ass_t, M.bnd_bnd, M.stk_bnd, view, Sl.see, List.map_cons, List.map_nil, List.getElem?_cons_zero, List.getElem?_cons_succ, Option.join_some, List.set_cons_zero, List.set_cons_succ, sSeq, sRet, sN, sIf, sAsg, sDrop, sNext, sUnp, sFor, sRetN, mBody, outV, startEn, List.length_cons, List.length_nil, List.replicate_succ, List.replicate_zero, List.cons_append, List.nil_append, M.calm_ret, small, tgN, tgTup, tgCons, tgNil, gvN, gvTup, gvCons, gvNil, wipeN, Option.toList_some, List.append_nil, if_true, Bool.not_true, Bool.not_false, Option.bind_some, items, itemsI, itemsV, decide_true, eD, ix_t0, ix_t1, pp3, p, putZ, Bool.false_eq_true, if_false]
    cases okS s it.ls with
    | true => simp only [ix_t1, e0, e1, M.ret_bnd, q, dtup2, oP, pD, Bool.not_true, Bool.false_eq_true, if_false, if_true, mVar, mC, mOp, mUn, mCall, mCons, mNil, mIf, mAnd, mOr, mNot, mB, mTV, mAndV, mOrV, mNotV, mChain, asB, mIter, mItems, mValues, mIterA, mCut, mSome, mNone, pInt, mCallG, mCallK, sel, M.ret_bnd, M.opt_some, M.ass_t, M.bnd_bnd, M.stk_bnd, view, Sl.see, List.map_cons, List.map_nil, List.getElem?_cons_zero, List.getElem?_cons_succ, Option.join_some, List.set_cons_zero, List.set_cons_succ, sSeq, sRet, sN, sIf, sAsg, sDrop, sNext, sUnp, sFor, sRetN, mBody, outV, startEn, List.length_cons, List.length_nil, List.replicate_succ, List.replicate_zero, List.cons_append, List.nil_append, M.calm_ret, small, tgN, tgTup, tgCons, tgNil, gvN, gvTup, gvCons, gvNil, wipeN, Option.toList_some, List.append_nil, if_true, Bool.not_true, Bool.not_false, Option.bind_some, items, itemsI, itemsV]
    | false => rfl
/-! done -/
def doneS (st : St2) (d : Dd) : St2 := (st.filter fun p => !decide (p.1 = d.key)) ++ (match d with
  | .take _ => []
  | .put it => [(it.k, it)])
def eK (p : Int × It) : Key × D := (Sum.inl p.1, eI p.2)
theorem dput_new {acc : St2} {p : Int × It} (h : ∀ q ∈ acc, q.1 ≠ p.1) : dput (acc.map eK) (.inl p.1) (eI p.2) = (acc ++ [p]).map eK := by
  unfold dput
  have e : ((acc.map eK).any fun kv => decide (kv.1 = Sum.inl p.1)) = false := by
    rw [List.any_eq_false]
    intro x hx he
    obtain ⟨q, hq, rfl⟩ := List.mem_map.mp hx
    exact h q hq (Sum.inl.inj (of_decide_eq_true he))
  rw [if_neg (by rw [e]; exact Bool.false_ne_true), List.map_append]; rfl
theorem done_loop {n : Nat} {st : St2} {key : Int} {B : Sl} (hst : StOk n st) : ∀ (l acc : St2) (x : Sl), (∀ p ∈ l, p ∈ st) → (l.map (·.1)).Nodup → (∀ q ∈ acc, ∀ p ∈ l, q.1 ≠ p.1) → acc.length + l.length ≤ 1000 →
    ∃ x', loopM (tgN 4) (sIf (mB (mOp oNe (mVar 4) (mVar 2)))
    (sPutK 3 (sN (mOp oIx (mVar 0) (mVar 4))) (sN (mVar 4)))
    sNext) (l.map fun p => .int p.1) [.va (eSt st), B, .va (.int key), .ow (.dic (acc.map eK)), x] = M.ret (.nx [.va (eSt st), B, .va (.int key), .ow (.dic ((acc ++ l.filter fun p => !decide (p.1 = key)).map eK)), x'])
  | [], acc, x, _, _, _, _ => ⟨x, by simp [loopM]⟩
  | p :: l, acc, x, h1, h2, h3, h4 => by
    obtain ⟨n1, n2⟩ := List.nodup_cons.mp h2
    have ixp := ix_st hst (h1 p List.mem_cons_self)
    by_cases hk : p.1 = key
    · obtain ⟨x', ih⟩ := done_loop (key := key) (B := B) hst l acc (.va (.int p.1)) (fun q hq => h1 q (List.mem_cons_of_mem _ hq)) n2 (fun q hq r hr => h3 q hq r (List.mem_cons_of_mem _ hr)) (by simp at h4; omega)
      refine ⟨x', ?_⟩
      rw [List.filter_cons_of_neg (by simp [hk]), ← ih]
      simp only [List.map_cons, loopM, mVar, mC, mOp, mUn, mCall, mCons, mNil, mIf, mAnd, mOr, mNot, mB, mTV, mAndV, mOrV, mNotV, mChain, asB, mIter, mItems, mValues, mIterA, mCut, mSome, mNone, pInt, mCallG, mCallK, sel, M.ret_bnd, M.opt_some, M.ass_t, M.bnd_bnd, M.stk_bnd, view, Sl.see, List.map_cons, List.map_nil, List.getElem?_cons_zero, List.getElem?_cons_succ, Option.join_some, List.set_cons_zero, List.set_cons_succ, sSeq, sRet, sN, sIf, sAsg, sDrop, sNext, sUnp, sFor, sRetN, mBody, outV, startEn, List.length_cons, List.length_nil, List.replicate_succ, List.replicate_zero, List.cons_append, List.nil_append, M.calm_ret, small, tgN, tgTup, tgCons, tgNil, gvN, gvTup, gvCons, gvNil, wipeN, Option.toList_some, List.append_nil, if_true, Bool.not_true, Bool.not_false, Option.bind_some, items, itemsI, itemsV, bor, if_true, ne_int, hk, decide_true, Bool.not_true, Bool.false_eq_true, if_false]
    · have hacc : ∀ q ∈ acc, q.1 ≠ p.1 := fun q hq => h3 q hq p List.mem_cons_self
      have ln : decide ((acc.map eK).length < sizeLine) = true := decide_eq_true (by rw [List.length_map, sizeLine_eq]; simp at h4; omega)
      obtain ⟨x', ih⟩ := done_loop (key := key) (B := B) hst l (acc ++ [p]) (.va (.int p.1)) (fun q hq => h1 q (List.mem_cons_of_mem _ hq)) n2 (fun q hq r hr => by
        rcases List.mem_append.mp hq with z | z
        · exact h3 q z r (List.mem_cons_of_mem _ hr)
        · rw [List.mem_singleton.mp z]; exact fun e => n1 (List.mem_map.mpr ⟨r, hr, e.symm⟩)) (by simp at h4 ⊢; omega)
      refine ⟨x', ?_⟩
      have e2 : acc ++ (p :: l).filter (fun p => !decide (p.1 = key)) = (acc ++ [p]) ++ l.filter fun p => !decide (p.1 = key) := by rw [List.filter_cons_of_pos (by simp [hk])]; simp
      rw [e2, ← ih, ← dput_new hacc]
      have dk : decide (p.1 = key) = false := decide_eq_false hk
      simp only [List.map_cons, loopM, mVar, mC, mOp, mUn, mCall, mCons, mNil, mIf, mAnd, mOr, mNot, mB, mTV, mAndV, mOrV, mNotV, mChain, asB, mIter, mItems, mValues, mIterA, mCut, mSome, mNone, pInt, mCallG, mCallK, sel, M.ret_bnd, M.opt_some, M.ass_t, M.bnd_bnd, M.stk_bnd, view, Sl.see, List.map_cons, List.map_nil, List.getElem?_cons_zero, List.getElem?_cons_succ, Option.join_some, List.set_cons_zero, List.set_cons_succ, sSeq, sRet, sN, sIf, sAsg, sDrop, sNext, sUnp, sFor, sRetN, mBody, outV, startEn, List.length_cons, List.length_nil, List.replicate_succ, List.replicate_zero, List.cons_append, List.nil_append, M.calm_ret, small, tgN, tgTup, tgCons, tgNil, gvN, gvTup, gvCons, gvNil, wipeN, Option.toList_some, List.append_nil, if_true, Bool.not_true, Bool.not_false, Option.bind_some, items, itemsI, itemsV, bor, if_true, ne_int, dk, sPutK, vaOf, owK, ixp, ln, D.key, Bool.false_eq_true, if_false]
theorem ass_go {α : Type} {b : Bool} {f : Unit → M α} (h : b = true) : M.bnd (M.ass b) f = f () := by subst h; rfl
theorem done_ev {n : Nat} {st : St2} {d : Dd} (hst : StOk n st) : m_u_law_done [eSt st, eD d] = M.ret (eSt (doneS st d)) := by
  obtain ⟨x', e⟩ := done_loop (key := d.key) (B := .va (eD d)) hst st [] .no (fun _ h => h) hst.nd (fun q hq => nomatch hq) (by have := hst.len; simp; omega)
  have it : items (eSt st) = M.ret (st.map fun p => .int p.1) := by simp only [eSt, items, List.map_map]; rfl
  have it' : mIter (mVar 0) (view false [.va (eSt st), .va (eD d), .va (.int d.key), .ow (.dic []), .no]) = M.ret (st.map fun p => .int p.1) := by
    show M.bnd (mVar 0 [some (eSt st), _, _, _, _]) items = _
    rw [show ∀ a b c e, mVar 0 [some (eSt st), a, b, c, e] = M.ret (eSt st) from fun _ _ _ _ => rfl, M.ret_bnd, it]
  simp only [List.map_nil, List.nil_append] at e
  have s1 : sFor (mIter (mVar 0)) (tgN 4) (sIf (mB (mOp oNe (mVar 4) (mVar 2)))
    (sPutK 3 (sN (mOp oIx (mVar 0) (mVar 4))) (sN (mVar 4)))
    sNext) [.va (eSt st), .va (eD d), .va (.int d.key), .ow (.dic []), .no] = M.ret (.nx [.va (eSt st), .va (eD d), .va (.int d.key), .ow (.dic ((st.filter fun p => !decide (p.1 = d.key)).map eK)), x']) := by
    unfold sFor
    rw [it', M.ret_bnd]; exact e
  have s0 : sPar 2 3 (sN (mIf (mB (mOp oEq (mOp oIx (mVar 1) (mC (.int 0))) (mC (.str "put")))) (mOp oIx (mOp oIx (mVar 1) (mC (.int 1))) (mC (.int 0))) (mOp oIx (mVar 1) (mC (.int 1))))) (sON (mC (.dic []))) [.va (eSt st), .va (eD d), .no, .no, .no] = M.ret (.nx [.va (eSt st), .va (eD d), .va (.int d.key), .ow (.dic []), .no]) := by
    cases d with
    | take k => simp only [sPar, sON, mVar, mC, mOp, mUn, mCall, mCons, mNil, mIf, mAnd, mOr, mNot, mB, mTV, mAndV, mOrV, mNotV, mChain, asB, mIter, mItems, mValues, mIterA, mCut, mSome, mNone, pInt, mCallG, mCallK, sel, M.ret_bnd, M.opt_some, M.ass_t, M.bnd_bnd, M.stk_bnd, view, Sl.see, List.map_cons, List.map_nil, List.getElem?_cons_zero, List.getElem?_cons_succ, Option.join_some, List.set_cons_zero, List.set_cons_succ, sSeq, sRet, sN, sIf, sAsg, sDrop, sNext, sUnp, sFor, sRetN, mBody, outV, startEn, List.length_cons, List.length_nil, List.replicate_succ, List.replicate_zero, List.cons_append, List.nil_append, M.calm_ret, small, tgN, tgTup, tgCons, tgNil, gvN, gvTup, gvCons, gvNil, wipeN, Option.toList_some, List.append_nil, if_true, Bool.not_true, Bool.not_false, Option.bind_some, items, itemsI, itemsV, eD, ix_t0, ix_t1, pp2, Dd.key, Bool.false_eq_true, if_false]
    | put it => simp only [sPar, sON, mVar, mC, mOp, mUn, mCall, mCons, mNil, mIf, mAnd, mOr, mNot, mB, mTV, mAndV, mOrV, mNotV, mChain, asB, mIter, mItems, mValues, mIterA, mCut, mSome, mNone, pInt, mCallG, mCallK, sel, M.ret_bnd, M.opt_some, M.ass_t, M.bnd_bnd, M.stk_bnd, view, Sl.see, List.map_cons, List.map_nil, List.getElem?_cons_zero, List.getElem?_cons_succ, Option.join_some, List.set_cons_zero, List.set_cons_succ, sSeq, sRet, sN, sIf, sAsg, sDrop, sNext, sUnp, sFor, sRetN, mBody, outV, startEn, List.length_cons, List.length_nil, List.replicate_succ, List.replicate_zero, List.cons_append, List.nil_append, M.calm_ret, small, tgN, tgTup, tgCons, tgNil, gvN, gvTup, gvCons, gvNil, wipeN, Option.toList_some, List.append_nil, if_true, Bool.not_true, Bool.not_false, Option.bind_some, items, itemsI, itemsV, eD, ix_t0, ix_t1, pp1, Dd.key, eI, Bool.false_eq_true, if_false]
  have s2 : sIf (mB (mOp oEq (mOp oIx (mVar 1) (mC (.int 0))) (mC (.str "put"))))
    (sPutK 3 (sN (mOp oIx (mVar 1) (mC (.int 1)))) (sN (mVar 2)))
    sNext [.va (eSt st), .va (eD d), .va (.int d.key), .ow (.dic ((st.filter fun p => !decide (p.1 = d.key)).map eK)), x'] = M.ret (.nx [.va (eSt st), .va (eD d), .va (.int d.key), .ow (.dic ((doneS st d).map eK)), x']) := by
    cases d with
    | take k =>
      simp only [sIf, mB, mOp, mVar, mC, view, Sl.see, List.map_cons, List.map_nil, List.getElem?_cons_zero, List.getElem?_cons_succ, Option.join_some, M.opt_some, M.ret_bnd, M.bnd_bnd, eD, ix_t0, pp2, asB, Bool.false_eq_true, if_false, sNext, doneS, List.append_nil]
    | put it =>
      have dn : dput ((st.filter fun p => !decide (p.1 = it.k)).map eK) (.inl it.k) (eI it) = ((st.filter fun p => !decide (p.1 = it.k)) ++ [(it.k, it)]).map eK := dput_new (p := (it.k, it)) fun q hq => by
        have := (List.mem_filter.mp hq).2
        simpa using this
      have ln : decide (((st.filter fun p => !decide (p.1 = it.k)).map eK).length < sizeLine) = true := decide_eq_true (by
        rw [List.length_map, sizeLine_eq]
        have := List.length_filter_le (fun p : Int × It => !decide (p.1 = it.k)) st
        have := hst.len
        omega)
      simp only [sIf, mB, mOp, mVar, mC, view, Sl.see, List.map_cons, List.map_nil, List.getElem?_cons_zero, List.getElem?_cons_succ, Option.join_some, M.opt_some, M.ret_bnd, M.bnd_bnd, eD, ix_t0, ix_t1, pp1, asB, if_true, sPutK, sN, vaOf, owK, Dd.key, D.key, List.set_cons_succ, List.set_cons_zero, doneS]
      refine (ass_go ln).trans ?_
      exact congrArg (fun z => M.ret (Fl.nx [.va (eSt st), .va (.tup [.str "put", eI it]), .va (.int it.k), .ow (.dic z), x'])) dn
  unfold m_u_law_done mBodyO
  rw [show decide ([eSt st, eD d].length = 2) = true from rfl, M.ass_t, M.ret_bnd]
  show M.bnd (b_u_law_done [.va (eSt st), .va (eD d), .no, .no, .no]) outO = _
  unfold b_u_law_done sSeq
  rw [s0, M.ret_bnd]
  simp only []
  rw [s1, M.ret_bnd]
  simp only []
  rw [s2, M.ret_bnd]
  rfl
/-! ### the pairs within the reach, deed by deed -/
def newZ (k : Kn) (v : List Int) (s : Sv) (r : Int) (d : Dd) : List (Int × Int) := match d with
  | .take _ => []
  | .put it => if dist k v it.v ≤ r then (if okS s it.ls = true then [(dist k v it.v, it.k)] else []) else []
def rawZ (st : St2) (k : Kn) (v : List Int) (s : Sv) (r : Int) : List (Int × Int) := ((st.filter fun p => okS s p.2.ls).map fun p => (dist k v p.2.v, p.1)).filter fun p => decide (p.1 ≤ r)
theorem due_perm (st : St2) (k : Kn) (v : List Int) (s : Sv) (r : Int) : (dueZ st k v s r).Perm (rawZ st k v s r) := (srt_perm _).filter _
theorem due_pw (st : St2) (k : Kn) (v : List Int) (s : Sv) (r : Int) : (dueZ st k v s r).Pairwise fun x y => leP x y = true := (srt_pw leP_tot _).filter _
theorem raw_filter (key : Int) (k : Kn) (v : List Int) (s : Sv) (r : Int) : ∀ st : St2, rawZ (st.filter fun p => !decide (p.1 = key)) k v s r = (rawZ st k v s r).filter fun p => !decide (p.2 = key)
  | [] => rfl
  | p :: st => by
    have ih := raw_filter key k v s r st
    unfold rawZ at ih ⊢
    by_cases h1 : p.1 = key <;> by_cases h2 : okS s p.2.ls = true <;> by_cases h3 : dist k v p.2.v ≤ r <;> simp [h1, h2, h3, List.filter_cons] at ih ⊢ <;> exact ih
theorem raw_append (k : Kn) (v : List Int) (s : Sv) (r : Int) (a b : St2) : rawZ (a ++ b) k v s r = rawZ a k v s r ++ rawZ b k v s r := by simp [rawZ]
theorem raw_new (k : Kn) (v : List Int) (s : Sv) (r : Int) (d : Dd) : rawZ (match d with
    | .take _ => []
    | .put it => [(it.k, it)]) k v s r = newZ k v s r d := by
  cases d with
  | take x => rfl
  | put it =>
    unfold rawZ newZ
    by_cases h2 : okS s it.ls = true <;> by_cases h3 : dist k v it.v ≤ r <;> simp [h2, h3, List.filter_cons]
theorem due_done (st : St2) (k : Kn) (v : List Int) (s : Sv) (r : Int) (d : Dd) : srt leP (((dueZ st k v s r).filter fun p => !decide (p.2 = d.key)) ++ newZ k v s r d) = dueZ (doneS st d) k v s r := by
  refine srt_uniq leP_tot ((srt_perm _).trans ?_) (srt_pw leP_tot _) (due_pw _ _ _ _ _)
  refine .trans ?_ (due_perm _ _ _ _ _).symm
  unfold doneS
  rw [raw_append, raw_filter, raw_new]
  exact ((due_perm st k v s r).filter _).append_right _
end Fw

namespace Fw
open PySem PySem.Spec PyProof.Rows L2

/-! ### the object -/
def fNear (k : Kn) (v : List Int) (r : Int) (s : Sv) (ps : List (Int × Int)) : List (Str × D) := [(("kind" : Str), .str k.s), (("vector" : Str), eV v), (("reach" : Str), .int r), (("sieve" : Str), eS s), (("all_pairs" : Str), .tup (ps.map pD))]
def nb (k : Kn) (v : List Int) (r : Int) (s : Sv) (ps : List (Int × Int)) : SO := .ins "Nearby" (fNear k v r s ps)
theorem fldPut_ev {c f : Str} {y : D} {n : Nat} {fs : List (Str × D)} {S : Sto} (h : S[n]? = some (.ins c fs)) (hy : y.imm = true) (hl : fs.length < 1000) : fldPut c f y (.obj n) S = .ok .non (S.set n (.ins c (putD f y fs))) := by
  simp only [fldPut, soOf, M.bnd_bnd, M.ret_bnd, M.bnd_app, sGet, h, hy, M.ass_t, M.ret_app, sPut]
  simp [hl, M.ret_app]
theorem fldD_ev {c f : Str} {n : Nat} {fs : List (Str × D)} {S : Sto} {d : D} (h : S[n]? = some (.ins c fs)) (hf : fs.lookup f = some d) : fldD c f (.obj n) S = .ok d S := by
  simp only [fldD, soOf, M.bnd_bnd, M.ret_bnd, M.bnd_app, sGet, h, M.ret_app, decide_true, M.ass_t, hf, M.opt_some]
theorem imm_eV (v : List Int) : (eV v).imm = true := by
  simp only [eV, D.imm]
  exact immL_all.mpr fun d hd => by obtain ⟨x, _, rfl⟩ := List.mem_map.mp hd; rfl
theorem imm_pairs (ps : List (Int × Int)) : (D.tup (ps.map pD)).imm = true := by
  simp only [D.imm]
  exact immL_all.mpr fun d hd => by obtain ⟨x, _, rfl⟩ := List.mem_map.mp hd; rfl
theorem imm_eS1 (a : Sv1) : (eS1 a).imm = true := by cases a <;> rfl
theorem imm_eS (s : Sv) : (eS s).imm = true := by
  cases s with
  | one a => exact imm_eS1 a
  | both c a b => simp only [eS, D.imm, immL, imm_eS1, Bool.and_self]
theorem get_set {S : Sto} {n : Nat} {o o' : SO} (h : S[n]? = some o) : (S.set n o')[n]? = some o' := by
  rw [List.getElem?_set_self (List.getElem?_eq_some_iff.mp h).1]
/-! the same for any names -/
def gInit (c f1 f2 f3 f4 f5 : Str) (w : List D → M D) : En → M Fl := (sSeq (sDrop (sN (mOp (fldPut c f1) (mVar 2) (mVar 0))))
    (sSeq (sDrop (sN (mOp (fldPut c f2) (mVar 3) (mVar 0))))
    (sSeq (sDrop (sN (mOp (fldPut c f3) (mVar 4) (mVar 0))))
    (sSeq (sDrop (sN (mOp (fldPut c f4) (mVar 5) (mVar 0))))
    (sDrop (sN (mOp (fldPut c f5) (mCallG w [(0, 0), (0, 1), (0, 2), (0, 3), (0, 4)] [] (mCons (mVar 1) (mCons (mVar 2) (mCons (mVar 3) (mCons (mVar 4) (mCons (mVar 5) mNil))))) mNil) (mVar 0))))))))
theorem gInit_ev {c f1 f2 f3 f4 f5 : Str} {w : List D → M D} {n : Nat} {S : Sto} {a b1 b2 b3 b4 b5 : D} {N : List Str} (h : S[n]? = some (.ins c [])) (h12 : ¬ f1 = f2) (h13 : ¬ f1 = f3) (h14 : ¬ f1 = f4) (h15 : ¬ f1 = f5) (h23 : ¬ f2 = f3) (h24 : ¬ f2 = f4) (h25 : ¬ f2 = f5) (h34 : ¬ f3 = f4) (h35 : ¬ f3 = f5) (h45 : ¬ f4 = f5)
    (hN : N.length = 6) (i1 : b1.imm = true) (i2 : b2.imm = true) (i3 : b3.imm = true) (i4 : b4.imm = true) (i5 : b5.imm = true) (hw : w [a, b1, b2, b3, b4] = M.ret b5) :
    mBody N 6 (gInit c f1 f2 f3 f4 f5 w) [.obj n, a, b1, b2, b3, b4] S = .ok .non (S.set n (.ins c [(f1, b1), (f2, b2), (f3, b3), (f4, b4), (f5, b5)])) := by
  have g1 := fldPut_ev (f := f1) (y := b1) h i1 (by simp)
  rw [show putD f1 b1 [] = [(f1, b1)] from rfl] at g1
  have g2 := fldPut_ev (f := f2) (y := b2) (get_set (o' := .ins c [(f1, b1)]) h) i2 (by simp)
  rw [show putD f2 b2 [(f1, b1)] = [(f1, b1), (f2, b2)] from by simp only [putD, h12, if_false], List.set_set] at g2
  have g3 := fldPut_ev (f := f3) (y := b3) (get_set (o' := .ins c [(f1, b1), (f2, b2)]) h) i3 (by simp)
  rw [show putD f3 b3 [(f1, b1), (f2, b2)] = [(f1, b1), (f2, b2), (f3, b3)] from by simp only [putD, h13, h23, if_false], List.set_set] at g3
  have g4 := fldPut_ev (f := f4) (y := b4) (get_set (o' := .ins c [(f1, b1), (f2, b2), (f3, b3)]) h) i4 (by simp)
  rw [show putD f4 b4 [(f1, b1), (f2, b2), (f3, b3)] = [(f1, b1), (f2, b2), (f3, b3), (f4, b4)] from by simp only [putD, h14, h24, h34, if_false], List.set_set] at g4
  have g5 := fldPut_ev (f := f5) (y := b5) (get_set (o' := .ins c [(f1, b1), (f2, b2), (f3, b3), (f4, b4)]) h) i5 (by simp)
  rw [show putD f5 b5 [(f1, b1), (f2, b2), (f3, b3), (f4, b4)] = [(f1, b1), (f2, b2), (f3, b3), (f4, b4), (f5, b5)] from by simp only [putD, h15, h25, h35, h45, if_false], List.set_set] at g5
  simp only [gInit, mVar, mC, mOp, mUn, mCall, mCons, mNil, mIf, mAnd, mOr, mNot, mB, mTV, mAndV, mOrV, mNotV, mChain, asB, mIter, mItems, mValues, mIterA, mCut, mSome, mNone, pInt, mCallG, mCallK, sel, M.ret_bnd, M.opt_some, M.ass_t, M.bnd_bnd, M.stk_bnd, view, Sl.see, List.map_cons, List.map_nil, List.getElem?_cons_zero, List.getElem?_cons_succ, Option.join_some, List.set_cons_zero, List.set_cons_succ, sSeq, sRet, sN, sIf, sAsg, sDrop, sNext, sUnp, sFor, sRetN, mBody, outV, startEn, List.length_cons, List.length_nil, List.replicate_succ, List.replicate_zero, List.cons_append, List.nil_append, M.calm_ret, small, tgN, tgTup, tgCons, tgNil, gvN, gvTup, gvCons, gvNil, wipeN, Option.toList_some, List.append_nil, if_true, Bool.not_true, Bool.not_false, Option.bind_some, items, itemsI, itemsV, decide_true, hw, hN, Nat.sub_self, Nat.zero_add, Nat.reduceAdd]
  simp only [M.bnd_app, g1, g2, g3, g4, g5, M.ret_app]
section
variable {k : Kn} {v : List Int} {r : Int} {s : Sv} {ps : List (Int × Int)}
theorem lk_kind : (fNear k v r s ps).lookup ("kind" : Str) = some (.str k.s) := by
  simp only [fNear, List.lookup_cons, show (("kind" : Str) == "kind") = true from by decide +kernel]
theorem lk_vec : (fNear k v r s ps).lookup ("vector" : Str) = some (eV v) := by
  simp only [fNear, List.lookup_cons, show (("vector" : Str) == "kind") = false from by decide +kernel, show (("vector" : Str) == "vector") = true from by decide +kernel]
theorem lk_reach : (fNear k v r s ps).lookup ("reach" : Str) = some (.int r) := by
  simp only [fNear, List.lookup_cons, show (("reach" : Str) == "kind") = false from by decide +kernel, show (("reach" : Str) == "vector") = false from by decide +kernel, show (("reach" : Str) == "reach") = true from by decide +kernel]
theorem lk_sieve : (fNear k v r s ps).lookup ("sieve" : Str) = some (eS s) := by
  simp only [fNear, List.lookup_cons, show (("sieve" : Str) == "kind") = false from by decide +kernel, show (("sieve" : Str) == "vector") = false from by decide +kernel, show (("sieve" : Str) == "reach") = false from by decide +kernel, show (("sieve" : Str) == "sieve") = true from by decide +kernel]
theorem lk_all : (fNear k v r s ps).lookup ("all_pairs" : Str) = some (.tup (ps.map pD)) := by
  simp only [fNear, List.lookup_cons, show (("all_pairs" : Str) == "kind") = false from by decide +kernel, show (("all_pairs" : Str) == "vector") = false from by decide +kernel, show (("all_pairs" : Str) == "reach") = false from by decide +kernel, show (("all_pairs" : Str) == "sieve") = false from by decide +kernel, show (("all_pairs" : Str) == "all_pairs") = true from by decide +kernel]
theorem lk_told : (fNear k v r s ps).lookup ("told" : Str) = none := by
  simp only [fNear, List.lookup_cons, List.lookup_nil, show (("told" : Str) == "kind") = false from by decide +kernel, show (("told" : Str) == "vector") = false from by decide +kernel, show (("told" : Str) == "reach") = false from by decide +kernel, show (("told" : Str) == "sieve") = false from by decide +kernel, show (("told" : Str) == "all_pairs") = false from by decide +kernel]
theorem lk_kept : (fNear k v r s ps).lookup ("kept" : Str) = none := by
  simp only [fNear, List.lookup_cons, List.lookup_nil, show (("kept" : Str) == "kind") = false from by decide +kernel, show (("kept" : Str) == "vector") = false from by decide +kernel, show (("kept" : Str) == "reach") = false from by decide +kernel, show (("kept" : Str) == "sieve") = false from by decide +kernel, show (("kept" : Str) == "all_pairs") = false from by decide +kernel]
/-- the object is made -/
theorem init_ev {n m : Nat} {st : St2} {S : Sto} (h : S[n]? = some (.ins "Nearby" [])) (hst : StOk m st) (hs : s.ok) (hv : VcOk m v) (hm : m ≤ 1000) :
    m_uNearby___init__ [.obj n, eSt st, .str k.s, eV v, .int r, eS s] S = .ok .non (S.set n (nb k v r s (dueZ st k v s r))) :=
  gInit_ev h (by decide +kernel) (by decide +kernel) (by decide +kernel) (by decide +kernel) (by decide +kernel) (by decide +kernel) (by decide +kernel) (by decide +kernel) (by decide +kernel) (by decide +kernel) rfl rfl (imm_eV v) rfl (imm_eS s) (imm_pairs _) (within_ev hst hs hv hm)
theorem make_ev {m : Nat} {st : St2} {S : Sto} {ix : List (Nat × Nat)} {a kk : Nv → M (List D)} {env : Nv} {ds es : List D} (ea : a env = M.ret ds) (ek : kk env = M.ret es) (hx : ∀ x, sel ix (x :: ds) [] es = [x, eSt st, .str k.s, eV v, .int r, eS s]) (hst : StOk m st) (hs : s.ok) (hv : VcOk m v) (hm : m ≤ 1000) :
    mMake "Nearby" m_uNearby___init__ ix [] a kk env S = .ok (.obj S.length) (S ++ [nb k v r s (dueZ st k v s r)]) := by
  have h : (S ++ [SO.ins "Nearby" []])[S.length]? = some (.ins "Nearby" []) := by simp
  have i := init_ev (k := k) (r := r) h hst hs hv hm
  have e : (S ++ [SO.ins "Nearby" []]).set S.length (nb k v r s (dueZ st k v s r)) = S ++ [nb k v r s (dueZ st k v s r)] := by simp
  rw [e] at i
  simp only [mMake, ea, ek, M.ret_bnd, M.bnd_app, alloc, hx, i, M.ret_app]
theorem kept_ev {n : Nat} {S : Sto} (h : S[n]? = some (nb k v r s ps)) : m_uNearby_kept [.obj n] S = .ok (.tup (ps.map pD)) S := by
  simp only [m_uNearby_kept, b_uNearby_kept, N_uNearby_kept, mVar, mC, mOp, mUn, mCall, mCons, mNil, mIf, mAnd, mOr, mNot, mB, mTV, mAndV, mOrV, mNotV, mChain, asB, mIter, mItems, mValues, mIterA, mCut, mSome, mNone, pInt, mCallG, mCallK, sel, M.ret_bnd, M.opt_some, M.ass_t, M.bnd_bnd, M.stk_bnd, view, Sl.see, List.map_cons, List.map_nil, List.getElem?_cons_zero, List.getElem?_cons_succ, Option.join_some, List.set_cons_zero, List.set_cons_succ, sSeq, sRet, sN, sIf, sAsg, sDrop, sNext, sUnp, sFor, sRetN, mBody, outV, startEn, List.length_cons, List.length_nil, List.replicate_succ, List.replicate_zero, List.cons_append, List.nil_append, M.calm_ret, small, tgN, tgTup, tgCons, tgNil, gvN, gvTup, gvCons, gvNil, wipeN, Option.toList_some, List.append_nil, if_true, Bool.not_true, Bool.not_false, Option.bind_some, items, itemsI, itemsV, decide_true, M.bnd_app, fldD_ev h lk_all, M.ret_app]
end
end Fw

namespace Fw
open PySem PySem.Spec PyProof.Rows L2

/-! ### told, for any names -/
def gTt (c fk fv fr pw : Str) (miw : List D → M D) : Nv → M Bool := (mAnd (mB (mOp oEq (mOp oIx (mVar 1) (mC (.int 0))) (mC (.str pw)))) (mB (mCallG miw [(0, 0), (0, 1), (0, 2), (0, 3)] [] (mCons (mUn (fldD c fk) (mVar 0)) (mCons (mUn (fldD c fv) (mVar 0)) (mCons (mOp oIx (mOp oIx (mVar 1) (mC (.int 1))) (mC (.int 1))) (mCons (mUn (fldD c fr) (mVar 0)) mNil)))) mNil)))
def gTold (c fk fv fr fs fa pw : Str) (mdk miw mpp mn : List D → M D) : En → M Fl := (sSeq (sUnp (sN (mCall dTup (mCons (mUn (fldD c fa) (mVar 0)) (mCons (mCallG mdk [(0, 0)] [] (mCons (mVar 1) mNil) mNil) mNil)))) (tgTup 2 (tgCons (tgN 2) (tgCons (tgN 3) tgNil))))
    (sSeq (sAsg 4 (sF (mLc (mIter (mVar 2)) (gvN 5) (mB (mOp oNe (mOp oIx (mVar 5) (mC (.int 1))) (mVar 3))) (mVar 5) [5])))
    (sSeq (sIf (gTt c fk fv fr pw miw)
    (sSeq (sAsg 5 (sN (mCallG mpp [(0, 0), (0, 1), (0, 2), (0, 3)] [] (mCons (mUn (fldD c fk) (mVar 0)) (mCons (mUn (fldD c fv) (mVar 0)) (mCons (mUn (fldD c fs) (mVar 0)) (mCons (mVar 1) mNil)))) mNil)))
    (sAsg 4 (sN (mIf (mB (mOp oIsN (mVar 5) (mC .non))) (mVar 4) (mOp oAdd (mVar 4) (mCall dLst (mCons (mVar 5) mNil)))))))
    sNext)
    (sSeq (sDrop (sN (mOp (fldPut c fa) (mCall bTuple (mCons (mCall bSorted (mCons (mVar 4) mNil)) mNil)) (mVar 0))))
    (sRet (sN (mCallG mn [(0, 0), (0, 1)] [] (mCons (mVar 2) (mCons (mUn (fldD c fa) (mVar 0)) mNil)) mNil)))))))
theorem told_shape : b_uNearby_told = gTold "Nearby" "kind" "vector" "reach" "sieve" "all_pairs" "put" m_udeed_key m_uis_within m_uput_pair m_unews_of := rfl
theorem seq_ok {m1 m2 : En → M Fl} {en e : En} {S S' : Sto} (h : m1 en S = .ok (.nx e) S') : sSeq m1 m2 en S = m2 e S' := by
  unfold sSeq
  rw [M.bnd_app, h]
section
variable {c fk fv fr fs fa pw : Str} {mdk miw mpp mn : List D → M D} {n : Nat} {S : Sto} {dd bk bv br bs : D} {F F' : List (Str × D)} {ps : List (Int × Int)} {key : Int}
theorem gTold_ev {N : List Str} {b : Bool} {o : Option (Int × Int)} {R : D} (hN : N.length = 6) (h : S[n]? = some (.ins c F)) (l1 : F.lookup fk = some bk) (l2 : F.lookup fv = some bv) (l3 : F.lookup fr = some br) (l4 : F.lookup fs = some bs) (l5 : F.lookup fa = some (.tup (ps.map pD))) (hl : ps.length ≤ 1000) (hF : F.length < 1000)
    (dk : mdk [dd] = M.ret (.int key)) (ht : ∀ x y z, gTt c fk fv fr pw miw [some (.obj n), some dd, x, y, z, none] S = .ok b S) (hp : b = true → mpp [bk, bv, bs, dd] = M.ret (oP o))
    (hF' : putD fa (.tup ((srt leP ((ps.filter fun p => !decide (p.2 = key)) ++ (if b = true then o.toList else []))).map pD)) F = F') (l6 : F'.lookup fa = some (.tup ((srt leP ((ps.filter fun p => !decide (p.2 = key)) ++ (if b = true then o.toList else []))).map pD)))
    (hn : mn [.tup (ps.map pD), .tup ((srt leP ((ps.filter fun p => !decide (p.2 = key)) ++ (if b = true then o.toList else []))).map pD)] = M.ret R) : mBody N 2 (gTold c fk fv fr fs fa pw mdk miw mpp mn) [.obj n, dd] S = .ok R (S.set n (.ins c F')) := by
  have f5 := fldD_ev (f := fa) h l5
  have q := lc_map (α := Int × Int) pD (mi := mIter (mVar 2)) (tg := gvN 5) (t := mB (mOp oNe (mOp oIx (mVar 5) (mC (.int 1))) (mVar 3))) (e := mVar 5) (vs := [5]) (env := [some (.obj n), some dd, some (.tup (ps.map pD)), some (.int key), none, none]) (p := fun p => !decide (p.2 = key)) (f := pD)
    (fun p => [some (.obj n), some dd, some (.tup (ps.map pD)), some (.int key), none, some (pD p)]) ps (by simp only [mVar, mC, mOp, mUn, mCall, mCons, mNil, mIf, mAnd, mOr, mNot, mB, mTV, mAndV, mOrV, mNotV, mChain, asB, mIter, mItems, mValues, mIterA, mCut, mSome, mNone, pInt, mCallG, mCallK, sel, M.ret_bnd, M.opt_some, M.ass_t, M.bnd_bnd, M.stk_bnd, view, Sl.see, List.map_cons, List.map_nil, List.getElem?_cons_zero, List.getElem?_cons_succ, Option.join_some, List.set_cons_zero, List.set_cons_succ, sSeq, sRet, sN, sIf, sAsg, sDrop, sNext, sUnp, sFor, sRetN, mBody, outV, startEn, List.length_cons, List.length_nil, List.replicate_succ, List.replicate_zero, List.cons_append, List.nil_append, M.calm_ret, small, tgN, tgTup, tgCons, tgNil, gvN, gvTup, gvCons, gvNil, wipeN, Option.toList_some, List.append_nil, if_true, Bool.not_true, Bool.not_false, Option.bind_some, items, itemsI, itemsV]) (by omega) (fun x _ => by simp only [mVar, mC, mOp, mUn, mCall, mCons, mNil, mIf, mAnd, mOr, mNot, mB, mTV, mAndV, mOrV, mNotV, mChain, asB, mIter, mItems, mValues, mIterA, mCut, mSome, mNone, pInt, mCallG, mCallK, sel, M.ret_bnd, M.opt_some, M.ass_t, M.bnd_bnd, M.stk_bnd, view, Sl.see, List.map_cons, List.map_nil, List.getElem?_cons_zero, List.getElem?_cons_succ, Option.join_some, List.set_cons_zero, List.set_cons_succ, sSeq, sRet, sN, sIf, sAsg, sDrop, sNext, sUnp, sFor, sRetN, mBody, outV, startEn, List.length_cons, List.length_nil, List.replicate_succ, List.replicate_zero, List.cons_append, List.nil_append, M.calm_ret, small, tgN, tgTup, tgCons, tgNil, gvN, gvTup, gvCons, gvNil, wipeN, Option.toList_some, List.append_nil, if_true, Bool.not_true, Bool.not_false, Option.bind_some, items, itemsI, itemsV]) (fun x _ => by simp only [mVar, mC, mOp, mUn, mCall, mCons, mNil, mIf, mAnd, mOr, mNot, mB, mTV, mAndV, mOrV, mNotV, mChain, asB, mIter, mItems, mValues, mIterA, mCut, mSome, mNone, pInt, mCallG, mCallK, sel, M.ret_bnd, M.opt_some, M.ass_t, M.bnd_bnd, M.stk_bnd, view, Sl.see, List.map_cons, List.map_nil, List.getElem?_cons_zero, List.getElem?_cons_succ, Option.join_some, List.set_cons_zero, List.set_cons_succ, sSeq, sRet, sN, sIf, sAsg, sDrop, sNext, sUnp, sFor, sRetN, mBody, outV, startEn, List.length_cons, List.length_nil, List.replicate_succ, List.replicate_zero, List.cons_append, List.nil_append, M.calm_ret, small, tgN, tgTup, tgCons, tgNil, gvN, gvTup, gvCons, gvNil, wipeN, Option.toList_some, List.append_nil, if_true, Bool.not_true, Bool.not_false, Option.bind_some, items, itemsI, itemsV, pD, ix_t1, ne_int]) (fun x _ _ => by simp only [mVar, mC, mOp, mUn, mCall, mCons, mNil, mIf, mAnd, mOr, mNot, mB, mTV, mAndV, mOrV, mNotV, mChain, asB, mIter, mItems, mValues, mIterA, mCut, mSome, mNone, pInt, mCallG, mCallK, sel, M.ret_bnd, M.opt_some, M.ass_t, M.bnd_bnd, M.stk_bnd, view, Sl.see, List.map_cons, List.map_nil, List.getElem?_cons_zero, List.getElem?_cons_succ, Option.join_some, List.set_cons_zero, List.set_cons_succ, sSeq, sRet, sN, sIf, sAsg, sDrop, sNext, sUnp, sFor, sRetN, mBody, outV, startEn, List.length_cons, List.length_nil, List.replicate_succ, List.replicate_zero, List.cons_append, List.nil_append, M.calm_ret, small, tgN, tgTup, tgCons, tgNil, gvN, gvTup, gvCons, gvNil, wipeN, Option.toList_some, List.append_nil, if_true, Bool.not_true, Bool.not_false, Option.bind_some, items, itemsI, itemsV])
  generalize hQ : ps.filter (fun p => !decide (p.2 = key)) = Q at *
  have im : (D.lst (Q.map pD)).immC = true := by
    have := imm_pairs Q
    simpa only [D.imm, D.immC] using this
  have Ql : Q.length ≤ 1000 := by rw [← hQ]; exact Nat.le_trans (List.length_filter_le _ _) hl
  have s1 : sUnp (sN (mCall dTup (mCons (mUn (fldD c fa) (mVar 0)) (mCons (mCallG mdk [(0, 0)] [] (mCons (mVar 1) mNil) mNil) mNil)))) (tgTup 2 (tgCons (tgN 2) (tgCons (tgN 3) tgNil))) [.va (.obj n), .va dd, .no, .no, .no, .no] S = .ok (.nx [.va (.obj n), .va dd, .va (.tup (ps.map pD)), .va (.int key), .no, .no]) S := by
    simp only [mVar, mC, mOp, mUn, mCall, mCons, mNil, mIf, mAnd, mOr, mNot, mB, mTV, mAndV, mOrV, mNotV, mChain, asB, mIter, mItems, mValues, mIterA, mCut, mSome, mNone, pInt, mCallG, mCallK, sel, M.ret_bnd, M.opt_some, M.ass_t, M.bnd_bnd, M.stk_bnd, view, Sl.see, List.map_cons, List.map_nil, List.getElem?_cons_zero, List.getElem?_cons_succ, Option.join_some, List.set_cons_zero, List.set_cons_succ, sSeq, sRet, sN, sIf, sAsg, sDrop, sNext, sUnp, sFor, sRetN, mBody, outV, startEn, List.length_cons, List.length_nil, List.replicate_succ, List.replicate_zero, List.cons_append, List.nil_append, M.calm_ret, small, tgN, tgTup, tgCons, tgNil, gvN, gvTup, gvCons, gvNil, wipeN, Option.toList_some, List.append_nil, if_true, Bool.not_true, Bool.not_false, Option.bind_some, items, itemsI, itemsV, M.bnd_app, f5, dk, M.ret_app, dtup2]
  have s2 : sAsg 4 (sF (mLc (mIter (mVar 2)) (gvN 5) (mB (mOp oNe (mOp oIx (mVar 5) (mC (.int 1))) (mVar 3))) (mVar 5) [5])) [.va (.obj n), .va dd, .va (.tup (ps.map pD)), .va (.int key), .no, .no] S = .ok (.nx [.va (.obj n), .va dd, .va (.tup (ps.map pD)), .va (.int key), .va (.lst (Q.map pD)), .no]) S := by
    simp only [sAsg, sF, view, Sl.see, List.map_cons, List.map_nil, q, M.ret_bnd, im, if_true, List.set_cons_succ, List.set_cons_zero, M.ret_app]
  have s3 : ∃ x, sIf (gTt c fk fv fr pw miw)
    (sSeq (sAsg 5 (sN (mCallG mpp [(0, 0), (0, 1), (0, 2), (0, 3)] [] (mCons (mUn (fldD c fk) (mVar 0)) (mCons (mUn (fldD c fv) (mVar 0)) (mCons (mUn (fldD c fs) (mVar 0)) (mCons (mVar 1) mNil)))) mNil)))
    (sAsg 4 (sN (mIf (mB (mOp oIsN (mVar 5) (mC .non))) (mVar 4) (mOp oAdd (mVar 4) (mCall dLst (mCons (mVar 5) mNil)))))))
    sNext [.va (.obj n), .va dd, .va (.tup (ps.map pD)), .va (.int key), .va (.lst (Q.map pD)), .no] S = .ok (.nx [.va (.obj n), .va dd, .va (.tup (ps.map pD)), .va (.int key), .va (.lst ((Q ++ (if b = true then o.toList else [])).map pD)), x]) S := by
    have e := ht (some (.tup (ps.map pD))) (some (.int key)) (some (.lst (Q.map pD)))
    unfold sIf
    simp only [view, Sl.see, List.map_cons, List.map_nil, M.bnd_app, e]
    cases b with
    | false => exact ⟨.no, by simp [sNext, M.ret_app]⟩
    | true =>
      refine ⟨.va (oP o), ?_⟩
      have pp := hp rfl
      have f1 := fldD_ev (f := fk) h l1
      have f2 := fldD_ev (f := fv) h l2
      have f4 := fldD_ev (f := fs) h l4
      simp only [if_true, mVar, mC, mOp, mUn, mCall, mCons, mNil, mIf, mAnd, mOr, mNot, mB, mTV, mAndV, mOrV, mNotV, mChain, asB, mIter, mItems, mValues, mIterA, mCut, mSome, mNone, pInt, mCallG, mCallK, sel, M.ret_bnd, M.opt_some, M.ass_t, M.bnd_bnd, M.stk_bnd, view, Sl.see, List.map_cons, List.map_nil, List.getElem?_cons_zero, List.getElem?_cons_succ, Option.join_some, List.set_cons_zero, List.set_cons_succ, sSeq, sRet, sN, sIf, sAsg, sDrop, sNext, sUnp, sFor, sRetN, mBody, outV, startEn, List.length_cons, List.length_nil, List.replicate_succ, List.replicate_zero, List.cons_append, List.nil_append, M.calm_ret, small, tgN, tgTup, tgCons, tgNil, gvN, gvTup, gvCons, gvNil, wipeN, Option.toList_some, List.append_nil, if_true, Bool.not_true, Bool.not_false, Option.bind_some, items, itemsI, itemsV, M.bnd_app, f1, f2, f4, pp, M.ret_app]
      cases o with
      | none => simp [oP, oIsN, M.ret_app, M.bnd_app, asB]
      | some p =>
        have dl : dLst [pD p] = M.ret (.lst [pD p]) := by unfold dLst; rw [small_le (by simp)]; rfl
        have sm : Fw.small ((Q.map pD).length + [pD p].length) = M.ret () := small_le (by simp; omega)
        simp only [oP, pD, oIsN, M.ret_app, M.bnd_app, asB] at dl sm ⊢
        simp [M.ret_app, M.bnd_app, dl, oAdd, sm]
        rw [show Fw.small (Q.length + 1) = M.ret () from small_le (by omega)]
        rfl
  obtain ⟨x, s3⟩ := s3
  have st : startEn N [.obj n, dd] = [.va (.obj n), .va dd, .no, .no, .no, .no] := by simp [startEn, hN, List.replicate_succ]
  generalize hE : (Q ++ if b = true then o.toList else []) = Z at *
  have g := fldPut_ev (f := fa) (y := .tup ((srt leP Z).map pD)) h (imm_pairs _) hF
  rw [hF'] at g
  have f6 := fldD_ev (f := fa) (get_set (o' := .ins c F') h) l6
  unfold mBody
  rw [show decide ([D.obj n, dd].length = 2) = true from rfl, M.ass_t, M.ret_bnd, st]
  have b4 : sDrop (sN (mOp (fldPut c fa) (mCall bTuple (mCons (mCall bSorted (mCons (mVar 4) mNil)) mNil)) (mVar 0))) [.va (.obj n), .va dd, .va (.tup (ps.map pD)), .va (.int key), .va (.lst (Z.map pD)), x] S = .ok (.nx [.va (.obj n), .va dd, .va (.tup (ps.map pD)), .va (.int key), .va (.lst (Z.map pD)), x]) (S.set n (.ins c F')) := by
    simp only [mVar, mC, mOp, mUn, mCall, mCons, mNil, mIf, mAnd, mOr, mNot, mB, mTV, mAndV, mOrV, mNotV, mChain, asB, mIter, mItems, mValues, mIterA, mCut, mSome, mNone, pInt, mCallG, mCallK, sel, M.ret_bnd, M.opt_some, M.ass_t, M.bnd_bnd, M.stk_bnd, view, Sl.see, List.map_cons, List.map_nil, List.getElem?_cons_zero, List.getElem?_cons_succ, Option.join_some, List.set_cons_zero, List.set_cons_succ, sSeq, sRet, sN, sIf, sAsg, sDrop, sNext, sUnp, sFor, sRetN, mBody, outV, startEn, List.length_cons, List.length_nil, List.replicate_succ, List.replicate_zero, List.cons_append, List.nil_append, M.calm_ret, small, tgN, tgTup, tgCons, tgNil, gvN, gvTup, gvCons, gvNil, wipeN, Option.toList_some, List.append_nil, if_true, Bool.not_true, Bool.not_false, Option.bind_some, items, itemsI, itemsV, M.bnd_app, sorted_pairs, M.ret_app, bTuple, g]
  have b5 : sRet (sN (mCallG mn [(0, 0), (0, 1)] [] (mCons (mVar 2) (mCons (mUn (fldD c fa) (mVar 0)) mNil)) mNil)) [.va (.obj n), .va dd, .va (.tup (ps.map pD)), .va (.int key), .va (.lst (Z.map pD)), x] (S.set n (.ins c F')) = .ok (.rt R) (S.set n (.ins c F')) := by
    simp only [mVar, mC, mOp, mUn, mCall, mCons, mNil, mIf, mAnd, mOr, mNot, mB, mTV, mAndV, mOrV, mNotV, mChain, asB, mIter, mItems, mValues, mIterA, mCut, mSome, mNone, pInt, mCallG, mCallK, sel, M.ret_bnd, M.opt_some, M.ass_t, M.bnd_bnd, M.stk_bnd, view, Sl.see, List.map_cons, List.map_nil, List.getElem?_cons_zero, List.getElem?_cons_succ, Option.join_some, List.set_cons_zero, List.set_cons_succ, sSeq, sRet, sN, sIf, sAsg, sDrop, sNext, sUnp, sFor, sRetN, mBody, outV, startEn, List.length_cons, List.length_nil, List.replicate_succ, List.replicate_zero, List.cons_append, List.nil_append, M.calm_ret, small, tgN, tgTup, tgCons, tgNil, gvN, gvTup, gvCons, gvNil, wipeN, Option.toList_some, List.append_nil, if_true, Bool.not_true, Bool.not_false, Option.bind_some, items, itemsI, itemsV, M.bnd_app, f6, M.ret_app, hn]
  unfold gTold
  rw [M.bnd_app, seq_ok s1, seq_ok s2, seq_ok s3, seq_ok b4, b5]
  rfl
end
theorem tt_no {c fk fv fr pw t : Str} {miw : List D → M D} {S : Sto} {n : Nat} {a : D} {p q u : Option D} (h : oEq (.str t) (.str pw) = M.ret (.bl false)) : gTt c fk fv fr pw miw [some (.obj n), some (.tup [.str t, a]), p, q, u, none] S = .ok false S := by
  simp only [gTt, mVar, mC, mOp, mUn, mCall, mCons, mNil, mIf, mAnd, mOr, mNot, mB, mTV, mAndV, mOrV, mNotV, mChain, asB, mIter, mItems, mValues, mIterA, mCut, mSome, mNone, pInt, mCallG, mCallK, sel, M.ret_bnd, M.opt_some, M.ass_t, M.bnd_bnd, M.stk_bnd, view, Sl.see, List.map_cons, List.map_nil, List.getElem?_cons_zero, List.getElem?_cons_succ, Option.join_some, List.set_cons_zero, List.set_cons_succ, sSeq, sRet, sN, sIf, sAsg, sDrop, sNext, sUnp, sFor, sRetN, mBody, outV, startEn, List.length_cons, List.length_nil, List.replicate_succ, List.replicate_zero, List.cons_append, List.nil_append, M.calm_ret, small, tgN, tgTup, tgCons, tgNil, gvN, gvTup, gvCons, gvNil, wipeN, Option.toList_some, List.append_nil, if_true, Bool.not_true, Bool.not_false, Option.bind_some, items, itemsI, itemsV, ix_t0, h, Bool.false_eq_true, if_false, M.ret_app]
theorem tt_yes {c fk fv fr pw t : Str} {miw : List D → M D} {S : Sto} {n : Nat} {bk bv br i0 vec : D} {rr : List D} {p q u : Option D} {b : Bool} (h : oEq (.str t) (.str pw) = M.ret (.bl true)) (f1 : fldD c fk (.obj n) S = .ok bk S) (f2 : fldD c fv (.obj n) S = .ok bv S) (f3 : fldD c fr (.obj n) S = .ok br S) (w : miw [bk, bv, vec, br] = M.ret (.bl b)) :
    gTt c fk fv fr pw miw [some (.obj n), some (.tup [.str t, .tup (i0 :: vec :: rr)]), p, q, u, none] S = .ok b S := by
  simp only [gTt, mVar, mC, mOp, mUn, mCall, mCons, mNil, mIf, mAnd, mOr, mNot, mB, mTV, mAndV, mOrV, mNotV, mChain, asB, mIter, mItems, mValues, mIterA, mCut, mSome, mNone, pInt, mCallG, mCallK, sel, M.ret_bnd, M.opt_some, M.ass_t, M.bnd_bnd, M.stk_bnd, view, Sl.see, List.map_cons, List.map_nil, List.getElem?_cons_zero, List.getElem?_cons_succ, Option.join_some, List.set_cons_zero, List.set_cons_succ, sSeq, sRet, sN, sIf, sAsg, sDrop, sNext, sUnp, sFor, sRetN, mBody, outV, startEn, List.length_cons, List.length_nil, List.replicate_succ, List.replicate_zero, List.cons_append, List.nil_append, M.calm_ret, small, tgN, tgTup, tgCons, tgNil, gvN, gvTup, gvCons, gvNil, wipeN, Option.toList_some, List.append_nil, if_true, Bool.not_true, Bool.not_false, Option.bind_some, items, itemsI, itemsV, ix_t0, ix_t1, h, M.bnd_app, f1, f2, f3, w, M.ret_app]
theorem gput {f1 f2 f3 f4 f5 : Str} {b1 b2 b3 b4 b5 y : D} (h15 : ¬ f1 = f5) (h25 : ¬ f2 = f5) (h35 : ¬ f3 = f5) (h45 : ¬ f4 = f5) : putD f5 y [(f1, b1), (f2, b2), (f3, b3), (f4, b4), (f5, b5)] = [(f1, b1), (f2, b2), (f3, b3), (f4, b4), (f5, y)] := by simp only [putD, h15, h25, h35, h45, if_false, if_true]
theorem put_all (k : Kn) (v : List Int) (r : Int) (s : Sv) (ps qs : List (Int × Int)) : putD "all_pairs" (.tup (qs.map pD)) (fNear k v r s ps) = fNear k v r s qs := gput (by decide +kernel) (by decide +kernel) (by decide +kernel) (by decide +kernel)
/-- told -/
theorem told_ev {k : Kn} {v : List Int} {r : Int} {s : Sv} {ps : List (Int × Int)} {n m : Nat} {S : Sto} {d : Dd} (h : S[n]? = some (nb k v r s ps)) (hs : s.ok) (hv : VcOk m v) (hm : m ≤ 1000) (hd : d.ok m) (hl : ps.length ≤ 900) :
    m_uNearby_told [.obj n, eD d] S = .ok (newsZ ps (srt leP ((ps.filter fun p => !decide (p.2 = d.key)) ++ newZ k v s r d))) (S.set n (nb k v r s (srt leP ((ps.filter fun p => !decide (p.2 = d.key)) ++ newZ k v s r d)))) := by
  have f1 := fldD_ev (f := "kind") h lk_kind
  have f2 := fldD_ev (f := "vector") h lk_vec
  have f3 := fldD_ev (f := "reach") h lk_reach
  have ll := List.length_filter_le (fun p : Int × Int => !decide (p.2 = d.key)) ps
  have key : ∀ (b : Bool) (o : Option (Int × Int)), newZ k v s r d = (if b = true then o.toList else []) → (∀ x y z, gTt "Nearby" "kind" "vector" "reach" "put" m_uis_within [some (.obj n), some (eD d), x, y, z, none] S = .ok b S) → (b = true → m_uput_pair [.str k.s, eV v, eS s, eD d] = M.ret (oP o)) →
      m_uNearby_told [.obj n, eD d] S = .ok (newsZ ps (srt leP ((ps.filter fun p => !decide (p.2 = d.key)) ++ newZ k v s r d))) (S.set n (nb k v r s (srt leP ((ps.filter fun p => !decide (p.2 = d.key)) ++ newZ k v s r d)))) := fun b o e ht hp => by
    rw [e]
    have lo : (if b = true then o.toList else []).length ≤ 1 := by cases b <;> cases o <;> simp
    exact gTold_ev rfl h lk_kind lk_vec lk_reach lk_sieve lk_all (by omega) (by simp [fNear]) (deed_key_ev d) ht hp (put_all _ _ _ _ _ _) lk_all (news_ev _ _ (by omega) (by rw [srtP_len, List.length_append]; omega))
  cases d with
  | take x => exact key false none rfl (fun x y z => tt_no pp2) (fun e => nomatch e)
  | put it =>
    have w := is_within_ev (k := k) (a := v) (b := it.v) (r := r) (by rw [hv.len]; exact hm) (near_subs (n := m) hv.big (ItOk.big hd))
    have p := put_pair_ev (k := k) hs hv hm hd
    refine key (decide (dist k v it.v ≤ r)) (putZ k v s (.put it)) ?_ (fun x y z => tt_yes pp1 f1 f2 f3 w) (fun _ => p)
    unfold newZ putZ
    by_cases h1 : dist k v it.v ≤ r <;> by_cases h2 : okS s it.ls = true <;> simp [h1, h2]
end Fw

namespace Fw
open PySem PySem.Spec PyProof.Rows L2

/-! ### drawn data -/
abbrev Dr (S0 : Sto) (S : Sto) : Prop := HqOk S ∧ Frm S0 S
theorem Dr.tr {S S1 S2 : Sto} (a : Frm S S1) (b : Dr S1 S2) : Dr S S2 := ⟨b.1, a.trans b.2⟩
theorem draw_g {S : Sto} {n : Int} {P : D → Sto → Prop} (hs : HqOk S) (h0 : 0 < n) (h1 : n < 1000000) (k : ∀ (i : Int) S', 0 ≤ i → i < n → HqOk S' → Frm S S' → P (.int i) S') : Gv (m_u_law_draw [.obj 1, .int n]) S P := by
  refine (draw_gv hs h0 h1).mono ?_
  rintro d S' ⟨⟨i, rfl, i0, i1⟩, a, b⟩
  exact k i S' i0 i1 a b
theorem pick_g {S : Sto} {ds : List D} {P : D → Sto → Prop} (hs : HqOk S) (h0 : 0 < ds.length) (h1 : ds.length < 1000000) (k : ∀ d S', d ∈ ds → HqOk S' → Frm S S' → P d S') : Gv (m_u_law_pick [.obj 1, .lst ds]) S P := by
  refine (pick_gv hs h0 h1).mono ?_
  rintro d S' ⟨hd, a, b⟩
  exact k d S' hd a b
theorem fdiv2 {w : Int} (h0 : 0 ≤ w) (h1 : w ≤ 20000) : 0 ≤ w.fdiv 2 ∧ w.fdiv 2 ≤ 20000 := ⟨by rw [Int.fdiv_eq_ediv_of_nonneg _ (by decide)]; omega, by rw [Int.fdiv_eq_ediv_of_nonneg _ (by decide)]; omega⟩
theorem oFdiv_2 (w : Int) : oFdiv (.int w) (.int 2) = M.ret (.int (w.fdiv 2)) := rfl
theorem vector_gv {S : Sto} {n : Int} (h : HqOk S) (hn0 : 0 ≤ n) (hn : n ≤ 1000) : Gv (m_u_law_vector [.obj 1, .int n]) S fun d S' => (∃ v, d = eV v ∧ VcOk n.toNat v) ∧ Dr S S' := by
  simp only [m_u_law_vector, b_u_law_vector, N_u_law_vector, mVar, mC, mOp, mUn, mCall, mCons, mNil, mIf, mAnd, mOr, mNot, mB, mTV, mAndV, mOrV, mNotV, mChain, asB, mIter, mItems, mValues, mIterA, mCut, mSome, mNone, pInt, mCallG, mCallK, sel, M.ret_bnd, M.opt_some, M.ass_t, M.bnd_bnd, M.stk_bnd, view, Sl.see, List.map_cons, List.map_nil, List.getElem?_cons_zero, List.getElem?_cons_succ, Option.join_some, List.set_cons_zero, List.set_cons_succ, sSeq, sRet, sN, sIf, sAsg, sDrop, sNext, sUnp, sFor, sRetN, mBody, outV, startEn, List.length_cons, List.length_nil, List.replicate_succ, List.replicate_zero, List.cons_append, List.nil_append, M.calm_ret, tgN, tgTup, tgCons, tgNil, gvN, gvTup, gvCons, gvNil, wipeN, Option.toList_some, List.append_nil, if_true, Bool.not_true, Bool.not_false, Option.bind_some, items, itemsI, itemsV, Gv_bnd, Gv_ret, Gv_calm, dLst_0, dLst_1, dLst_2, dLst_3, dLst_4, dLst_5, dLst_6, dLst_7, dLst_8, dLst_9, dLst_10, dLst_11, dLst_12, dTup_0, dTup_1, dTup_2, dTup_3, dTup_4, dTup_5, dTup_6, dTup_7, dTup_8, assLt_0, decide_true, sPar, sON, sFN, sF, sV, sO, sVL, sOL, viewL, Sl.seeL, sApp, sPutK, sPopK, owL, owK, vaOf, vaAt, sFrz, bor, mBodyO, outO, sRetO, sCont, sBreak, Option.join_none, Bool.false_eq_true, if_false, List.foldl_cons, List.foldl_nil, oAdd_i, oSub_i, oInt_i, oNeg_i, eq_int, ne_int, ixT0, ixT1, ixT2, ixT3, sAugM, D_imm_i, D_imm_b, bInt_i, bInt_b, bAbs_i, bTuple_L, bLen_l, bLen_t, bLen_scr, bLen_d, D_imm_s, D_imm_n, ltSz, key_i, key_s]
  refine pick_g h (by decide) (by decide) fun d S1 hd h1 f1 => ?_
  obtain ⟨w, rfl, w0, w1⟩ : ∃ w : Int, d = .int w ∧ 0 < w ∧ w ≤ 20000 := by
    simp only [List.mem_cons, List.not_mem_nil, or_false] at hd
    rcases hd with rfl | rfl | rfl | rfl | rfl
    · exact ⟨4, rfl, by decide, by decide⟩
    · exact ⟨4, rfl, by decide, by decide⟩
    · exact ⟨4, rfl, by decide, by decide⟩
    · exact ⟨3, rfl, by decide, by decide⟩
    · exact ⟨20000, rfl, by decide, by decide⟩
  try simp only [mVar, mC, mOp, mUn, mCall, mCons, mNil, mIf, mAnd, mOr, mNot, mB, mTV, mAndV, mOrV, mNotV, mChain, asB, mIter, mItems, mValues, mIterA, mCut, mSome, mNone, pInt, mCallG, mCallK, sel, M.ret_bnd, M.opt_some, M.ass_t, M.bnd_bnd, M.stk_bnd, view, Sl.see, List.map_cons, List.map_nil, List.getElem?_cons_zero, List.getElem?_cons_succ, Option.join_some, List.set_cons_zero, List.set_cons_succ, sSeq, sRet, sN, sIf, sAsg, sDrop, sNext, sUnp, sFor, sRetN, mBody, outV, startEn, List.length_cons, List.length_nil, List.replicate_succ, List.replicate_zero, List.cons_append, List.nil_append, M.calm_ret, tgN, tgTup, tgCons, tgNil, gvN, gvTup, gvCons, gvNil, wipeN, Option.toList_some, List.append_nil, if_true, Bool.not_true, Bool.not_false, Option.bind_some, items, itemsI, itemsV, Gv_bnd, Gv_ret, Gv_calm, dLst_0, dLst_1, dLst_2, dLst_3, dLst_4, dLst_5, dLst_6, dLst_7, dLst_8, dLst_9, dLst_10, dLst_11, dLst_12, dTup_0, dTup_1, dTup_2, dTup_3, dTup_4, dTup_5, dTup_6, dTup_7, dTup_8, assLt_0, decide_true, sPar, sON, sFN, sF, sV, sO, sVL, sOL, viewL, Sl.seeL, sApp, sPutK, sPopK, owL, owK, vaOf, vaAt, sFrz, bor, mBodyO, outO, sRetO, sCont, sBreak, Option.join_none, Bool.false_eq_true, if_false, List.foldl_cons, List.foldl_nil, oAdd_i, oSub_i, oInt_i, oNeg_i, eq_int, ne_int, ixT0, ixT1, ixT2, ixT3, sAugM, D_imm_i, D_imm_b, bInt_i, bInt_b, bAbs_i, bTuple_L, bLen_l, bLen_t, bLen_scr, bLen_d, D_imm_s, D_imm_n, ltSz, key_i, key_s]
  refine lcr_gv (n := n.toNat) (lo := 0) (Dr S) (fun y => ∃ i, y = .int i ∧ i.natAbs ≤ 20000) ?_ (by omega) ⟨h1, f1⟩ ?_ ?_
  · simp only [mVar, mC, mOp, mUn, mCall, mCons, mNil, mIf, mAnd, mOr, mNot, mB, mTV, mAndV, mOrV, mNotV, mChain, asB, mIter, mItems, mValues, mIterA, mCut, mSome, mNone, pInt, mCallG, mCallK, sel, M.ret_bnd, M.opt_some, M.ass_t, M.bnd_bnd, M.stk_bnd, view, Sl.see, List.map_cons, List.map_nil, List.getElem?_cons_zero, List.getElem?_cons_succ, Option.join_some, List.set_cons_zero, List.set_cons_succ, sSeq, sRet, sN, sIf, sAsg, sDrop, sNext, sUnp, sFor, sRetN, mBody, outV, startEn, List.length_cons, List.length_nil, List.replicate_succ, List.replicate_zero, List.cons_append, List.nil_append, M.calm_ret, tgN, tgTup, tgCons, tgNil, gvN, gvTup, gvCons, gvNil, wipeN, Option.toList_some, List.append_nil, if_true, Bool.not_true, Bool.not_false, Option.bind_some, items, itemsI, itemsV, Gv_bnd, Gv_ret, Gv_calm, dLst_0, dLst_1, dLst_2, dLst_3, dLst_4, dLst_5, dLst_6, dLst_7, dLst_8, dLst_9, dLst_10, dLst_11, dLst_12, dTup_0, dTup_1, dTup_2, dTup_3, dTup_4, dTup_5, dTup_6, dTup_7, dTup_8, assLt_0, decide_true, sPar, sON, sFN, sF, sV, sO, sVL, sOL, viewL, Sl.seeL, sApp, sPutK, sPopK, owL, owK, vaOf, vaAt, sFrz, bor, mBodyO, outO, sRetO, sCont, sBreak, Option.join_none, Bool.false_eq_true, if_false, List.foldl_cons, List.foldl_nil, oAdd_i, oSub_i, oInt_i, oNeg_i, eq_int, ne_int, ixT0, ixT1, ixT2, ixT3, sAugM, D_imm_i, D_imm_b, bInt_i, bInt_b, bAbs_i, bTuple_L, bLen_l, bLen_t, bLen_scr, bLen_d, D_imm_s, D_imm_n, ltSz, key_i, key_s, rng1_i (show (-1000000 : Int) ≤ n by omega) (show n ≤ 1000000 by omega)]
  · intro i S2 hi g
    refine ⟨_, rfl, ?_⟩
    try simp only [mVar, mC, mOp, mUn, mCall, mCons, mNil, mIf, mAnd, mOr, mNot, mB, mTV, mAndV, mOrV, mNotV, mChain, asB, mIter, mItems, mValues, mIterA, mCut, mSome, mNone, pInt, mCallG, mCallK, sel, M.ret_bnd, M.opt_some, M.ass_t, M.bnd_bnd, M.stk_bnd, view, Sl.see, List.map_cons, List.map_nil, List.getElem?_cons_zero, List.getElem?_cons_succ, Option.join_some, List.set_cons_zero, List.set_cons_succ, sSeq, sRet, sN, sIf, sAsg, sDrop, sNext, sUnp, sFor, sRetN, mBody, outV, startEn, List.length_cons, List.length_nil, List.replicate_succ, List.replicate_zero, List.cons_append, List.nil_append, M.calm_ret, tgN, tgTup, tgCons, tgNil, gvN, gvTup, gvCons, gvNil, wipeN, Option.toList_some, List.append_nil, if_true, Bool.not_true, Bool.not_false, Option.bind_some, items, itemsI, itemsV, Gv_bnd, Gv_ret, Gv_calm, dLst_0, dLst_1, dLst_2, dLst_3, dLst_4, dLst_5, dLst_6, dLst_7, dLst_8, dLst_9, dLst_10, dLst_11, dLst_12, dTup_0, dTup_1, dTup_2, dTup_3, dTup_4, dTup_5, dTup_6, dTup_7, dTup_8, assLt_0, decide_true, sPar, sON, sFN, sF, sV, sO, sVL, sOL, viewL, Sl.seeL, sApp, sPutK, sPopK, owL, owK, vaOf, vaAt, sFrz, bor, mBodyO, outO, sRetO, sCont, sBreak, Option.join_none, Bool.false_eq_true, if_false, List.foldl_cons, List.foldl_nil, oAdd_i, oSub_i, oInt_i, oNeg_i, eq_int, ne_int, ixT0, ixT1, ixT2, ixT3, sAugM, D_imm_i, D_imm_b, bInt_i, bInt_b, bAbs_i, bTuple_L, bLen_l, bLen_t, bLen_scr, bLen_d, D_imm_s, D_imm_n, ltSz, key_i, key_s]
    refine draw_g g.1 w0 (by omega) fun j S3 j0 j1 k1 k2 => ?_
    have := fdiv2 (Int.le_of_lt w0) w1
    simp only [mVar, mC, mOp, mUn, mCall, mCons, mNil, mIf, mAnd, mOr, mNot, mB, mTV, mAndV, mOrV, mNotV, mChain, asB, mIter, mItems, mValues, mIterA, mCut, mSome, mNone, pInt, mCallG, mCallK, sel, M.ret_bnd, M.opt_some, M.ass_t, M.bnd_bnd, M.stk_bnd, view, Sl.see, List.map_cons, List.map_nil, List.getElem?_cons_zero, List.getElem?_cons_succ, Option.join_some, List.set_cons_zero, List.set_cons_succ, sSeq, sRet, sN, sIf, sAsg, sDrop, sNext, sUnp, sFor, sRetN, mBody, outV, startEn, List.length_cons, List.length_nil, List.replicate_succ, List.replicate_zero, List.cons_append, List.nil_append, M.calm_ret, tgN, tgTup, tgCons, tgNil, gvN, gvTup, gvCons, gvNil, wipeN, Option.toList_some, List.append_nil, if_true, Bool.not_true, Bool.not_false, Option.bind_some, items, itemsI, itemsV, Gv_bnd, Gv_ret, Gv_calm, dLst_0, dLst_1, dLst_2, dLst_3, dLst_4, dLst_5, dLst_6, dLst_7, dLst_8, dLst_9, dLst_10, dLst_11, dLst_12, dTup_0, dTup_1, dTup_2, dTup_3, dTup_4, dTup_5, dTup_6, dTup_7, dTup_8, assLt_0, decide_true, sPar, sON, sFN, sF, sV, sO, sVL, sOL, viewL, Sl.seeL, sApp, sPutK, sPopK, owL, owK, vaOf, vaAt, sFrz, bor, mBodyO, outO, sRetO, sCont, sBreak, Option.join_none, Bool.false_eq_true, if_false, List.foldl_cons, List.foldl_nil, oAdd_i, oSub_i, oInt_i, oNeg_i, eq_int, ne_int, ixT0, ixT1, ixT2, ixT3, sAugM, D_imm_i, D_imm_b, bInt_i, bInt_b, bAbs_i, bTuple_L, bLen_l, bLen_t, bLen_scr, bLen_d, D_imm_s, D_imm_n, ltSz, key_i, key_s, oFdiv_2]
    exact ⟨⟨_, rfl, by omega⟩, k1, g.2.trans k2⟩
  · intro ys S2 yl yq g
    obtain ⟨v, rfl, vq⟩ := intsOf yq
    simp only [mVar, mC, mOp, mUn, mCall, mCons, mNil, mIf, mAnd, mOr, mNot, mB, mTV, mAndV, mOrV, mNotV, mChain, asB, mIter, mItems, mValues, mIterA, mCut, mSome, mNone, pInt, mCallG, mCallK, sel, M.ret_bnd, M.opt_some, M.ass_t, M.bnd_bnd, M.stk_bnd, view, Sl.see, List.map_cons, List.map_nil, List.getElem?_cons_zero, List.getElem?_cons_succ, Option.join_some, List.set_cons_zero, List.set_cons_succ, sSeq, sRet, sN, sIf, sAsg, sDrop, sNext, sUnp, sFor, sRetN, mBody, outV, startEn, List.length_cons, List.length_nil, List.replicate_succ, List.replicate_zero, List.cons_append, List.nil_append, M.calm_ret, tgN, tgTup, tgCons, tgNil, gvN, gvTup, gvCons, gvNil, wipeN, Option.toList_some, List.append_nil, if_true, Bool.not_true, Bool.not_false, Option.bind_some, items, itemsI, itemsV, Gv_bnd, Gv_ret, Gv_calm, dLst_0, dLst_1, dLst_2, dLst_3, dLst_4, dLst_5, dLst_6, dLst_7, dLst_8, dLst_9, dLst_10, dLst_11, dLst_12, dTup_0, dTup_1, dTup_2, dTup_3, dTup_4, dTup_5, dTup_6, dTup_7, dTup_8, assLt_0, decide_true, sPar, sON, sFN, sF, sV, sO, sVL, sOL, viewL, Sl.seeL, sApp, sPutK, sPopK, owL, owK, vaOf, vaAt, sFrz, bor, mBodyO, outO, sRetO, sCont, sBreak, Option.join_none, Bool.false_eq_true, if_false, List.foldl_cons, List.foldl_nil, oAdd_i, oSub_i, oInt_i, oNeg_i, eq_int, ne_int, ixT0, ixT1, ixT2, ixT3, sAugM, D_imm_i, D_imm_b, bInt_i, bInt_b, bAbs_i, bTuple_L, bLen_l, bLen_t, bLen_scr, bLen_d, D_imm_s, D_imm_n, ltSz, key_i, key_s, bTuple]
    exact ⟨⟨v, rfl, by simpa using yl, vq⟩, g⟩
end Fw

namespace Fw
open PySem PySem.Spec PyProof.Rows L2

def parts0 : List Sv1 := [.all, .has "a", .has "bb", .rng "a" (0 - 1) 1, .rng "bb" 1 2, .noh "a"]
theorem parts0_ok : ∀ a ∈ parts0, a.ok := by
  intro a h
  simp only [parts0, List.mem_cons, List.not_mem_nil, or_false] at h
  rcases h with rfl | rfl | rfl | rfl | rfl | rfl
  · trivial
  · exact (by decide +kernel : PyData.strOk "a" = true)
  · exact (by decide +kernel : PyData.strOk "bb" = true)
  · exact (by decide +kernel : PyData.strOk "a" = true)
  · exact (by decide +kernel : PyData.strOk "bb" = true)
  · exact (by decide +kernel : PyData.strOk "a" = true)
theorem parts_g {S : Sto} {ds : List D} {P : D → Sto → Prop} (hs : HqOk S) (e : ds = parts0.map eS1) (k : ∀ a S', a.ok → HqOk S' → Frm S S' → P (eS1 a) S') : Gv (m_u_law_pick [.obj 1, .lst ds]) S P := by
  subst e
  refine pick_g hs (by decide) (by decide) fun d S' hd h1 f1 => ?_
  obtain ⟨a, ha, rfl⟩ := List.mem_map.mp hd
  exact k a S' (parts0_ok a ha) h1 f1
theorem sieve_gv {S : Sto} (h : HqOk S) : Gv (m_u_law_sieve [.obj 1]) S fun d S' => (∃ s : Sv, d = eS s ∧ s.ok) ∧ Dr S S' := by
  simp only [m_u_law_sieve, b_u_law_sieve, N_u_law_sieve, mVar, mC, mOp, mUn, mCall, mCons, mNil, mIf, mAnd, mOr, mNot, mB, mTV, mAndV, mOrV, mNotV, mChain, asB, mIter, mItems, mValues, mIterA, mCut, mSome, mNone, pInt, mCallG, mCallK, sel, M.ret_bnd, M.opt_some, M.ass_t, M.bnd_bnd, M.stk_bnd, view, Sl.see, List.map_cons, List.map_nil, List.getElem?_cons_zero, List.getElem?_cons_succ, Option.join_some, List.set_cons_zero, List.set_cons_succ, sSeq, sRet, sN, sIf, sAsg, sDrop, sNext, sUnp, sFor, sRetN, mBody, outV, startEn, List.length_cons, List.length_nil, List.replicate_succ, List.replicate_zero, List.cons_append, List.nil_append, M.calm_ret, tgN, tgTup, tgCons, tgNil, gvN, gvTup, gvCons, gvNil, wipeN, Option.toList_some, List.append_nil, if_true, Bool.not_true, Bool.not_false, Option.bind_some, items, itemsI, itemsV, Gv_bnd, Gv_ret, Gv_calm, dLst_0, dLst_1, dLst_2, dLst_3, dLst_4, dLst_5, dLst_6, dLst_7, dLst_8, dLst_9, dLst_10, dLst_11, dLst_12, dTup_0, dTup_1, dTup_2, dTup_3, dTup_4, dTup_5, dTup_6, dTup_7, dTup_8, assLt_0, decide_true, sPar, sON, sFN, sF, sV, sO, sVL, sOL, viewL, Sl.seeL, sApp, sPutK, sPopK, owL, owK, vaOf, vaAt, sFrz, bor, mBodyO, outO, sRetO, sCont, sBreak, Option.join_none, Bool.false_eq_true, if_false, List.foldl_cons, List.foldl_nil, oAdd_i, oSub_i, oInt_i, oNeg_i, eq_int, ne_int, ixT0, ixT1, ixT2, ixT3, sAugM, D_imm_i, D_imm_b, bInt_i, bInt_b, bAbs_i, bTuple_L, bLen_l, bLen_t, bLen_scr, bLen_d, D_imm_s, D_imm_n, ltSz, key_i, key_s]
  refine draw_g h (by decide) (by decide) fun k S1 k0 k1 h1 f1 => ?_
  try simp only [mVar, mC, mOp, mUn, mCall, mCons, mNil, mIf, mAnd, mOr, mNot, mB, mTV, mAndV, mOrV, mNotV, mChain, asB, mIter, mItems, mValues, mIterA, mCut, mSome, mNone, pInt, mCallG, mCallK, sel, M.ret_bnd, M.opt_some, M.ass_t, M.bnd_bnd, M.stk_bnd, view, Sl.see, List.map_cons, List.map_nil, List.getElem?_cons_zero, List.getElem?_cons_succ, Option.join_some, List.set_cons_zero, List.set_cons_succ, sSeq, sRet, sN, sIf, sAsg, sDrop, sNext, sUnp, sFor, sRetN, mBody, outV, startEn, List.length_cons, List.length_nil, List.replicate_succ, List.replicate_zero, List.cons_append, List.nil_append, M.calm_ret, tgN, tgTup, tgCons, tgNil, gvN, gvTup, gvCons, gvNil, wipeN, Option.toList_some, List.append_nil, if_true, Bool.not_true, Bool.not_false, Option.bind_some, items, itemsI, itemsV, Gv_bnd, Gv_ret, Gv_calm, dLst_0, dLst_1, dLst_2, dLst_3, dLst_4, dLst_5, dLst_6, dLst_7, dLst_8, dLst_9, dLst_10, dLst_11, dLst_12, dTup_0, dTup_1, dTup_2, dTup_3, dTup_4, dTup_5, dTup_6, dTup_7, dTup_8, assLt_0, decide_true, sPar, sON, sFN, sF, sV, sO, sVL, sOL, viewL, Sl.seeL, sApp, sPutK, sPopK, owL, owK, vaOf, vaAt, sFrz, bor, mBodyO, outO, sRetO, sCont, sBreak, Option.join_none, Bool.false_eq_true, if_false, List.foldl_cons, List.foldl_nil, oAdd_i, oSub_i, oInt_i, oNeg_i, eq_int, ne_int, ixT0, ixT1, ixT2, ixT3, sAugM, D_imm_i, D_imm_b, bInt_i, bInt_b, bAbs_i, bTuple_L, bLen_l, bLen_t, bLen_scr, bLen_d, D_imm_s, D_imm_n, ltSz, key_i, key_s]
  by_cases c1 : k < 2
  · simp only [c1, mVar, mC, mOp, mUn, mCall, mCons, mNil, mIf, mAnd, mOr, mNot, mB, mTV, mAndV, mOrV, mNotV, mChain, asB, mIter, mItems, mValues, mIterA, mCut, mSome, mNone, pInt, mCallG, mCallK, sel, M.ret_bnd, M.opt_some, M.ass_t, M.bnd_bnd, M.stk_bnd, view, Sl.see, List.map_cons, List.map_nil, List.getElem?_cons_zero, List.getElem?_cons_succ, Option.join_some, List.set_cons_zero, List.set_cons_succ, sSeq, sRet, sN, sIf, sAsg, sDrop, sNext, sUnp, sFor, sRetN, mBody, outV, startEn, List.length_cons, List.length_nil, List.replicate_succ, List.replicate_zero, List.cons_append, List.nil_append, M.calm_ret, tgN, tgTup, tgCons, tgNil, gvN, gvTup, gvCons, gvNil, wipeN, Option.toList_some, List.append_nil, if_true, Bool.not_true, Bool.not_false, Option.bind_some, items, itemsI, itemsV, Gv_bnd, Gv_ret, Gv_calm, dLst_0, dLst_1, dLst_2, dLst_3, dLst_4, dLst_5, dLst_6, dLst_7, dLst_8, dLst_9, dLst_10, dLst_11, dLst_12, dTup_0, dTup_1, dTup_2, dTup_3, dTup_4, dTup_5, dTup_6, dTup_7, dTup_8, assLt_0, decide_true, sPar, sON, sFN, sF, sV, sO, sVL, sOL, viewL, Sl.seeL, sApp, sPutK, sPopK, owL, owK, vaOf, vaAt, sFrz, bor, mBodyO, outO, sRetO, sCont, sBreak, Option.join_none, Bool.false_eq_true, if_false, List.foldl_cons, List.foldl_nil, oAdd_i, oSub_i, oInt_i, oNeg_i, eq_int, ne_int, ixT0, ixT1, ixT2, ixT3, sAugM, D_imm_i, D_imm_b, bInt_i, bInt_b, bAbs_i, bTuple_L, bLen_l, bLen_t, bLen_scr, bLen_d, D_imm_s, D_imm_n, ltSz, key_i, key_s]
    exact ⟨⟨.one .all, rfl, trivial⟩, h1, f1⟩
  · simp only [c1, decide_false, mVar, mC, mOp, mUn, mCall, mCons, mNil, mIf, mAnd, mOr, mNot, mB, mTV, mAndV, mOrV, mNotV, mChain, asB, mIter, mItems, mValues, mIterA, mCut, mSome, mNone, pInt, mCallG, mCallK, sel, M.ret_bnd, M.opt_some, M.ass_t, M.bnd_bnd, M.stk_bnd, view, Sl.see, List.map_cons, List.map_nil, List.getElem?_cons_zero, List.getElem?_cons_succ, Option.join_some, List.set_cons_zero, List.set_cons_succ, sSeq, sRet, sN, sIf, sAsg, sDrop, sNext, sUnp, sFor, sRetN, mBody, outV, startEn, List.length_cons, List.length_nil, List.replicate_succ, List.replicate_zero, List.cons_append, List.nil_append, M.calm_ret, tgN, tgTup, tgCons, tgNil, gvN, gvTup, gvCons, gvNil, wipeN, Option.toList_some, List.append_nil, if_true, Bool.not_true, Bool.not_false, Option.bind_some, items, itemsI, itemsV, Gv_bnd, Gv_ret, Gv_calm, dLst_0, dLst_1, dLst_2, dLst_3, dLst_4, dLst_5, dLst_6, dLst_7, dLst_8, dLst_9, dLst_10, dLst_11, dLst_12, dTup_0, dTup_1, dTup_2, dTup_3, dTup_4, dTup_5, dTup_6, dTup_7, dTup_8, assLt_0, decide_true, sPar, sON, sFN, sF, sV, sO, sVL, sOL, viewL, Sl.seeL, sApp, sPutK, sPopK, owL, owK, vaOf, vaAt, sFrz, bor, mBodyO, outO, sRetO, sCont, sBreak, Option.join_none, Bool.false_eq_true, if_false, List.foldl_cons, List.foldl_nil, oAdd_i, oSub_i, oInt_i, oNeg_i, eq_int, ne_int, ixT0, ixT1, ixT2, ixT3, sAugM, D_imm_i, D_imm_b, bInt_i, bInt_b, bAbs_i, bTuple_L, bLen_l, bLen_t, bLen_scr, bLen_d, D_imm_s, D_imm_n, ltSz, key_i, key_s]
    by_cases c2 : k < 4
    · simp only [c2, mVar, mC, mOp, mUn, mCall, mCons, mNil, mIf, mAnd, mOr, mNot, mB, mTV, mAndV, mOrV, mNotV, mChain, asB, mIter, mItems, mValues, mIterA, mCut, mSome, mNone, pInt, mCallG, mCallK, sel, M.ret_bnd, M.opt_some, M.ass_t, M.bnd_bnd, M.stk_bnd, view, Sl.see, List.map_cons, List.map_nil, List.getElem?_cons_zero, List.getElem?_cons_succ, Option.join_some, List.set_cons_zero, List.set_cons_succ, sSeq, sRet, sN, sIf, sAsg, sDrop, sNext, sUnp, sFor, sRetN, mBody, outV, startEn, List.length_cons, List.length_nil, List.replicate_succ, List.replicate_zero, List.cons_append, List.nil_append, M.calm_ret, tgN, tgTup, tgCons, tgNil, gvN, gvTup, gvCons, gvNil, wipeN, Option.toList_some, List.append_nil, if_true, Bool.not_true, Bool.not_false, Option.bind_some, items, itemsI, itemsV, Gv_bnd, Gv_ret, Gv_calm, dLst_0, dLst_1, dLst_2, dLst_3, dLst_4, dLst_5, dLst_6, dLst_7, dLst_8, dLst_9, dLst_10, dLst_11, dLst_12, dTup_0, dTup_1, dTup_2, dTup_3, dTup_4, dTup_5, dTup_6, dTup_7, dTup_8, assLt_0, decide_true, sPar, sON, sFN, sF, sV, sO, sVL, sOL, viewL, Sl.seeL, sApp, sPutK, sPopK, owL, owK, vaOf, vaAt, sFrz, bor, mBodyO, outO, sRetO, sCont, sBreak, Option.join_none, Bool.false_eq_true, if_false, List.foldl_cons, List.foldl_nil, oAdd_i, oSub_i, oInt_i, oNeg_i, eq_int, ne_int, ixT0, ixT1, ixT2, ixT3, sAugM, D_imm_i, D_imm_b, bInt_i, bInt_b, bAbs_i, bTuple_L, bLen_l, bLen_t, bLen_scr, bLen_d, D_imm_s, D_imm_n, ltSz, key_i, key_s]
      refine parts_g h1 rfl fun a S2 ha h2 f2 => ?_
      try simp only [mVar, mC, mOp, mUn, mCall, mCons, mNil, mIf, mAnd, mOr, mNot, mB, mTV, mAndV, mOrV, mNotV, mChain, asB, mIter, mItems, mValues, mIterA, mCut, mSome, mNone, pInt, mCallG, mCallK, sel, M.ret_bnd, M.opt_some, M.ass_t, M.bnd_bnd, M.stk_bnd, view, Sl.see, List.map_cons, List.map_nil, List.getElem?_cons_zero, List.getElem?_cons_succ, Option.join_some, List.set_cons_zero, List.set_cons_succ, sSeq, sRet, sN, sIf, sAsg, sDrop, sNext, sUnp, sFor, sRetN, mBody, outV, startEn, List.length_cons, List.length_nil, List.replicate_succ, List.replicate_zero, List.cons_append, List.nil_append, M.calm_ret, tgN, tgTup, tgCons, tgNil, gvN, gvTup, gvCons, gvNil, wipeN, Option.toList_some, List.append_nil, if_true, Bool.not_true, Bool.not_false, Option.bind_some, items, itemsI, itemsV, Gv_bnd, Gv_ret, Gv_calm, dLst_0, dLst_1, dLst_2, dLst_3, dLst_4, dLst_5, dLst_6, dLst_7, dLst_8, dLst_9, dLst_10, dLst_11, dLst_12, dTup_0, dTup_1, dTup_2, dTup_3, dTup_4, dTup_5, dTup_6, dTup_7, dTup_8, assLt_0, decide_true, sPar, sON, sFN, sF, sV, sO, sVL, sOL, viewL, Sl.seeL, sApp, sPutK, sPopK, owL, owK, vaOf, vaAt, sFrz, bor, mBodyO, outO, sRetO, sCont, sBreak, Option.join_none, Bool.false_eq_true, if_false, List.foldl_cons, List.foldl_nil, oAdd_i, oSub_i, oInt_i, oNeg_i, eq_int, ne_int, ixT0, ixT1, ixT2, ixT3, sAugM, D_imm_i, D_imm_b, bInt_i, bInt_b, bAbs_i, bTuple_L, bLen_l, bLen_t, bLen_scr, bLen_d, D_imm_s, D_imm_n, ltSz, key_i, key_s]
      exact ⟨⟨.one a, rfl, ha⟩, h2, f1.trans f2⟩
    · simp only [c2, decide_false, mVar, mC, mOp, mUn, mCall, mCons, mNil, mIf, mAnd, mOr, mNot, mB, mTV, mAndV, mOrV, mNotV, mChain, asB, mIter, mItems, mValues, mIterA, mCut, mSome, mNone, pInt, mCallG, mCallK, sel, M.ret_bnd, M.opt_some, M.ass_t, M.bnd_bnd, M.stk_bnd, view, Sl.see, List.map_cons, List.map_nil, List.getElem?_cons_zero, List.getElem?_cons_succ, Option.join_some, List.set_cons_zero, List.set_cons_succ, sSeq, sRet, sN, sIf, sAsg, sDrop, sNext, sUnp, sFor, sRetN, mBody, outV, startEn, List.length_cons, List.length_nil, List.replicate_succ, List.replicate_zero, List.cons_append, List.nil_append, M.calm_ret, tgN, tgTup, tgCons, tgNil, gvN, gvTup, gvCons, gvNil, wipeN, Option.toList_some, List.append_nil, if_true, Bool.not_true, Bool.not_false, Option.bind_some, items, itemsI, itemsV, Gv_bnd, Gv_ret, Gv_calm, dLst_0, dLst_1, dLst_2, dLst_3, dLst_4, dLst_5, dLst_6, dLst_7, dLst_8, dLst_9, dLst_10, dLst_11, dLst_12, dTup_0, dTup_1, dTup_2, dTup_3, dTup_4, dTup_5, dTup_6, dTup_7, dTup_8, assLt_0, decide_true, sPar, sON, sFN, sF, sV, sO, sVL, sOL, viewL, Sl.seeL, sApp, sPutK, sPopK, owL, owK, vaOf, vaAt, sFrz, bor, mBodyO, outO, sRetO, sCont, sBreak, Option.join_none, Bool.false_eq_true, if_false, List.foldl_cons, List.foldl_nil, oAdd_i, oSub_i, oInt_i, oNeg_i, eq_int, ne_int, ixT0, ixT1, ixT2, ixT3, sAugM, D_imm_i, D_imm_b, bInt_i, bInt_b, bAbs_i, bTuple_L, bLen_l, bLen_t, bLen_scr, bLen_d, D_imm_s, D_imm_n, ltSz, key_i, key_s]
      refine pick_g h1 (by decide) (by decide) fun w S2 hw h2 f2 => ?_
      try simp only [mVar, mC, mOp, mUn, mCall, mCons, mNil, mIf, mAnd, mOr, mNot, mB, mTV, mAndV, mOrV, mNotV, mChain, asB, mIter, mItems, mValues, mIterA, mCut, mSome, mNone, pInt, mCallG, mCallK, sel, M.ret_bnd, M.opt_some, M.ass_t, M.bnd_bnd, M.stk_bnd, view, Sl.see, List.map_cons, List.map_nil, List.getElem?_cons_zero, List.getElem?_cons_succ, Option.join_some, List.set_cons_zero, List.set_cons_succ, sSeq, sRet, sN, sIf, sAsg, sDrop, sNext, sUnp, sFor, sRetN, mBody, outV, startEn, List.length_cons, List.length_nil, List.replicate_succ, List.replicate_zero, List.cons_append, List.nil_append, M.calm_ret, tgN, tgTup, tgCons, tgNil, gvN, gvTup, gvCons, gvNil, wipeN, Option.toList_some, List.append_nil, if_true, Bool.not_true, Bool.not_false, Option.bind_some, items, itemsI, itemsV, Gv_bnd, Gv_ret, Gv_calm, dLst_0, dLst_1, dLst_2, dLst_3, dLst_4, dLst_5, dLst_6, dLst_7, dLst_8, dLst_9, dLst_10, dLst_11, dLst_12, dTup_0, dTup_1, dTup_2, dTup_3, dTup_4, dTup_5, dTup_6, dTup_7, dTup_8, assLt_0, decide_true, sPar, sON, sFN, sF, sV, sO, sVL, sOL, viewL, Sl.seeL, sApp, sPutK, sPopK, owL, owK, vaOf, vaAt, sFrz, bor, mBodyO, outO, sRetO, sCont, sBreak, Option.join_none, Bool.false_eq_true, if_false, List.foldl_cons, List.foldl_nil, oAdd_i, oSub_i, oInt_i, oNeg_i, eq_int, ne_int, ixT0, ixT1, ixT2, ixT3, sAugM, D_imm_i, D_imm_b, bInt_i, bInt_b, bAbs_i, bTuple_L, bLen_l, bLen_t, bLen_scr, bLen_d, D_imm_s, D_imm_n, ltSz, key_i, key_s]
      refine parts_g h2 rfl fun a S3 ha h3 f3 => ?_
      try simp only [mVar, mC, mOp, mUn, mCall, mCons, mNil, mIf, mAnd, mOr, mNot, mB, mTV, mAndV, mOrV, mNotV, mChain, asB, mIter, mItems, mValues, mIterA, mCut, mSome, mNone, pInt, mCallG, mCallK, sel, M.ret_bnd, M.opt_some, M.ass_t, M.bnd_bnd, M.stk_bnd, view, Sl.see, List.map_cons, List.map_nil, List.getElem?_cons_zero, List.getElem?_cons_succ, Option.join_some, List.set_cons_zero, List.set_cons_succ, sSeq, sRet, sN, sIf, sAsg, sDrop, sNext, sUnp, sFor, sRetN, mBody, outV, startEn, List.length_cons, List.length_nil, List.replicate_succ, List.replicate_zero, List.cons_append, List.nil_append, M.calm_ret, tgN, tgTup, tgCons, tgNil, gvN, gvTup, gvCons, gvNil, wipeN, Option.toList_some, List.append_nil, if_true, Bool.not_true, Bool.not_false, Option.bind_some, items, itemsI, itemsV, Gv_bnd, Gv_ret, Gv_calm, dLst_0, dLst_1, dLst_2, dLst_3, dLst_4, dLst_5, dLst_6, dLst_7, dLst_8, dLst_9, dLst_10, dLst_11, dLst_12, dTup_0, dTup_1, dTup_2, dTup_3, dTup_4, dTup_5, dTup_6, dTup_7, dTup_8, assLt_0, decide_true, sPar, sON, sFN, sF, sV, sO, sVL, sOL, viewL, Sl.seeL, sApp, sPutK, sPopK, owL, owK, vaOf, vaAt, sFrz, bor, mBodyO, outO, sRetO, sCont, sBreak, Option.join_none, Bool.false_eq_true, if_false, List.foldl_cons, List.foldl_nil, oAdd_i, oSub_i, oInt_i, oNeg_i, eq_int, ne_int, ixT0, ixT1, ixT2, ixT3, sAugM, D_imm_i, D_imm_b, bInt_i, bInt_b, bAbs_i, bTuple_L, bLen_l, bLen_t, bLen_scr, bLen_d, D_imm_s, D_imm_n, ltSz, key_i, key_s]
      refine parts_g h3 rfl fun b S4 hb h4 f4 => ?_
      try simp only [mVar, mC, mOp, mUn, mCall, mCons, mNil, mIf, mAnd, mOr, mNot, mB, mTV, mAndV, mOrV, mNotV, mChain, asB, mIter, mItems, mValues, mIterA, mCut, mSome, mNone, pInt, mCallG, mCallK, sel, M.ret_bnd, M.opt_some, M.ass_t, M.bnd_bnd, M.stk_bnd, view, Sl.see, List.map_cons, List.map_nil, List.getElem?_cons_zero, List.getElem?_cons_succ, Option.join_some, List.set_cons_zero, List.set_cons_succ, sSeq, sRet, sN, sIf, sAsg, sDrop, sNext, sUnp, sFor, sRetN, mBody, outV, startEn, List.length_cons, List.length_nil, List.replicate_succ, List.replicate_zero, List.cons_append, List.nil_append, M.calm_ret, tgN, tgTup, tgCons, tgNil, gvN, gvTup, gvCons, gvNil, wipeN, Option.toList_some, List.append_nil, if_true, Bool.not_true, Bool.not_false, Option.bind_some, items, itemsI, itemsV, Gv_bnd, Gv_ret, Gv_calm, dLst_0, dLst_1, dLst_2, dLst_3, dLst_4, dLst_5, dLst_6, dLst_7, dLst_8, dLst_9, dLst_10, dLst_11, dLst_12, dTup_0, dTup_1, dTup_2, dTup_3, dTup_4, dTup_5, dTup_6, dTup_7, dTup_8, assLt_0, decide_true, sPar, sON, sFN, sF, sV, sO, sVL, sOL, viewL, Sl.seeL, sApp, sPutK, sPopK, owL, owK, vaOf, vaAt, sFrz, bor, mBodyO, outO, sRetO, sCont, sBreak, Option.join_none, Bool.false_eq_true, if_false, List.foldl_cons, List.foldl_nil, oAdd_i, oSub_i, oInt_i, oNeg_i, eq_int, ne_int, ixT0, ixT1, ixT2, ixT3, sAugM, D_imm_i, D_imm_b, bInt_i, bInt_b, bAbs_i, bTuple_L, bLen_l, bLen_t, bLen_scr, bLen_d, D_imm_s, D_imm_n, ltSz, key_i, key_s]
      simp only [List.mem_cons, List.not_mem_nil, or_false] at hw
      rcases hw with rfl | rfl
      · exact ⟨⟨.both true a b, rfl, ha, hb⟩, h4, f1.trans (f2.trans (f3.trans f4))⟩
      · exact ⟨⟨.both false a b, rfl, ha, hb⟩, h4, f1.trans (f2.trans (f3.trans f4))⟩
theorem bTuple_l (ds : List D) : bTuple [.lst ds] = M.ret (.tup ds) := rfl
theorem item_gv {S : Sto} {n key : Int} (h : HqOk S) (hn0 : 0 ≤ n) (hn : n ≤ 1000) (hk : key.natAbs ≤ 1000) : Gv (m_u_law_item [.obj 1, .int key, .int n]) S fun d S' => (∃ it : It, d = eI it ∧ ItOk n.toNat it ∧ it.k = key) ∧ Dr S S' := by
  have sa : PyData.strOk "a" = true := by decide +kernel
  have sb : PyData.strOk "bb" = true := by decide +kernel
  have ab : ¬ ("a" : Str) = "bb" := by decide +kernel
  have imv : ∀ v : List Int, (eV v).imm = true := imm_eV
  simp only [m_u_law_item, b_u_law_item, N_u_law_item, mVar, mC, mOp, mUn, mCall, mCons, mNil, mIf, mAnd, mOr, mNot, mB, mTV, mAndV, mOrV, mNotV, mChain, asB, mIter, mItems, mValues, mIterA, mCut, mSome, mNone, pInt, mCallG, mCallK, sel, M.ret_bnd, M.opt_some, M.ass_t, M.bnd_bnd, M.stk_bnd, view, Sl.see, List.map_cons, List.map_nil, List.getElem?_cons_zero, List.getElem?_cons_succ, Option.join_some, List.set_cons_zero, List.set_cons_succ, sSeq, sRet, sN, sIf, sAsg, sDrop, sNext, sUnp, sFor, sRetN, mBody, outV, startEn, List.length_cons, List.length_nil, List.replicate_succ, List.replicate_zero, List.cons_append, List.nil_append, M.calm_ret, tgN, tgTup, tgCons, tgNil, gvN, gvTup, gvCons, gvNil, wipeN, Option.toList_some, List.append_nil, if_true, Bool.not_true, Bool.not_false, Option.bind_some, items, itemsI, itemsV, Gv_bnd, Gv_ret, Gv_calm, dLst_0, dLst_1, dLst_2, dLst_3, dLst_4, dLst_5, dLst_6, dLst_7, dLst_8, dLst_9, dLst_10, dLst_11, dLst_12, dTup_0, dTup_1, dTup_2, dTup_3, dTup_4, dTup_5, dTup_6, dTup_7, dTup_8, assLt_0, decide_true, sPar, sON, sFN, sF, sV, sO, sVL, sOL, viewL, Sl.seeL, sApp, sPutK, sPopK, owL, owK, vaOf, vaAt, sFrz, bor, mBodyO, outO, sRetO, sCont, sBreak, Option.join_none, Bool.false_eq_true, if_false, List.foldl_cons, List.foldl_nil, oAdd_i, oSub_i, oInt_i, oNeg_i, eq_int, ne_int, ixT0, ixT1, ixT2, ixT3, sAugM, D_imm_i, D_imm_b, bInt_i, bInt_b, bAbs_i, bTuple_L, bLen_l, bLen_t, bLen_scr, bLen_d, D_imm_s, D_imm_n, ltSz, key_i, key_s]
  refine draw_g h (by decide) (by decide) fun k S1 k0 k1 h1 f1 => ?_
  try simp only [mVar, mC, mOp, mUn, mCall, mCons, mNil, mIf, mAnd, mOr, mNot, mB, mTV, mAndV, mOrV, mNotV, mChain, asB, mIter, mItems, mValues, mIterA, mCut, mSome, mNone, pInt, mCallG, mCallK, sel, M.ret_bnd, M.opt_some, M.ass_t, M.bnd_bnd, M.stk_bnd, view, Sl.see, List.map_cons, List.map_nil, List.getElem?_cons_zero, List.getElem?_cons_succ, Option.join_some, List.set_cons_zero, List.set_cons_succ, sSeq, sRet, sN, sIf, sAsg, sDrop, sNext, sUnp, sFor, sRetN, mBody, outV, startEn, List.length_cons, List.length_nil, List.replicate_succ, List.replicate_zero, List.cons_append, List.nil_append, M.calm_ret, tgN, tgTup, tgCons, tgNil, gvN, gvTup, gvCons, gvNil, wipeN, Option.toList_some, List.append_nil, if_true, Bool.not_true, Bool.not_false, Option.bind_some, items, itemsI, itemsV, Gv_bnd, Gv_ret, Gv_calm, dLst_0, dLst_1, dLst_2, dLst_3, dLst_4, dLst_5, dLst_6, dLst_7, dLst_8, dLst_9, dLst_10, dLst_11, dLst_12, dTup_0, dTup_1, dTup_2, dTup_3, dTup_4, dTup_5, dTup_6, dTup_7, dTup_8, assLt_0, decide_true, sPar, sON, sFN, sF, sV, sO, sVL, sOL, viewL, Sl.seeL, sApp, sPutK, sPopK, owL, owK, vaOf, vaAt, sFrz, bor, mBodyO, outO, sRetO, sCont, sBreak, Option.join_none, Bool.false_eq_true, if_false, List.foldl_cons, List.foldl_nil, oAdd_i, oSub_i, oInt_i, oNeg_i, eq_int, ne_int, ixT0, ixT1, ixT2, ixT3, sAugM, D_imm_i, D_imm_b, bInt_i, bInt_b, bAbs_i, bTuple_L, bLen_l, bLen_t, bLen_scr, bLen_d, D_imm_s, D_imm_n, ltSz, key_i, key_s]
  refine Gv.mono (P := fun f S' => ∃ l1 : List (Str × Int), (l1 = [] ∨ ∃ x : Int, l1 = [(("a" : Str), x)]) ∧ f = .nx [.va (.obj 1), .va (.int key), .va (.int n), .ow (.lst (l1.map eL))] ∧ HqOk S' ∧ Frm S S') ?_ ?_
  · by_cases c1 : 0 < k
    · simp only [c1, mVar, mC, mOp, mUn, mCall, mCons, mNil, mIf, mAnd, mOr, mNot, mB, mTV, mAndV, mOrV, mNotV, mChain, asB, mIter, mItems, mValues, mIterA, mCut, mSome, mNone, pInt, mCallG, mCallK, sel, M.ret_bnd, M.opt_some, M.ass_t, M.bnd_bnd, M.stk_bnd, view, Sl.see, List.map_cons, List.map_nil, List.getElem?_cons_zero, List.getElem?_cons_succ, Option.join_some, List.set_cons_zero, List.set_cons_succ, sSeq, sRet, sN, sIf, sAsg, sDrop, sNext, sUnp, sFor, sRetN, mBody, outV, startEn, List.length_cons, List.length_nil, List.replicate_succ, List.replicate_zero, List.cons_append, List.nil_append, M.calm_ret, tgN, tgTup, tgCons, tgNil, gvN, gvTup, gvCons, gvNil, wipeN, Option.toList_some, List.append_nil, if_true, Bool.not_true, Bool.not_false, Option.bind_some, items, itemsI, itemsV, Gv_bnd, Gv_ret, Gv_calm, dLst_0, dLst_1, dLst_2, dLst_3, dLst_4, dLst_5, dLst_6, dLst_7, dLst_8, dLst_9, dLst_10, dLst_11, dLst_12, dTup_0, dTup_1, dTup_2, dTup_3, dTup_4, dTup_5, dTup_6, dTup_7, dTup_8, assLt_0, decide_true, sPar, sON, sFN, sF, sV, sO, sVL, sOL, viewL, Sl.seeL, sApp, sPutK, sPopK, owL, owK, vaOf, vaAt, sFrz, bor, mBodyO, outO, sRetO, sCont, sBreak, Option.join_none, Bool.false_eq_true, if_false, List.foldl_cons, List.foldl_nil, oAdd_i, oSub_i, oInt_i, oNeg_i, eq_int, ne_int, ixT0, ixT1, ixT2, ixT3, sAugM, D_imm_i, D_imm_b, bInt_i, bInt_b, bAbs_i, bTuple_L, bLen_l, bLen_t, bLen_scr, bLen_d, D_imm_s, D_imm_n, ltSz, key_i, key_s]
      refine draw_g h1 (by decide) (by decide) fun x S2 x0 x1 h2 f2 => ?_
      simp only [mVar, mC, mOp, mUn, mCall, mCons, mNil, mIf, mAnd, mOr, mNot, mB, mTV, mAndV, mOrV, mNotV, mChain, asB, mIter, mItems, mValues, mIterA, mCut, mSome, mNone, pInt, mCallG, mCallK, sel, M.ret_bnd, M.opt_some, M.ass_t, M.bnd_bnd, M.stk_bnd, view, Sl.see, List.map_cons, List.map_nil, List.getElem?_cons_zero, List.getElem?_cons_succ, Option.join_some, List.set_cons_zero, List.set_cons_succ, sSeq, sRet, sN, sIf, sAsg, sDrop, sNext, sUnp, sFor, sRetN, mBody, outV, startEn, List.length_cons, List.length_nil, List.replicate_succ, List.replicate_zero, List.cons_append, List.nil_append, M.calm_ret, tgN, tgTup, tgCons, tgNil, gvN, gvTup, gvCons, gvNil, wipeN, Option.toList_some, List.append_nil, if_true, Bool.not_true, Bool.not_false, Option.bind_some, items, itemsI, itemsV, Gv_bnd, Gv_ret, Gv_calm, dLst_0, dLst_1, dLst_2, dLst_3, dLst_4, dLst_5, dLst_6, dLst_7, dLst_8, dLst_9, dLst_10, dLst_11, dLst_12, dTup_0, dTup_1, dTup_2, dTup_3, dTup_4, dTup_5, dTup_6, dTup_7, dTup_8, assLt_0, decide_true, sPar, sON, sFN, sF, sV, sO, sVL, sOL, viewL, Sl.seeL, sApp, sPutK, sPopK, owL, owK, vaOf, vaAt, sFrz, bor, mBodyO, outO, sRetO, sCont, sBreak, Option.join_none, Bool.false_eq_true, if_false, List.foldl_cons, List.foldl_nil, oAdd_i, oSub_i, oInt_i, oNeg_i, eq_int, ne_int, ixT0, ixT1, ixT2, ixT3, sAugM, D_imm_i, D_imm_b, bInt_i, bInt_b, bAbs_i, bTuple_L, bLen_l, bLen_t, bLen_scr, bLen_d, D_imm_s, D_imm_n, ltSz, key_i, key_s]
      exact ⟨[("a", x - 2)], .inr ⟨x - 2, rfl⟩, rfl, h2, f1.trans f2⟩
    · simp only [c1, decide_false, mVar, mC, mOp, mUn, mCall, mCons, mNil, mIf, mAnd, mOr, mNot, mB, mTV, mAndV, mOrV, mNotV, mChain, asB, mIter, mItems, mValues, mIterA, mCut, mSome, mNone, pInt, mCallG, mCallK, sel, M.ret_bnd, M.opt_some, M.ass_t, M.bnd_bnd, M.stk_bnd, view, Sl.see, List.map_cons, List.map_nil, List.getElem?_cons_zero, List.getElem?_cons_succ, Option.join_some, List.set_cons_zero, List.set_cons_succ, sSeq, sRet, sN, sIf, sAsg, sDrop, sNext, sUnp, sFor, sRetN, mBody, outV, startEn, List.length_cons, List.length_nil, List.replicate_succ, List.replicate_zero, List.cons_append, List.nil_append, M.calm_ret, tgN, tgTup, tgCons, tgNil, gvN, gvTup, gvCons, gvNil, wipeN, Option.toList_some, List.append_nil, if_true, Bool.not_true, Bool.not_false, Option.bind_some, items, itemsI, itemsV, Gv_bnd, Gv_ret, Gv_calm, dLst_0, dLst_1, dLst_2, dLst_3, dLst_4, dLst_5, dLst_6, dLst_7, dLst_8, dLst_9, dLst_10, dLst_11, dLst_12, dTup_0, dTup_1, dTup_2, dTup_3, dTup_4, dTup_5, dTup_6, dTup_7, dTup_8, assLt_0, decide_true, sPar, sON, sFN, sF, sV, sO, sVL, sOL, viewL, Sl.seeL, sApp, sPutK, sPopK, owL, owK, vaOf, vaAt, sFrz, bor, mBodyO, outO, sRetO, sCont, sBreak, Option.join_none, Bool.false_eq_true, if_false, List.foldl_cons, List.foldl_nil, oAdd_i, oSub_i, oInt_i, oNeg_i, eq_int, ne_int, ixT0, ixT1, ixT2, ixT3, sAugM, D_imm_i, D_imm_b, bInt_i, bInt_b, bAbs_i, bTuple_L, bLen_l, bLen_t, bLen_scr, bLen_d, D_imm_s, D_imm_n, ltSz, key_i, key_s]
      exact ⟨[], .inl rfl, rfl, h1, f1⟩
  rintro _ S2 ⟨l1, hl1, rfl, h2, f2⟩
  simp only [mVar, mC, mOp, mUn, mCall, mCons, mNil, mIf, mAnd, mOr, mNot, mB, mTV, mAndV, mOrV, mNotV, mChain, asB, mIter, mItems, mValues, mIterA, mCut, mSome, mNone, pInt, mCallG, mCallK, sel, M.ret_bnd, M.opt_some, M.ass_t, M.bnd_bnd, M.stk_bnd, view, Sl.see, List.map_cons, List.map_nil, List.getElem?_cons_zero, List.getElem?_cons_succ, Option.join_some, List.set_cons_zero, List.set_cons_succ, sSeq, sRet, sN, sIf, sAsg, sDrop, sNext, sUnp, sFor, sRetN, mBody, outV, startEn, List.length_cons, List.length_nil, List.replicate_succ, List.replicate_zero, List.cons_append, List.nil_append, M.calm_ret, tgN, tgTup, tgCons, tgNil, gvN, gvTup, gvCons, gvNil, wipeN, Option.toList_some, List.append_nil, if_true, Bool.not_true, Bool.not_false, Option.bind_some, items, itemsI, itemsV, Gv_bnd, Gv_ret, Gv_calm, dLst_0, dLst_1, dLst_2, dLst_3, dLst_4, dLst_5, dLst_6, dLst_7, dLst_8, dLst_9, dLst_10, dLst_11, dLst_12, dTup_0, dTup_1, dTup_2, dTup_3, dTup_4, dTup_5, dTup_6, dTup_7, dTup_8, assLt_0, decide_true, sPar, sON, sFN, sF, sV, sO, sVL, sOL, viewL, Sl.seeL, sApp, sPutK, sPopK, owL, owK, vaOf, vaAt, sFrz, bor, mBodyO, outO, sRetO, sCont, sBreak, Option.join_none, Bool.false_eq_true, if_false, List.foldl_cons, List.foldl_nil, oAdd_i, oSub_i, oInt_i, oNeg_i, eq_int, ne_int, ixT0, ixT1, ixT2, ixT3, sAugM, D_imm_i, D_imm_b, bInt_i, bInt_b, bAbs_i, bTuple_L, bLen_l, bLen_t, bLen_scr, bLen_d, D_imm_s, D_imm_n, ltSz, key_i, key_s]
  refine draw_g h2 (by decide) (by decide) fun k2 S3 k20 k21 h3 f3 => ?_
  try simp only [mVar, mC, mOp, mUn, mCall, mCons, mNil, mIf, mAnd, mOr, mNot, mB, mTV, mAndV, mOrV, mNotV, mChain, asB, mIter, mItems, mValues, mIterA, mCut, mSome, mNone, pInt, mCallG, mCallK, sel, M.ret_bnd, M.opt_some, M.ass_t, M.bnd_bnd, M.stk_bnd, view, Sl.see, List.map_cons, List.map_nil, List.getElem?_cons_zero, List.getElem?_cons_succ, Option.join_some, List.set_cons_zero, List.set_cons_succ, sSeq, sRet, sN, sIf, sAsg, sDrop, sNext, sUnp, sFor, sRetN, mBody, outV, startEn, List.length_cons, List.length_nil, List.replicate_succ, List.replicate_zero, List.cons_append, List.nil_append, M.calm_ret, tgN, tgTup, tgCons, tgNil, gvN, gvTup, gvCons, gvNil, wipeN, Option.toList_some, List.append_nil, if_true, Bool.not_true, Bool.not_false, Option.bind_some, items, itemsI, itemsV, Gv_bnd, Gv_ret, Gv_calm, dLst_0, dLst_1, dLst_2, dLst_3, dLst_4, dLst_5, dLst_6, dLst_7, dLst_8, dLst_9, dLst_10, dLst_11, dLst_12, dTup_0, dTup_1, dTup_2, dTup_3, dTup_4, dTup_5, dTup_6, dTup_7, dTup_8, assLt_0, decide_true, sPar, sON, sFN, sF, sV, sO, sVL, sOL, viewL, Sl.seeL, sApp, sPutK, sPopK, owL, owK, vaOf, vaAt, sFrz, bor, mBodyO, outO, sRetO, sCont, sBreak, Option.join_none, Bool.false_eq_true, if_false, List.foldl_cons, List.foldl_nil, oAdd_i, oSub_i, oInt_i, oNeg_i, eq_int, ne_int, ixT0, ixT1, ixT2, ixT3, sAugM, D_imm_i, D_imm_b, bInt_i, bInt_b, bAbs_i, bTuple_L, bLen_l, bLen_t, bLen_scr, bLen_d, D_imm_s, D_imm_n, ltSz, key_i, key_s]
  have two : LsOk l1 ∧ (l1.map (·.1)).Nodup ∧ ∀ y : Int, LsOk (l1 ++ [(("bb" : Str), y)]) ∧ ((l1 ++ [(("bb" : Str), y)]).map (·.1)).Nodup := by
    rcases hl1 with rfl | ⟨x, rfl⟩
    · refine ⟨⟨(fun p hp => nomatch hp), by simp⟩, by simp, fun y => ⟨⟨fun p hp => ?_, by simp⟩, by simp⟩⟩
      obtain rfl := List.mem_singleton.mp hp
      exact sb
    · refine ⟨⟨fun p hp => ?_, by simp⟩, by simp, fun y => ⟨⟨fun p hp => ?_, by simp⟩, ?_⟩⟩
      · obtain rfl := List.mem_singleton.mp hp
        exact sa
      · simp only [List.cons_append, List.nil_append, List.mem_cons, List.not_mem_nil, or_false] at hp
        rcases hp with rfl | rfl
        · exact sa
        · exact sb
      · simp [ab]
  have l1l : l1.length ≤ 1 := by rcases hl1 with rfl | ⟨x, rfl⟩ <;> simp
  refine Gv.mono (P := fun f S' => ∃ l2 : List (Str × Int), LsOk l2 ∧ (l2.map (·.1)).Nodup ∧ f = .nx [.va (.obj 1), .va (.int key), .va (.int n), .ow (.lst (l2.map eL))] ∧ HqOk S' ∧ Frm S S') ?_ ?_
  · by_cases c2 : k2 = 0
    · simp only [c2, mVar, mC, mOp, mUn, mCall, mCons, mNil, mIf, mAnd, mOr, mNot, mB, mTV, mAndV, mOrV, mNotV, mChain, asB, mIter, mItems, mValues, mIterA, mCut, mSome, mNone, pInt, mCallG, mCallK, sel, M.ret_bnd, M.opt_some, M.ass_t, M.bnd_bnd, M.stk_bnd, view, Sl.see, List.map_cons, List.map_nil, List.getElem?_cons_zero, List.getElem?_cons_succ, Option.join_some, List.set_cons_zero, List.set_cons_succ, sSeq, sRet, sN, sIf, sAsg, sDrop, sNext, sUnp, sFor, sRetN, mBody, outV, startEn, List.length_cons, List.length_nil, List.replicate_succ, List.replicate_zero, List.cons_append, List.nil_append, M.calm_ret, tgN, tgTup, tgCons, tgNil, gvN, gvTup, gvCons, gvNil, wipeN, Option.toList_some, List.append_nil, if_true, Bool.not_true, Bool.not_false, Option.bind_some, items, itemsI, itemsV, Gv_bnd, Gv_ret, Gv_calm, dLst_0, dLst_1, dLst_2, dLst_3, dLst_4, dLst_5, dLst_6, dLst_7, dLst_8, dLst_9, dLst_10, dLst_11, dLst_12, dTup_0, dTup_1, dTup_2, dTup_3, dTup_4, dTup_5, dTup_6, dTup_7, dTup_8, assLt_0, decide_true, sPar, sON, sFN, sF, sV, sO, sVL, sOL, viewL, Sl.seeL, sApp, sPutK, sPopK, owL, owK, vaOf, vaAt, sFrz, bor, mBodyO, outO, sRetO, sCont, sBreak, Option.join_none, Bool.false_eq_true, if_false, List.foldl_cons, List.foldl_nil, oAdd_i, oSub_i, oInt_i, oNeg_i, eq_int, ne_int, ixT0, ixT1, ixT2, ixT3, sAugM, D_imm_i, D_imm_b, bInt_i, bInt_b, bAbs_i, bTuple_L, bLen_l, bLen_t, bLen_scr, bLen_d, D_imm_s, D_imm_n, ltSz, key_i, key_s]
      refine draw_g h3 (by decide) (by decide) fun x S4 x0 x1 h4 f4 => ?_
      try simp only [mVar, mC, mOp, mUn, mCall, mCons, mNil, mIf, mAnd, mOr, mNot, mB, mTV, mAndV, mOrV, mNotV, mChain, asB, mIter, mItems, mValues, mIterA, mCut, mSome, mNone, pInt, mCallG, mCallK, sel, M.ret_bnd, M.opt_some, M.ass_t, M.bnd_bnd, M.stk_bnd, view, Sl.see, List.map_cons, List.map_nil, List.getElem?_cons_zero, List.getElem?_cons_succ, Option.join_some, List.set_cons_zero, List.set_cons_succ, sSeq, sRet, sN, sIf, sAsg, sDrop, sNext, sUnp, sFor, sRetN, mBody, outV, startEn, List.length_cons, List.length_nil, List.replicate_succ, List.replicate_zero, List.cons_append, List.nil_append, M.calm_ret, tgN, tgTup, tgCons, tgNil, gvN, gvTup, gvCons, gvNil, wipeN, Option.toList_some, List.append_nil, if_true, Bool.not_true, Bool.not_false, Option.bind_some, items, itemsI, itemsV, Gv_bnd, Gv_ret, Gv_calm, dLst_0, dLst_1, dLst_2, dLst_3, dLst_4, dLst_5, dLst_6, dLst_7, dLst_8, dLst_9, dLst_10, dLst_11, dLst_12, dTup_0, dTup_1, dTup_2, dTup_3, dTup_4, dTup_5, dTup_6, dTup_7, dTup_8, assLt_0, decide_true, sPar, sON, sFN, sF, sV, sO, sVL, sOL, viewL, Sl.seeL, sApp, sPutK, sPopK, owL, owK, vaOf, vaAt, sFrz, bor, mBodyO, outO, sRetO, sCont, sBreak, Option.join_none, Bool.false_eq_true, if_false, List.foldl_cons, List.foldl_nil, oAdd_i, oSub_i, oInt_i, oNeg_i, eq_int, ne_int, ixT0, ixT1, ixT2, ixT3, sAugM, D_imm_i, D_imm_b, bInt_i, bInt_b, bAbs_i, bTuple_L, bLen_l, bLen_t, bLen_scr, bLen_d, D_imm_s, D_imm_n, ltSz, key_i, key_s]
      refine Gv.assLt (by simp; omega) ?_
      refine ⟨l1 ++ [(("bb" : Str), x)], (two.2.2 x).1, (two.2.2 x).2, ?_, h4, f2.trans (f3.trans f4)⟩
      rw [List.map_append]; rfl
    · simp only [c2, decide_false, mVar, mC, mOp, mUn, mCall, mCons, mNil, mIf, mAnd, mOr, mNot, mB, mTV, mAndV, mOrV, mNotV, mChain, asB, mIter, mItems, mValues, mIterA, mCut, mSome, mNone, pInt, mCallG, mCallK, sel, M.ret_bnd, M.opt_some, M.ass_t, M.bnd_bnd, M.stk_bnd, view, Sl.see, List.map_cons, List.map_nil, List.getElem?_cons_zero, List.getElem?_cons_succ, Option.join_some, List.set_cons_zero, List.set_cons_succ, sSeq, sRet, sN, sIf, sAsg, sDrop, sNext, sUnp, sFor, sRetN, mBody, outV, startEn, List.length_cons, List.length_nil, List.replicate_succ, List.replicate_zero, List.cons_append, List.nil_append, M.calm_ret, tgN, tgTup, tgCons, tgNil, gvN, gvTup, gvCons, gvNil, wipeN, Option.toList_some, List.append_nil, if_true, Bool.not_true, Bool.not_false, Option.bind_some, items, itemsI, itemsV, Gv_bnd, Gv_ret, Gv_calm, dLst_0, dLst_1, dLst_2, dLst_3, dLst_4, dLst_5, dLst_6, dLst_7, dLst_8, dLst_9, dLst_10, dLst_11, dLst_12, dTup_0, dTup_1, dTup_2, dTup_3, dTup_4, dTup_5, dTup_6, dTup_7, dTup_8, assLt_0, decide_true, sPar, sON, sFN, sF, sV, sO, sVL, sOL, viewL, Sl.seeL, sApp, sPutK, sPopK, owL, owK, vaOf, vaAt, sFrz, bor, mBodyO, outO, sRetO, sCont, sBreak, Option.join_none, Bool.false_eq_true, if_false, List.foldl_cons, List.foldl_nil, oAdd_i, oSub_i, oInt_i, oNeg_i, eq_int, ne_int, ixT0, ixT1, ixT2, ixT3, sAugM, D_imm_i, D_imm_b, bInt_i, bInt_b, bAbs_i, bTuple_L, bLen_l, bLen_t, bLen_scr, bLen_d, D_imm_s, D_imm_n, ltSz, key_i, key_s]
      exact ⟨l1, two.1, two.2.1, rfl, h3, f2.trans f3⟩
  rintro _ S4 ⟨l2, ok, nd, rfl, h4, f4⟩
  simp only [mVar, mC, mOp, mUn, mCall, mCons, mNil, mIf, mAnd, mOr, mNot, mB, mTV, mAndV, mOrV, mNotV, mChain, asB, mIter, mItems, mValues, mIterA, mCut, mSome, mNone, pInt, mCallG, mCallK, sel, M.ret_bnd, M.opt_some, M.ass_t, M.bnd_bnd, M.stk_bnd, view, Sl.see, List.map_cons, List.map_nil, List.getElem?_cons_zero, List.getElem?_cons_succ, Option.join_some, List.set_cons_zero, List.set_cons_succ, sSeq, sRet, sN, sIf, sAsg, sDrop, sNext, sUnp, sFor, sRetN, mBody, outV, startEn, List.length_cons, List.length_nil, List.replicate_succ, List.replicate_zero, List.cons_append, List.nil_append, M.calm_ret, tgN, tgTup, tgCons, tgNil, gvN, gvTup, gvCons, gvNil, wipeN, Option.toList_some, List.append_nil, if_true, Bool.not_true, Bool.not_false, Option.bind_some, items, itemsI, itemsV, Gv_bnd, Gv_ret, Gv_calm, dLst_0, dLst_1, dLst_2, dLst_3, dLst_4, dLst_5, dLst_6, dLst_7, dLst_8, dLst_9, dLst_10, dLst_11, dLst_12, dTup_0, dTup_1, dTup_2, dTup_3, dTup_4, dTup_5, dTup_6, dTup_7, dTup_8, assLt_0, decide_true, sPar, sON, sFN, sF, sV, sO, sVL, sOL, viewL, Sl.seeL, sApp, sPutK, sPopK, owL, owK, vaOf, vaAt, sFrz, bor, mBodyO, outO, sRetO, sCont, sBreak, Option.join_none, Bool.false_eq_true, if_false, List.foldl_cons, List.foldl_nil, oAdd_i, oSub_i, oInt_i, oNeg_i, eq_int, ne_int, ixT0, ixT1, ixT2, ixT3, sAugM, D_imm_i, D_imm_b, bInt_i, bInt_b, bAbs_i, bTuple_L, bLen_l, bLen_t, bLen_scr, bLen_d, D_imm_s, D_imm_n, ltSz, key_i, key_s]
  refine (vector_gv h4 hn0 hn).mono ?_
  rintro d S5 ⟨⟨v, rfl, hv⟩, h5, f5⟩
  have im : (D.tup [.int key, eV v, .tup (l2.map eL)]).imm = true := by
    have e : (D.tup (l2.map eL)).imm = true := by
      simp only [D.imm]
      exact immL_all.mpr fun d hd => by obtain ⟨x, _, rfl⟩ := List.mem_map.mp hd; rfl
    simp only [D.imm, immL, imm_eV, Bool.true_and, Bool.and_true] at e ⊢
    exact e
  try simp only [bTuple_l, mVar, mC, mOp, mUn, mCall, mCons, mNil, mIf, mAnd, mOr, mNot, mB, mTV, mAndV, mOrV, mNotV, mChain, asB, mIter, mItems, mValues, mIterA, mCut, mSome, mNone, pInt, mCallG, mCallK, sel, M.ret_bnd, M.opt_some, M.ass_t, M.bnd_bnd, M.stk_bnd, view, Sl.see, List.map_cons, List.map_nil, List.getElem?_cons_zero, List.getElem?_cons_succ, Option.join_some, List.set_cons_zero, List.set_cons_succ, sSeq, sRet, sN, sIf, sAsg, sDrop, sNext, sUnp, sFor, sRetN, mBody, outV, startEn, List.length_cons, List.length_nil, List.replicate_succ, List.replicate_zero, List.cons_append, List.nil_append, M.calm_ret, tgN, tgTup, tgCons, tgNil, gvN, gvTup, gvCons, gvNil, wipeN, Option.toList_some, List.append_nil, if_true, Bool.not_true, Bool.not_false, Option.bind_some, items, itemsI, itemsV, Gv_bnd, Gv_ret, Gv_calm, dLst_0, dLst_1, dLst_2, dLst_3, dLst_4, dLst_5, dLst_6, dLst_7, dLst_8, dLst_9, dLst_10, dLst_11, dLst_12, dTup_0, dTup_1, dTup_2, dTup_3, dTup_4, dTup_5, dTup_6, dTup_7, dTup_8, assLt_0, decide_true, sPar, sON, sFN, sF, sV, sO, sVL, sOL, viewL, Sl.seeL, sApp, sPutK, sPopK, owL, owK, vaOf, vaAt, sFrz, bor, mBodyO, outO, sRetO, sCont, sBreak, Option.join_none, Bool.false_eq_true, if_false, List.foldl_cons, List.foldl_nil, oAdd_i, oSub_i, oInt_i, oNeg_i, eq_int, ne_int, ixT0, ixT1, ixT2, ixT3, sAugM, D_imm_i, D_imm_b, bInt_i, bInt_b, bAbs_i, bTuple_L, bLen_l, bLen_t, bLen_scr, bLen_d, D_imm_s, D_imm_n, ltSz, key_i, key_s]
  rw [if_pos im]
  try simp only [mVar, mC, mOp, mUn, mCall, mCons, mNil, mIf, mAnd, mOr, mNot, mB, mTV, mAndV, mOrV, mNotV, mChain, asB, mIter, mItems, mValues, mIterA, mCut, mSome, mNone, pInt, mCallG, mCallK, sel, M.ret_bnd, M.opt_some, M.ass_t, M.bnd_bnd, M.stk_bnd, view, Sl.see, List.map_cons, List.map_nil, List.getElem?_cons_zero, List.getElem?_cons_succ, Option.join_some, List.set_cons_zero, List.set_cons_succ, sSeq, sRet, sN, sIf, sAsg, sDrop, sNext, sUnp, sFor, sRetN, mBody, outV, startEn, List.length_cons, List.length_nil, List.replicate_succ, List.replicate_zero, List.cons_append, List.nil_append, M.calm_ret, tgN, tgTup, tgCons, tgNil, gvN, gvTup, gvCons, gvNil, wipeN, Option.toList_some, List.append_nil, if_true, Bool.not_true, Bool.not_false, Option.bind_some, items, itemsI, itemsV, Gv_bnd, Gv_ret, Gv_calm, dLst_0, dLst_1, dLst_2, dLst_3, dLst_4, dLst_5, dLst_6, dLst_7, dLst_8, dLst_9, dLst_10, dLst_11, dLst_12, dTup_0, dTup_1, dTup_2, dTup_3, dTup_4, dTup_5, dTup_6, dTup_7, dTup_8, assLt_0, decide_true, sPar, sON, sFN, sF, sV, sO, sVL, sOL, viewL, Sl.seeL, sApp, sPutK, sPopK, owL, owK, vaOf, vaAt, sFrz, bor, mBodyO, outO, sRetO, sCont, sBreak, Option.join_none, Bool.false_eq_true, if_false, List.foldl_cons, List.foldl_nil, oAdd_i, oSub_i, oInt_i, oNeg_i, eq_int, ne_int, ixT0, ixT1, ixT2, ixT3, sAugM, D_imm_i, D_imm_b, bInt_i, bInt_b, bAbs_i, bTuple_L, bLen_l, bLen_t, bLen_scr, bLen_d, D_imm_s, D_imm_n, ltSz, key_i, key_s]
  exact ⟨⟨⟨key, v, l2⟩, rfl, ⟨hv.len, hv.big, ok, nd, hk⟩, rfl⟩, h5, f4.trans f5⟩
end Fw

namespace Fw
open PySem PySem.Spec PyProof.Rows L2

theorem question_gv {S : Sto} {n m : Int} (h : HqOk S) (hn0 : 0 ≤ n) (hn : n ≤ 1000) (hm0 : 0 < m) (hm : m ≤ 1000) : Gv (m_u_law_question [.obj 1, .int n, .int m]) S fun d S' => (∃ k v q s, d = eQ k v q s ∧ VcOk n.toNat v ∧ 1 ≤ q ∧ q ≤ 2000 ∧ s.ok) ∧ Dr S S' := by
  simp only [m_u_law_question, b_u_law_question, N_u_law_question, mVar, mC, mOp, mUn, mCall, mCons, mNil, mIf, mAnd, mOr, mNot, mB, mTV, mAndV, mOrV, mNotV, mChain, asB, mIter, mItems, mValues, mIterA, mCut, mSome, mNone, pInt, mCallG, mCallK, sel, M.ret_bnd, M.opt_some, M.ass_t, M.bnd_bnd, M.stk_bnd, view, Sl.see, List.map_cons, List.map_nil, List.getElem?_cons_zero, List.getElem?_cons_succ, Option.join_some, List.set_cons_zero, List.set_cons_succ, sSeq, sRet, sN, sIf, sAsg, sDrop, sNext, sUnp, sFor, sRetN, mBody, outV, startEn, List.length_cons, List.length_nil, List.replicate_succ, List.replicate_zero, List.cons_append, List.nil_append, M.calm_ret, tgN, tgTup, tgCons, tgNil, gvN, gvTup, gvCons, gvNil, wipeN, Option.toList_some, List.append_nil, if_true, Bool.not_true, Bool.not_false, Option.bind_some, items, itemsI, itemsV, Gv_bnd, Gv_ret, Gv_calm, dLst_0, dLst_1, dLst_2, dLst_3, dLst_4, dLst_5, dLst_6, dLst_7, dLst_8, dLst_9, dLst_10, dLst_11, dLst_12, dTup_0, dTup_1, dTup_2, dTup_3, dTup_4, dTup_5, dTup_6, dTup_7, dTup_8, assLt_0, decide_true, sPar, sON, sFN, sF, sV, sO, sVL, sOL, viewL, Sl.seeL, sApp, sPutK, sPopK, owL, owK, vaOf, vaAt, sFrz, bor, mBodyO, outO, sRetO, sCont, sBreak, Option.join_none, Bool.false_eq_true, if_false, List.foldl_cons, List.foldl_nil, oAdd_i, oSub_i, oInt_i, oNeg_i, eq_int, ne_int, ixT0, ixT1, ixT2, ixT3, sAugM, D_imm_i, D_imm_b, bInt_i, bInt_b, bAbs_i, bTuple_L, bLen_l, bLen_t, bLen_scr, bLen_d, D_imm_s, D_imm_n, ltSz, key_i, key_s]
  refine pick_g h (by simp) (by simp) fun d S1 hd h1 f1 => ?_
  obtain ⟨w, rfl, w0, w1⟩ : ∃ w : Int, d = .int w ∧ 0 < w ∧ w ≤ 1009 := by
    simp only [List.mem_cons, List.not_mem_nil, or_false] at hd
    rcases hd with rfl | rfl | rfl
    · exact ⟨m, rfl, hm0, by omega⟩
    · exact ⟨m, rfl, hm0, by omega⟩
    · exact ⟨m + 9, rfl, by omega, by omega⟩
  try simp only [mVar, mC, mOp, mUn, mCall, mCons, mNil, mIf, mAnd, mOr, mNot, mB, mTV, mAndV, mOrV, mNotV, mChain, asB, mIter, mItems, mValues, mIterA, mCut, mSome, mNone, pInt, mCallG, mCallK, sel, M.ret_bnd, M.opt_some, M.ass_t, M.bnd_bnd, M.stk_bnd, view, Sl.see, List.map_cons, List.map_nil, List.getElem?_cons_zero, List.getElem?_cons_succ, Option.join_some, List.set_cons_zero, List.set_cons_succ, sSeq, sRet, sN, sIf, sAsg, sDrop, sNext, sUnp, sFor, sRetN, mBody, outV, startEn, List.length_cons, List.length_nil, List.replicate_succ, List.replicate_zero, List.cons_append, List.nil_append, M.calm_ret, tgN, tgTup, tgCons, tgNil, gvN, gvTup, gvCons, gvNil, wipeN, Option.toList_some, List.append_nil, if_true, Bool.not_true, Bool.not_false, Option.bind_some, items, itemsI, itemsV, Gv_bnd, Gv_ret, Gv_calm, dLst_0, dLst_1, dLst_2, dLst_3, dLst_4, dLst_5, dLst_6, dLst_7, dLst_8, dLst_9, dLst_10, dLst_11, dLst_12, dTup_0, dTup_1, dTup_2, dTup_3, dTup_4, dTup_5, dTup_6, dTup_7, dTup_8, assLt_0, decide_true, sPar, sON, sFN, sF, sV, sO, sVL, sOL, viewL, Sl.seeL, sApp, sPutK, sPopK, owL, owK, vaOf, vaAt, sFrz, bor, mBodyO, outO, sRetO, sCont, sBreak, Option.join_none, Bool.false_eq_true, if_false, List.foldl_cons, List.foldl_nil, oAdd_i, oSub_i, oInt_i, oNeg_i, eq_int, ne_int, ixT0, ixT1, ixT2, ixT3, sAugM, D_imm_i, D_imm_b, bInt_i, bInt_b, bAbs_i, bTuple_L, bLen_l, bLen_t, bLen_scr, bLen_d, D_imm_s, D_imm_n, ltSz, key_i, key_s]
  refine draw_g h1 w0 (by omega) fun q S2 q0 q1 h2 f2 => ?_
  try simp only [mVar, mC, mOp, mUn, mCall, mCons, mNil, mIf, mAnd, mOr, mNot, mB, mTV, mAndV, mOrV, mNotV, mChain, asB, mIter, mItems, mValues, mIterA, mCut, mSome, mNone, pInt, mCallG, mCallK, sel, M.ret_bnd, M.opt_some, M.ass_t, M.bnd_bnd, M.stk_bnd, view, Sl.see, List.map_cons, List.map_nil, List.getElem?_cons_zero, List.getElem?_cons_succ, Option.join_some, List.set_cons_zero, List.set_cons_succ, sSeq, sRet, sN, sIf, sAsg, sDrop, sNext, sUnp, sFor, sRetN, mBody, outV, startEn, List.length_cons, List.length_nil, List.replicate_succ, List.replicate_zero, List.cons_append, List.nil_append, M.calm_ret, tgN, tgTup, tgCons, tgNil, gvN, gvTup, gvCons, gvNil, wipeN, Option.toList_some, List.append_nil, if_true, Bool.not_true, Bool.not_false, Option.bind_some, items, itemsI, itemsV, Gv_bnd, Gv_ret, Gv_calm, dLst_0, dLst_1, dLst_2, dLst_3, dLst_4, dLst_5, dLst_6, dLst_7, dLst_8, dLst_9, dLst_10, dLst_11, dLst_12, dTup_0, dTup_1, dTup_2, dTup_3, dTup_4, dTup_5, dTup_6, dTup_7, dTup_8, assLt_0, decide_true, sPar, sON, sFN, sF, sV, sO, sVL, sOL, viewL, Sl.seeL, sApp, sPutK, sPopK, owL, owK, vaOf, vaAt, sFrz, bor, mBodyO, outO, sRetO, sCont, sBreak, Option.join_none, Bool.false_eq_true, if_false, List.foldl_cons, List.foldl_nil, oAdd_i, oSub_i, oInt_i, oNeg_i, eq_int, ne_int, ixT0, ixT1, ixT2, ixT3, sAugM, D_imm_i, D_imm_b, bInt_i, bInt_b, bAbs_i, bTuple_L, bLen_l, bLen_t, bLen_scr, bLen_d, D_imm_s, D_imm_n, ltSz, key_i, key_s]
  refine pick_g h2 (by decide) (by decide) fun d S3 hd h3 f3 => ?_
  obtain ⟨k, rfl⟩ : ∃ k : Kn, d = .str k.s := by
    simp only [List.mem_cons, List.not_mem_nil, or_false] at hd
    rcases hd with rfl | rfl | rfl | rfl
    · exact ⟨.sq, rfl⟩
    · exact ⟨.su, rfl⟩
    · exact ⟨.mo, rfl⟩
    · exact ⟨.un, rfl⟩
  try simp only [mVar, mC, mOp, mUn, mCall, mCons, mNil, mIf, mAnd, mOr, mNot, mB, mTV, mAndV, mOrV, mNotV, mChain, asB, mIter, mItems, mValues, mIterA, mCut, mSome, mNone, pInt, mCallG, mCallK, sel, M.ret_bnd, M.opt_some, M.ass_t, M.bnd_bnd, M.stk_bnd, view, Sl.see, List.map_cons, List.map_nil, List.getElem?_cons_zero, List.getElem?_cons_succ, Option.join_some, List.set_cons_zero, List.set_cons_succ, sSeq, sRet, sN, sIf, sAsg, sDrop, sNext, sUnp, sFor, sRetN, mBody, outV, startEn, List.length_cons, List.length_nil, List.replicate_succ, List.replicate_zero, List.cons_append, List.nil_append, M.calm_ret, tgN, tgTup, tgCons, tgNil, gvN, gvTup, gvCons, gvNil, wipeN, Option.toList_some, List.append_nil, if_true, Bool.not_true, Bool.not_false, Option.bind_some, items, itemsI, itemsV, Gv_bnd, Gv_ret, Gv_calm, dLst_0, dLst_1, dLst_2, dLst_3, dLst_4, dLst_5, dLst_6, dLst_7, dLst_8, dLst_9, dLst_10, dLst_11, dLst_12, dTup_0, dTup_1, dTup_2, dTup_3, dTup_4, dTup_5, dTup_6, dTup_7, dTup_8, assLt_0, decide_true, sPar, sON, sFN, sF, sV, sO, sVL, sOL, viewL, Sl.seeL, sApp, sPutK, sPopK, owL, owK, vaOf, vaAt, sFrz, bor, mBodyO, outO, sRetO, sCont, sBreak, Option.join_none, Bool.false_eq_true, if_false, List.foldl_cons, List.foldl_nil, oAdd_i, oSub_i, oInt_i, oNeg_i, eq_int, ne_int, ixT0, ixT1, ixT2, ixT3, sAugM, D_imm_i, D_imm_b, bInt_i, bInt_b, bAbs_i, bTuple_L, bLen_l, bLen_t, bLen_scr, bLen_d, D_imm_s, D_imm_n, ltSz, key_i, key_s]
  refine (vector_gv h3 hn0 hn).mono ?_
  rintro d S4 ⟨⟨v, rfl, hv⟩, h4, f4⟩
  try simp only [mVar, mC, mOp, mUn, mCall, mCons, mNil, mIf, mAnd, mOr, mNot, mB, mTV, mAndV, mOrV, mNotV, mChain, asB, mIter, mItems, mValues, mIterA, mCut, mSome, mNone, pInt, mCallG, mCallK, sel, M.ret_bnd, M.opt_some, M.ass_t, M.bnd_bnd, M.stk_bnd, view, Sl.see, List.map_cons, List.map_nil, List.getElem?_cons_zero, List.getElem?_cons_succ, Option.join_some, List.set_cons_zero, List.set_cons_succ, sSeq, sRet, sN, sIf, sAsg, sDrop, sNext, sUnp, sFor, sRetN, mBody, outV, startEn, List.length_cons, List.length_nil, List.replicate_succ, List.replicate_zero, List.cons_append, List.nil_append, M.calm_ret, tgN, tgTup, tgCons, tgNil, gvN, gvTup, gvCons, gvNil, wipeN, Option.toList_some, List.append_nil, if_true, Bool.not_true, Bool.not_false, Option.bind_some, items, itemsI, itemsV, Gv_bnd, Gv_ret, Gv_calm, dLst_0, dLst_1, dLst_2, dLst_3, dLst_4, dLst_5, dLst_6, dLst_7, dLst_8, dLst_9, dLst_10, dLst_11, dLst_12, dTup_0, dTup_1, dTup_2, dTup_3, dTup_4, dTup_5, dTup_6, dTup_7, dTup_8, assLt_0, decide_true, sPar, sON, sFN, sF, sV, sO, sVL, sOL, viewL, Sl.seeL, sApp, sPutK, sPopK, owL, owK, vaOf, vaAt, sFrz, bor, mBodyO, outO, sRetO, sCont, sBreak, Option.join_none, Bool.false_eq_true, if_false, List.foldl_cons, List.foldl_nil, oAdd_i, oSub_i, oInt_i, oNeg_i, eq_int, ne_int, ixT0, ixT1, ixT2, ixT3, sAugM, D_imm_i, D_imm_b, bInt_i, bInt_b, bAbs_i, bTuple_L, bLen_l, bLen_t, bLen_scr, bLen_d, D_imm_s, D_imm_n, ltSz, key_i, key_s]
  refine (sieve_gv h4).mono ?_
  rintro d S5 ⟨⟨s, rfl, hs⟩, h5, f5⟩
  try simp only [mVar, mC, mOp, mUn, mCall, mCons, mNil, mIf, mAnd, mOr, mNot, mB, mTV, mAndV, mOrV, mNotV, mChain, asB, mIter, mItems, mValues, mIterA, mCut, mSome, mNone, pInt, mCallG, mCallK, sel, M.ret_bnd, M.opt_some, M.ass_t, M.bnd_bnd, M.stk_bnd, view, Sl.see, List.map_cons, List.map_nil, List.getElem?_cons_zero, List.getElem?_cons_succ, Option.join_some, List.set_cons_zero, List.set_cons_succ, sSeq, sRet, sN, sIf, sAsg, sDrop, sNext, sUnp, sFor, sRetN, mBody, outV, startEn, List.length_cons, List.length_nil, List.replicate_succ, List.replicate_zero, List.cons_append, List.nil_append, M.calm_ret, tgN, tgTup, tgCons, tgNil, gvN, gvTup, gvCons, gvNil, wipeN, Option.toList_some, List.append_nil, if_true, Bool.not_true, Bool.not_false, Option.bind_some, items, itemsI, itemsV, Gv_bnd, Gv_ret, Gv_calm, dLst_0, dLst_1, dLst_2, dLst_3, dLst_4, dLst_5, dLst_6, dLst_7, dLst_8, dLst_9, dLst_10, dLst_11, dLst_12, dTup_0, dTup_1, dTup_2, dTup_3, dTup_4, dTup_5, dTup_6, dTup_7, dTup_8, assLt_0, decide_true, sPar, sON, sFN, sF, sV, sO, sVL, sOL, viewL, Sl.seeL, sApp, sPutK, sPopK, owL, owK, vaOf, vaAt, sFrz, bor, mBodyO, outO, sRetO, sCont, sBreak, Option.join_none, Bool.false_eq_true, if_false, List.foldl_cons, List.foldl_nil, oAdd_i, oSub_i, oInt_i, oNeg_i, eq_int, ne_int, ixT0, ixT1, ixT2, ixT3, sAugM, D_imm_i, D_imm_b, bInt_i, bInt_b, bAbs_i, bTuple_L, bLen_l, bLen_t, bLen_scr, bLen_d, D_imm_s, D_imm_n, ltSz, key_i, key_s]
  exact ⟨⟨k, v, _, s, rfl, hv, by omega, by omega, hs⟩, h5, f1.trans (f2.trans (f3.trans (f4.trans f5)))⟩
theorem ndlen : ∀ {a b : List Int}, a.Nodup → (∀ x ∈ a, x ∈ b) → a.length ≤ b.length
  | [], b, _, _ => Nat.zero_le _
  | x :: a, b, nd, h => by
    have hx : x ∈ b := h x List.mem_cons_self
    have nd' := List.nodup_cons.mp nd
    have ih := ndlen (a := a) (b := b.erase x) nd'.2 fun y hy => by
      have hne : y ≠ x := fun e => nd'.1 (e ▸ hy)
      exact (List.mem_erase_of_ne hne).mpr (h y (List.mem_cons_of_mem _ hy))
    rw [List.length_erase_of_mem hx] at ih
    have := List.length_pos_of_mem hx
    rw [List.length_cons]; omega
/-- a state whose keys are among some -/
structure SkOk (n : Nat) (ks : List Int) (st : St2) : Prop where
  nd : (st.map (·.1)).Nodup
  key : ∀ p ∈ st, p.2.k = p.1
  it : ∀ p ∈ st, ItOk n p.2
  sub : ∀ p ∈ st, p.1 ∈ ks
structure KsOk (ks : List Int) : Prop where
  len : ks.length ≤ 11
  big : ∀ x ∈ ks, x.natAbs ≤ 1000
  pos : 0 < ks.length
  nn : ∀ x ∈ ks, 0 ≤ x
theorem SkOk.st {n : Nat} {ks : List Int} {st : St2} (h : SkOk n ks st) (k : KsOk ks) : StOk n st := ⟨h.nd, h.key, h.it, by
  have := ndlen h.nd (b := ks) fun x hx => by
    obtain ⟨p, hp, rfl⟩ := List.mem_map.mp hx
    exact h.sub p hp
  rw [List.length_map] at this
  exact Nat.le_trans this k.len⟩
theorem start_gv {S : Sto} {n : Int} {ks : List Int} (h : HqOk S) (hn0 : 0 ≤ n) (hn : n ≤ 1000) (hk : KsOk ks) (nd : ks.Nodup) : Gv (m_u_law_start [.obj 1, .lst (ks.map .int), .int n]) S fun d S' => (∃ st, d = eSt st ∧ SkOk n.toNat ks st) ∧ Dr S S' := by
  simp only [m_u_law_start, b_u_law_start, N_u_law_start, mVar, mC, mOp, mUn, mCall, mCons, mNil, mIf, mAnd, mOr, mNot, mB, mTV, mAndV, mOrV, mNotV, mChain, asB, mIter, mItems, mValues, mIterA, mCut, mSome, mNone, pInt, mCallG, mCallK, sel, M.ret_bnd, M.opt_some, M.ass_t, M.bnd_bnd, M.stk_bnd, view, Sl.see, List.map_cons, List.map_nil, List.getElem?_cons_zero, List.getElem?_cons_succ, Option.join_some, List.set_cons_zero, List.set_cons_succ, sSeq, sRet, sN, sIf, sAsg, sDrop, sNext, sUnp, sFor, sRetN, mBody, outV, startEn, List.length_cons, List.length_nil, List.replicate_succ, List.replicate_zero, List.cons_append, List.nil_append, M.calm_ret, tgN, tgTup, tgCons, tgNil, gvN, gvTup, gvCons, gvNil, wipeN, Option.toList_some, List.append_nil, if_true, Bool.not_true, Bool.not_false, Option.bind_some, items, itemsI, itemsV, Gv_bnd, Gv_ret, Gv_calm, dLst_0, dLst_1, dLst_2, dLst_3, dLst_4, dLst_5, dLst_6, dLst_7, dLst_8, dLst_9, dLst_10, dLst_11, dLst_12, dTup_0, dTup_1, dTup_2, dTup_3, dTup_4, dTup_5, dTup_6, dTup_7, dTup_8, assLt_0, decide_true, sPar, sON, sFN, sF, sV, sO, sVL, sOL, viewL, Sl.seeL, sApp, sPutK, sPopK, owL, owK, vaOf, vaAt, sFrz, bor, mBodyO, outO, sRetO, sCont, sBreak, Option.join_none, Bool.false_eq_true, if_false, List.foldl_cons, List.foldl_nil, oAdd_i, oSub_i, oInt_i, oNeg_i, eq_int, ne_int, ixT0, ixT1, ixT2, ixT3, sAugM, D_imm_i, D_imm_b, bInt_i, bInt_b, bAbs_i, bTuple_L, bLen_l, bLen_t, bLen_scr, bLen_d, D_imm_s, D_imm_n, ltSz, key_i, key_s]
  refine loop_gv D.int (fun pre en S' => ∃ st x, en = [.va (.obj 1), .va (.lst (ks.map .int)), .va (.int n), .ow (.dic (st.map eK)), x] ∧ SkOk n.toNat pre st ∧ Dr S S') ks ⟨[], .no, rfl, ⟨by simp, (fun p hp => nomatch hp), (fun p hp => nomatch hp), (fun p hp => nomatch hp)⟩, h, .refl S⟩ ?_ ?_
  · rintro pre k post en S1 eq ⟨st, x, rfl, hst, h1, f1⟩
    refine ⟨_, rfl, ?_⟩
    simp only [mVar, mC, mOp, mUn, mCall, mCons, mNil, mIf, mAnd, mOr, mNot, mB, mTV, mAndV, mOrV, mNotV, mChain, asB, mIter, mItems, mValues, mIterA, mCut, mSome, mNone, pInt, mCallG, mCallK, sel, M.ret_bnd, M.opt_some, M.ass_t, M.bnd_bnd, M.stk_bnd, view, Sl.see, List.map_cons, List.map_nil, List.getElem?_cons_zero, List.getElem?_cons_succ, Option.join_some, List.set_cons_zero, List.set_cons_succ, sSeq, sRet, sN, sIf, sAsg, sDrop, sNext, sUnp, sFor, sRetN, mBody, outV, startEn, List.length_cons, List.length_nil, List.replicate_succ, List.replicate_zero, List.cons_append, List.nil_append, M.calm_ret, tgN, tgTup, tgCons, tgNil, gvN, gvTup, gvCons, gvNil, wipeN, Option.toList_some, List.append_nil, if_true, Bool.not_true, Bool.not_false, Option.bind_some, items, itemsI, itemsV, Gv_bnd, Gv_ret, Gv_calm, dLst_0, dLst_1, dLst_2, dLst_3, dLst_4, dLst_5, dLst_6, dLst_7, dLst_8, dLst_9, dLst_10, dLst_11, dLst_12, dTup_0, dTup_1, dTup_2, dTup_3, dTup_4, dTup_5, dTup_6, dTup_7, dTup_8, assLt_0, decide_true, sPar, sON, sFN, sF, sV, sO, sVL, sOL, viewL, Sl.seeL, sApp, sPutK, sPopK, owL, owK, vaOf, vaAt, sFrz, bor, mBodyO, outO, sRetO, sCont, sBreak, Option.join_none, Bool.false_eq_true, if_false, List.foldl_cons, List.foldl_nil, oAdd_i, oSub_i, oInt_i, oNeg_i, eq_int, ne_int, ixT0, ixT1, ixT2, ixT3, sAugM, D_imm_i, D_imm_b, bInt_i, bInt_b, bAbs_i, bTuple_L, bLen_l, bLen_t, bLen_scr, bLen_d, D_imm_s, D_imm_n, ltSz, key_i, key_s]
    refine draw_g h1 (by decide) (by decide) fun i S2 i0 i1 h2 f2 => ?_
    try simp only [mVar, mC, mOp, mUn, mCall, mCons, mNil, mIf, mAnd, mOr, mNot, mB, mTV, mAndV, mOrV, mNotV, mChain, asB, mIter, mItems, mValues, mIterA, mCut, mSome, mNone, pInt, mCallG, mCallK, sel, M.ret_bnd, M.opt_some, M.ass_t, M.bnd_bnd, M.stk_bnd, view, Sl.see, List.map_cons, List.map_nil, List.getElem?_cons_zero, List.getElem?_cons_succ, Option.join_some, List.set_cons_zero, List.set_cons_succ, sSeq, sRet, sN, sIf, sAsg, sDrop, sNext, sUnp, sFor, sRetN, mBody, outV, startEn, List.length_cons, List.length_nil, List.replicate_succ, List.replicate_zero, List.cons_append, List.nil_append, M.calm_ret, tgN, tgTup, tgCons, tgNil, gvN, gvTup, gvCons, gvNil, wipeN, Option.toList_some, List.append_nil, if_true, Bool.not_true, Bool.not_false, Option.bind_some, items, itemsI, itemsV, Gv_bnd, Gv_ret, Gv_calm, dLst_0, dLst_1, dLst_2, dLst_3, dLst_4, dLst_5, dLst_6, dLst_7, dLst_8, dLst_9, dLst_10, dLst_11, dLst_12, dTup_0, dTup_1, dTup_2, dTup_3, dTup_4, dTup_5, dTup_6, dTup_7, dTup_8, assLt_0, decide_true, sPar, sON, sFN, sF, sV, sO, sVL, sOL, viewL, Sl.seeL, sApp, sPutK, sPopK, owL, owK, vaOf, vaAt, sFrz, bor, mBodyO, outO, sRetO, sCont, sBreak, Option.join_none, Bool.false_eq_true, if_false, List.foldl_cons, List.foldl_nil, oAdd_i, oSub_i, oInt_i, oNeg_i, eq_int, ne_int, ixT0, ixT1, ixT2, ixT3, sAugM, D_imm_i, D_imm_b, bInt_i, bInt_b, bAbs_i, bTuple_L, bLen_l, bLen_t, bLen_scr, bLen_d, D_imm_s, D_imm_n, ltSz, key_i, key_s]
    have kin : k ∈ ks := by rw [eq]; simp
    have kpre : k ∉ pre := by
      rw [eq] at nd
      have := (List.nodup_append.mp nd).2.2
      exact fun hkp => this k hkp k List.mem_cons_self rfl
    by_cases c : 0 < i
    · simp only [c, mVar, mC, mOp, mUn, mCall, mCons, mNil, mIf, mAnd, mOr, mNot, mB, mTV, mAndV, mOrV, mNotV, mChain, asB, mIter, mItems, mValues, mIterA, mCut, mSome, mNone, pInt, mCallG, mCallK, sel, M.ret_bnd, M.opt_some, M.ass_t, M.bnd_bnd, M.stk_bnd, view, Sl.see, List.map_cons, List.map_nil, List.getElem?_cons_zero, List.getElem?_cons_succ, Option.join_some, List.set_cons_zero, List.set_cons_succ, sSeq, sRet, sN, sIf, sAsg, sDrop, sNext, sUnp, sFor, sRetN, mBody, outV, startEn, List.length_cons, List.length_nil, List.replicate_succ, List.replicate_zero, List.cons_append, List.nil_append, M.calm_ret, tgN, tgTup, tgCons, tgNil, gvN, gvTup, gvCons, gvNil, wipeN, Option.toList_some, List.append_nil, if_true, Bool.not_true, Bool.not_false, Option.bind_some, items, itemsI, itemsV, Gv_bnd, Gv_ret, Gv_calm, dLst_0, dLst_1, dLst_2, dLst_3, dLst_4, dLst_5, dLst_6, dLst_7, dLst_8, dLst_9, dLst_10, dLst_11, dLst_12, dTup_0, dTup_1, dTup_2, dTup_3, dTup_4, dTup_5, dTup_6, dTup_7, dTup_8, assLt_0, decide_true, sPar, sON, sFN, sF, sV, sO, sVL, sOL, viewL, Sl.seeL, sApp, sPutK, sPopK, owL, owK, vaOf, vaAt, sFrz, bor, mBodyO, outO, sRetO, sCont, sBreak, Option.join_none, Bool.false_eq_true, if_false, List.foldl_cons, List.foldl_nil, oAdd_i, oSub_i, oInt_i, oNeg_i, eq_int, ne_int, ixT0, ixT1, ixT2, ixT3, sAugM, D_imm_i, D_imm_b, bInt_i, bInt_b, bAbs_i, bTuple_L, bLen_l, bLen_t, bLen_scr, bLen_d, D_imm_s, D_imm_n, ltSz, key_i, key_s]
      refine (item_gv h2 hn0 hn (hk.big k kin)).mono ?_
      rintro d S3 ⟨⟨it, rfl, hit, ek⟩, h3, f3⟩
      try simp only [mVar, mC, mOp, mUn, mCall, mCons, mNil, mIf, mAnd, mOr, mNot, mB, mTV, mAndV, mOrV, mNotV, mChain, asB, mIter, mItems, mValues, mIterA, mCut, mSome, mNone, pInt, mCallG, mCallK, sel, M.ret_bnd, M.opt_some, M.ass_t, M.bnd_bnd, M.stk_bnd, view, Sl.see, List.map_cons, List.map_nil, List.getElem?_cons_zero, List.getElem?_cons_succ, Option.join_some, List.set_cons_zero, List.set_cons_succ, sSeq, sRet, sN, sIf, sAsg, sDrop, sNext, sUnp, sFor, sRetN, mBody, outV, startEn, List.length_cons, List.length_nil, List.replicate_succ, List.replicate_zero, List.cons_append, List.nil_append, M.calm_ret, tgN, tgTup, tgCons, tgNil, gvN, gvTup, gvCons, gvNil, wipeN, Option.toList_some, List.append_nil, if_true, Bool.not_true, Bool.not_false, Option.bind_some, items, itemsI, itemsV, Gv_bnd, Gv_ret, Gv_calm, dLst_0, dLst_1, dLst_2, dLst_3, dLst_4, dLst_5, dLst_6, dLst_7, dLst_8, dLst_9, dLst_10, dLst_11, dLst_12, dTup_0, dTup_1, dTup_2, dTup_3, dTup_4, dTup_5, dTup_6, dTup_7, dTup_8, assLt_0, decide_true, sPar, sON, sFN, sF, sV, sO, sVL, sOL, viewL, Sl.seeL, sApp, sPutK, sPopK, owL, owK, vaOf, vaAt, sFrz, bor, mBodyO, outO, sRetO, sCont, sBreak, Option.join_none, Bool.false_eq_true, if_false, List.foldl_cons, List.foldl_nil, oAdd_i, oSub_i, oInt_i, oNeg_i, eq_int, ne_int, ixT0, ixT1, ixT2, ixT3, sAugM, D_imm_i, D_imm_b, bInt_i, bInt_b, bAbs_i, bTuple_L, bLen_l, bLen_t, bLen_scr, bLen_d, D_imm_s, D_imm_n, ltSz, key_i, key_s]
      have hl : (st.map eK).length ≤ 1000 := by
        rw [List.length_map]
        have hsub : ∀ p ∈ st, p.1 ∈ ks := fun p hp => by rw [eq]; exact List.mem_append_left _ (hst.sub p hp)
        have := (SkOk.st (n := n.toNat) (ks := ks) ⟨hst.nd, hst.key, hst.it, hsub⟩ hk).len
        omega
      refine Gv.assLt hl ?_
      try simp only [mVar, mC, mOp, mUn, mCall, mCons, mNil, mIf, mAnd, mOr, mNot, mB, mTV, mAndV, mOrV, mNotV, mChain, asB, mIter, mItems, mValues, mIterA, mCut, mSome, mNone, pInt, mCallG, mCallK, sel, M.ret_bnd, M.opt_some, M.ass_t, M.bnd_bnd, M.stk_bnd, view, Sl.see, List.map_cons, List.map_nil, List.getElem?_cons_zero, List.getElem?_cons_succ, Option.join_some, List.set_cons_zero, List.set_cons_succ, sSeq, sRet, sN, sIf, sAsg, sDrop, sNext, sUnp, sFor, sRetN, mBody, outV, startEn, List.length_cons, List.length_nil, List.replicate_succ, List.replicate_zero, List.cons_append, List.nil_append, M.calm_ret, tgN, tgTup, tgCons, tgNil, gvN, gvTup, gvCons, gvNil, wipeN, Option.toList_some, List.append_nil, if_true, Bool.not_true, Bool.not_false, Option.bind_some, items, itemsI, itemsV, Gv_bnd, Gv_ret, Gv_calm, dLst_0, dLst_1, dLst_2, dLst_3, dLst_4, dLst_5, dLst_6, dLst_7, dLst_8, dLst_9, dLst_10, dLst_11, dLst_12, dTup_0, dTup_1, dTup_2, dTup_3, dTup_4, dTup_5, dTup_6, dTup_7, dTup_8, assLt_0, decide_true, sPar, sON, sFN, sF, sV, sO, sVL, sOL, viewL, Sl.seeL, sApp, sPutK, sPopK, owL, owK, vaOf, vaAt, sFrz, bor, mBodyO, outO, sRetO, sCont, sBreak, Option.join_none, Bool.false_eq_true, if_false, List.foldl_cons, List.foldl_nil, oAdd_i, oSub_i, oInt_i, oNeg_i, eq_int, ne_int, ixT0, ixT1, ixT2, ixT3, sAugM, D_imm_i, D_imm_b, bInt_i, bInt_b, bAbs_i, bTuple_L, bLen_l, bLen_t, bLen_scr, bLen_d, D_imm_s, D_imm_n, ltSz, key_i, key_s]
      have dp : dput (st.map eK) (.inl k) (eI it) = (st ++ [(k, it)]).map eK := dput_new (p := (k, it)) fun q hq e => kpre ((show q.1 = k from e) ▸ hst.sub q hq)
      refine ⟨st ++ [(k, it)], _, by rw [dp], ⟨?_, ?_, ?_, ?_⟩, h3, f1.trans (f2.trans f3)⟩
      · rw [List.map_append, List.nodup_append]
        refine ⟨hst.nd, by simp, ?_⟩
        intro a ha b hb e
        obtain ⟨p, hp, rfl⟩ := List.mem_map.mp ha
        simp only [List.map_cons, List.map_nil, List.mem_singleton] at hb
        subst hb
        exact kpre (e ▸ hst.sub p hp)
      · intro p hp
        rcases List.mem_append.mp hp with hp | hp
        · exact hst.key p hp
        · obtain rfl := List.mem_singleton.mp hp
          exact ek
      · intro p hp
        rcases List.mem_append.mp hp with hp | hp
        · exact hst.it p hp
        · obtain rfl := List.mem_singleton.mp hp
          exact hit
      · intro p hp
        rcases List.mem_append.mp hp with hp | hp
        · exact List.mem_append_left _ (hst.sub p hp)
        · obtain rfl := List.mem_singleton.mp hp
          simp
    · simp only [c, decide_false, mVar, mC, mOp, mUn, mCall, mCons, mNil, mIf, mAnd, mOr, mNot, mB, mTV, mAndV, mOrV, mNotV, mChain, asB, mIter, mItems, mValues, mIterA, mCut, mSome, mNone, pInt, mCallG, mCallK, sel, M.ret_bnd, M.opt_some, M.ass_t, M.bnd_bnd, M.stk_bnd, view, Sl.see, List.map_cons, List.map_nil, List.getElem?_cons_zero, List.getElem?_cons_succ, Option.join_some, List.set_cons_zero, List.set_cons_succ, sSeq, sRet, sN, sIf, sAsg, sDrop, sNext, sUnp, sFor, sRetN, mBody, outV, startEn, List.length_cons, List.length_nil, List.replicate_succ, List.replicate_zero, List.cons_append, List.nil_append, M.calm_ret, tgN, tgTup, tgCons, tgNil, gvN, gvTup, gvCons, gvNil, wipeN, Option.toList_some, List.append_nil, if_true, Bool.not_true, Bool.not_false, Option.bind_some, items, itemsI, itemsV, Gv_bnd, Gv_ret, Gv_calm, dLst_0, dLst_1, dLst_2, dLst_3, dLst_4, dLst_5, dLst_6, dLst_7, dLst_8, dLst_9, dLst_10, dLst_11, dLst_12, dTup_0, dTup_1, dTup_2, dTup_3, dTup_4, dTup_5, dTup_6, dTup_7, dTup_8, assLt_0, decide_true, sPar, sON, sFN, sF, sV, sO, sVL, sOL, viewL, Sl.seeL, sApp, sPutK, sPopK, owL, owK, vaOf, vaAt, sFrz, bor, mBodyO, outO, sRetO, sCont, sBreak, Option.join_none, Bool.false_eq_true, if_false, List.foldl_cons, List.foldl_nil, oAdd_i, oSub_i, oInt_i, oNeg_i, eq_int, ne_int, ixT0, ixT1, ixT2, ixT3, sAugM, D_imm_i, D_imm_b, bInt_i, bInt_b, bAbs_i, bTuple_L, bLen_l, bLen_t, bLen_scr, bLen_d, D_imm_s, D_imm_n, ltSz, key_i, key_s]
      exact ⟨st, _, rfl, ⟨hst.nd, hst.key, hst.it, fun p hp => List.mem_append_left _ (hst.sub p hp)⟩, h2, f1.trans f2⟩
  · rintro en S1 ⟨st, x, rfl, hst, h1, f1⟩
    simp only [mVar, mC, mOp, mUn, mCall, mCons, mNil, mIf, mAnd, mOr, mNot, mB, mTV, mAndV, mOrV, mNotV, mChain, asB, mIter, mItems, mValues, mIterA, mCut, mSome, mNone, pInt, mCallG, mCallK, sel, M.ret_bnd, M.opt_some, M.ass_t, M.bnd_bnd, M.stk_bnd, view, Sl.see, List.map_cons, List.map_nil, List.getElem?_cons_zero, List.getElem?_cons_succ, Option.join_some, List.set_cons_zero, List.set_cons_succ, sSeq, sRet, sN, sIf, sAsg, sDrop, sNext, sUnp, sFor, sRetN, mBody, outV, startEn, List.length_cons, List.length_nil, List.replicate_succ, List.replicate_zero, List.cons_append, List.nil_append, M.calm_ret, tgN, tgTup, tgCons, tgNil, gvN, gvTup, gvCons, gvNil, wipeN, Option.toList_some, List.append_nil, if_true, Bool.not_true, Bool.not_false, Option.bind_some, items, itemsI, itemsV, Gv_bnd, Gv_ret, Gv_calm, dLst_0, dLst_1, dLst_2, dLst_3, dLst_4, dLst_5, dLst_6, dLst_7, dLst_8, dLst_9, dLst_10, dLst_11, dLst_12, dTup_0, dTup_1, dTup_2, dTup_3, dTup_4, dTup_5, dTup_6, dTup_7, dTup_8, assLt_0, decide_true, sPar, sON, sFN, sF, sV, sO, sVL, sOL, viewL, Sl.seeL, sApp, sPutK, sPopK, owL, owK, vaOf, vaAt, sFrz, bor, mBodyO, outO, sRetO, sCont, sBreak, Option.join_none, Bool.false_eq_true, if_false, List.foldl_cons, List.foldl_nil, oAdd_i, oSub_i, oInt_i, oNeg_i, eq_int, ne_int, ixT0, ixT1, ixT2, ixT3, sAugM, D_imm_i, D_imm_b, bInt_i, bInt_b, bAbs_i, bTuple_L, bLen_l, bLen_t, bLen_scr, bLen_d, D_imm_s, D_imm_n, ltSz, key_i, key_s]
    exact ⟨⟨st, rfl, hst⟩, h1, f1⟩
end Fw

namespace Fw
open PySem PySem.Spec PyProof.Rows L2

theorem look_cases (st : St2) (k : Int) : dlook (st.map fun p => ((Sum.inl p.1 : Key), eI p.2)) (.inl k) = none ∨ ∃ p ∈ st, p.1 = k ∧ dlook (st.map fun p => ((Sum.inl p.1 : Key), eI p.2)) (.inl k) = some (eI p.2) := by
  cases h : dlook (st.map fun p => ((Sum.inl p.1 : Key), eI p.2)) (.inl k) with
  | none => exact .inl rfl
  | some d =>
    right
    unfold dlook at h
    rw [Option.map_eq_some_iff] at h
    obtain ⟨q, h1, h2⟩ := h
    have hp := List.find?_some h1
    obtain ⟨p, hp1, hp2⟩ := List.mem_map.mp (List.mem_of_find?_eq_some h1)
    subst hp2
    exact ⟨p, hp1, Sum.inl.inj (of_decide_eq_true hp), by rw [← h2]⟩
theorem in_st (st : St2) (k : Int) : oIn false (.int k) (eSt st) = M.ret (.bl (dlook (st.map fun p => ((Sum.inl p.1 : Key), eI p.2)) (.inl k)).isSome) := by
  simp only [oIn, eSt, key_i, M.opt_some, M.ret_bnd, Bool.false_bne]
theorem ix_st' (st : St2) (k : Int) : oIx (eSt st) (.int k) = M.opt (dlook (st.map fun p => ((Sum.inl p.1 : Key), eI p.2)) (.inl k)) := by
  simp only [oIx, eSt, key_i, M.opt_some, M.ret_bnd]
theorem deed_gv {S : Sto} {n : Int} {ks : List Int} {st : St2} (h : HqOk S) (hn0 : 0 ≤ n) (hn : n ≤ 1000) (hk : KsOk ks) (hst : SkOk n.toNat ks st) : Gv (m_u_law_deed [.obj 1, eSt st, .lst (ks.map .int), .int n]) S fun d S' => (∃ dd : Dd, d = eD dd ∧ dd.ok n.toNat ∧ dd.key ∈ ks) ∧ Dr S S' := by
  simp only [m_u_law_deed, b_u_law_deed, N_u_law_deed, mVar, mC, mOp, mUn, mCall, mCons, mNil, mIf, mAnd, mOr, mNot, mB, mTV, mAndV, mOrV, mNotV, mChain, asB, mIter, mItems, mValues, mIterA, mCut, mSome, mNone, pInt, mCallG, mCallK, sel, M.ret_bnd, M.opt_some, M.ass_t, M.bnd_bnd, M.stk_bnd, view, Sl.see, List.map_cons, List.map_nil, List.getElem?_cons_zero, List.getElem?_cons_succ, Option.join_some, List.set_cons_zero, List.set_cons_succ, sSeq, sRet, sN, sIf, sAsg, sDrop, sNext, sUnp, sFor, sRetN, mBody, outV, startEn, List.length_cons, List.length_nil, List.replicate_succ, List.replicate_zero, List.cons_append, List.nil_append, M.calm_ret, tgN, tgTup, tgCons, tgNil, gvN, gvTup, gvCons, gvNil, wipeN, Option.toList_some, List.append_nil, if_true, Bool.not_true, Bool.not_false, Option.bind_some, items, itemsI, itemsV, Gv_bnd, Gv_ret, Gv_calm, dLst_0, dLst_1, dLst_2, dLst_3, dLst_4, dLst_5, dLst_6, dLst_7, dLst_8, dLst_9, dLst_10, dLst_11, dLst_12, dTup_0, dTup_1, dTup_2, dTup_3, dTup_4, dTup_5, dTup_6, dTup_7, dTup_8, assLt_0, decide_true, sPar, sON, sFN, sF, sV, sO, sVL, sOL, viewL, Sl.seeL, sApp, sPutK, sPopK, owL, owK, vaOf, vaAt, sFrz, bor, mBodyO, outO, sRetO, sCont, sBreak, Option.join_none, Bool.false_eq_true, if_false, List.foldl_cons, List.foldl_nil, oAdd_i, oSub_i, oInt_i, oNeg_i, eq_int, ne_int, ixT0, ixT1, ixT2, ixT3, sAugM, D_imm_i, D_imm_b, bInt_i, bInt_b, bAbs_i, bTuple_L, bLen_l, bLen_t, bLen_scr, bLen_d, D_imm_s, D_imm_n, ltSz, key_i, key_s]
  refine pick_g h (by rw [List.length_map]; exact hk.pos) (by rw [List.length_map]; have := hk.len; omega) fun d S1 hd h1 f1 => ?_
  obtain ⟨k, hkk, rfl⟩ := List.mem_map.mp hd
  try simp only [mVar, mC, mOp, mUn, mCall, mCons, mNil, mIf, mAnd, mOr, mNot, mB, mTV, mAndV, mOrV, mNotV, mChain, asB, mIter, mItems, mValues, mIterA, mCut, mSome, mNone, pInt, mCallG, mCallK, sel, M.ret_bnd, M.opt_some, M.ass_t, M.bnd_bnd, M.stk_bnd, view, Sl.see, List.map_cons, List.map_nil, List.getElem?_cons_zero, List.getElem?_cons_succ, Option.join_some, List.set_cons_zero, List.set_cons_succ, sSeq, sRet, sN, sIf, sAsg, sDrop, sNext, sUnp, sFor, sRetN, mBody, outV, startEn, List.length_cons, List.length_nil, List.replicate_succ, List.replicate_zero, List.cons_append, List.nil_append, M.calm_ret, tgN, tgTup, tgCons, tgNil, gvN, gvTup, gvCons, gvNil, wipeN, Option.toList_some, List.append_nil, if_true, Bool.not_true, Bool.not_false, Option.bind_some, items, itemsI, itemsV, Gv_bnd, Gv_ret, Gv_calm, dLst_0, dLst_1, dLst_2, dLst_3, dLst_4, dLst_5, dLst_6, dLst_7, dLst_8, dLst_9, dLst_10, dLst_11, dLst_12, dTup_0, dTup_1, dTup_2, dTup_3, dTup_4, dTup_5, dTup_6, dTup_7, dTup_8, assLt_0, decide_true, sPar, sON, sFN, sF, sV, sO, sVL, sOL, viewL, Sl.seeL, sApp, sPutK, sPopK, owL, owK, vaOf, vaAt, sFrz, bor, mBodyO, outO, sRetO, sCont, sBreak, Option.join_none, Bool.false_eq_true, if_false, List.foldl_cons, List.foldl_nil, oAdd_i, oSub_i, oInt_i, oNeg_i, eq_int, ne_int, ixT0, ixT1, ixT2, ixT3, sAugM, D_imm_i, D_imm_b, bInt_i, bInt_b, bAbs_i, bTuple_L, bLen_l, bLen_t, bLen_scr, bLen_d, D_imm_s, D_imm_n, ltSz, key_i, key_s]
  refine draw_g h1 (by decide) (by decide) fun i S2 i0 i1 h2 f2 => ?_
  try simp only [mVar, mC, mOp, mUn, mCall, mCons, mNil, mIf, mAnd, mOr, mNot, mB, mTV, mAndV, mOrV, mNotV, mChain, asB, mIter, mItems, mValues, mIterA, mCut, mSome, mNone, pInt, mCallG, mCallK, sel, M.ret_bnd, M.opt_some, M.ass_t, M.bnd_bnd, M.stk_bnd, view, Sl.see, List.map_cons, List.map_nil, List.getElem?_cons_zero, List.getElem?_cons_succ, Option.join_some, List.set_cons_zero, List.set_cons_succ, sSeq, sRet, sN, sIf, sAsg, sDrop, sNext, sUnp, sFor, sRetN, mBody, outV, startEn, List.length_cons, List.length_nil, List.replicate_succ, List.replicate_zero, List.cons_append, List.nil_append, M.calm_ret, tgN, tgTup, tgCons, tgNil, gvN, gvTup, gvCons, gvNil, wipeN, Option.toList_some, List.append_nil, if_true, Bool.not_true, Bool.not_false, Option.bind_some, items, itemsI, itemsV, Gv_bnd, Gv_ret, Gv_calm, dLst_0, dLst_1, dLst_2, dLst_3, dLst_4, dLst_5, dLst_6, dLst_7, dLst_8, dLst_9, dLst_10, dLst_11, dLst_12, dTup_0, dTup_1, dTup_2, dTup_3, dTup_4, dTup_5, dTup_6, dTup_7, dTup_8, assLt_0, decide_true, sPar, sON, sFN, sF, sV, sO, sVL, sOL, viewL, Sl.seeL, sApp, sPutK, sPopK, owL, owK, vaOf, vaAt, sFrz, bor, mBodyO, outO, sRetO, sCont, sBreak, Option.join_none, Bool.false_eq_true, if_false, List.foldl_cons, List.foldl_nil, oAdd_i, oSub_i, oInt_i, oNeg_i, eq_int, ne_int, ixT0, ixT1, ixT2, ixT3, sAugM, D_imm_i, D_imm_b, bInt_i, bInt_b, bAbs_i, bTuple_L, bLen_l, bLen_t, bLen_scr, bLen_d, D_imm_s, D_imm_n, ltSz, key_i, key_s]
  have f := f1.trans f2
  by_cases c1 : i < 2
  · simp only [c1, mVar, mC, mOp, mUn, mCall, mCons, mNil, mIf, mAnd, mOr, mNot, mB, mTV, mAndV, mOrV, mNotV, mChain, asB, mIter, mItems, mValues, mIterA, mCut, mSome, mNone, pInt, mCallG, mCallK, sel, M.ret_bnd, M.opt_some, M.ass_t, M.bnd_bnd, M.stk_bnd, view, Sl.see, List.map_cons, List.map_nil, List.getElem?_cons_zero, List.getElem?_cons_succ, Option.join_some, List.set_cons_zero, List.set_cons_succ, sSeq, sRet, sN, sIf, sAsg, sDrop, sNext, sUnp, sFor, sRetN, mBody, outV, startEn, List.length_cons, List.length_nil, List.replicate_succ, List.replicate_zero, List.cons_append, List.nil_append, M.calm_ret, tgN, tgTup, tgCons, tgNil, gvN, gvTup, gvCons, gvNil, wipeN, Option.toList_some, List.append_nil, if_true, Bool.not_true, Bool.not_false, Option.bind_some, items, itemsI, itemsV, Gv_bnd, Gv_ret, Gv_calm, dLst_0, dLst_1, dLst_2, dLst_3, dLst_4, dLst_5, dLst_6, dLst_7, dLst_8, dLst_9, dLst_10, dLst_11, dLst_12, dTup_0, dTup_1, dTup_2, dTup_3, dTup_4, dTup_5, dTup_6, dTup_7, dTup_8, assLt_0, decide_true, sPar, sON, sFN, sF, sV, sO, sVL, sOL, viewL, Sl.seeL, sApp, sPutK, sPopK, owL, owK, vaOf, vaAt, sFrz, bor, mBodyO, outO, sRetO, sCont, sBreak, Option.join_none, Bool.false_eq_true, if_false, List.foldl_cons, List.foldl_nil, oAdd_i, oSub_i, oInt_i, oNeg_i, eq_int, ne_int, ixT0, ixT1, ixT2, ixT3, sAugM, D_imm_i, D_imm_b, bInt_i, bInt_b, bAbs_i, bTuple_L, bLen_l, bLen_t, bLen_scr, bLen_d, D_imm_s, D_imm_n, ltSz, key_i, key_s]
    exact ⟨⟨.take k, rfl, hk.big k hkk, hkk⟩, h2, f⟩
  simp only [c1, decide_false, mVar, mC, mOp, mUn, mCall, mCons, mNil, mIf, mAnd, mOr, mNot, mB, mTV, mAndV, mOrV, mNotV, mChain, asB, mIter, mItems, mValues, mIterA, mCut, mSome, mNone, pInt, mCallG, mCallK, sel, M.ret_bnd, M.opt_some, M.ass_t, M.bnd_bnd, M.stk_bnd, view, Sl.see, List.map_cons, List.map_nil, List.getElem?_cons_zero, List.getElem?_cons_succ, Option.join_some, List.set_cons_zero, List.set_cons_succ, sSeq, sRet, sN, sIf, sAsg, sDrop, sNext, sUnp, sFor, sRetN, mBody, outV, startEn, List.length_cons, List.length_nil, List.replicate_succ, List.replicate_zero, List.cons_append, List.nil_append, M.calm_ret, tgN, tgTup, tgCons, tgNil, gvN, gvTup, gvCons, gvNil, wipeN, Option.toList_some, List.append_nil, if_true, Bool.not_true, Bool.not_false, Option.bind_some, items, itemsI, itemsV, Gv_bnd, Gv_ret, Gv_calm, dLst_0, dLst_1, dLst_2, dLst_3, dLst_4, dLst_5, dLst_6, dLst_7, dLst_8, dLst_9, dLst_10, dLst_11, dLst_12, dTup_0, dTup_1, dTup_2, dTup_3, dTup_4, dTup_5, dTup_6, dTup_7, dTup_8, assLt_0, decide_true, sPar, sON, sFN, sF, sV, sO, sVL, sOL, viewL, Sl.seeL, sApp, sPutK, sPopK, owL, owK, vaOf, vaAt, sFrz, bor, mBodyO, outO, sRetO, sCont, sBreak, Option.join_none, Bool.false_eq_true, if_false, List.foldl_cons, List.foldl_nil, oAdd_i, oSub_i, oInt_i, oNeg_i, eq_int, ne_int, ixT0, ixT1, ixT2, ixT3, sAugM, D_imm_i, D_imm_b, bInt_i, bInt_b, bAbs_i, bTuple_L, bLen_l, bLen_t, bLen_scr, bLen_d, D_imm_s, D_imm_n, ltSz, key_i, key_s]
  have last : Gv (M.bnd (m_u_law_item [.obj 1, .int k, .int n]) fun a => M.ret (D.tup [.str "put", a])) S2 fun d S' => (∃ dd : Dd, d = eD dd ∧ dd.ok n.toNat ∧ dd.key ∈ ks) ∧ Dr S S' := by
    refine Gv.bnd ((item_gv h2 hn0 hn (hk.big k hkk)).mono ?_)
    rintro d S3 ⟨⟨it, rfl, hit, ek⟩, h3, f3⟩
    exact ⟨⟨.put it, rfl, hit, by rw [show (Dd.put it).key = it.k from rfl, ek]; exact hkk⟩, h3, f.trans f3⟩
  have lc := look_cases st k
  by_cases c2 : i = 2
  · rcases lc with lc | ⟨p, hp, rfl, lc⟩
    · simp only [c2, in_st, ix_st', lc, Option.isSome_none, Option.isSome_some, decide_false, show ¬ ((2 : Int) = 3) by decide, mVar, mC, mOp, mUn, mCall, mCons, mNil, mIf, mAnd, mOr, mNot, mB, mTV, mAndV, mOrV, mNotV, mChain, asB, mIter, mItems, mValues, mIterA, mCut, mSome, mNone, pInt, mCallG, mCallK, sel, M.ret_bnd, M.opt_some, M.ass_t, M.bnd_bnd, M.stk_bnd, view, Sl.see, List.map_cons, List.map_nil, List.getElem?_cons_zero, List.getElem?_cons_succ, Option.join_some, List.set_cons_zero, List.set_cons_succ, sSeq, sRet, sN, sIf, sAsg, sDrop, sNext, sUnp, sFor, sRetN, mBody, outV, startEn, List.length_cons, List.length_nil, List.replicate_succ, List.replicate_zero, List.cons_append, List.nil_append, M.calm_ret, tgN, tgTup, tgCons, tgNil, gvN, gvTup, gvCons, gvNil, wipeN, Option.toList_some, List.append_nil, if_true, Bool.not_true, Bool.not_false, Option.bind_some, items, itemsI, itemsV, Gv_bnd, Gv_ret, Gv_calm, dLst_0, dLst_1, dLst_2, dLst_3, dLst_4, dLst_5, dLst_6, dLst_7, dLst_8, dLst_9, dLst_10, dLst_11, dLst_12, dTup_0, dTup_1, dTup_2, dTup_3, dTup_4, dTup_5, dTup_6, dTup_7, dTup_8, assLt_0, decide_true, sPar, sON, sFN, sF, sV, sO, sVL, sOL, viewL, Sl.seeL, sApp, sPutK, sPopK, owL, owK, vaOf, vaAt, sFrz, bor, mBodyO, outO, sRetO, sCont, sBreak, Option.join_none, Bool.false_eq_true, if_false, List.foldl_cons, List.foldl_nil, oAdd_i, oSub_i, oInt_i, oNeg_i, eq_int, ne_int, ixT0, ixT1, ixT2, ixT3, sAugM, D_imm_i, D_imm_b, bInt_i, bInt_b, bAbs_i, bTuple_L, bLen_l, bLen_t, bLen_scr, bLen_d, D_imm_s, D_imm_n, ltSz, key_i, key_s]
      have q := last
      simp only [mVar, mC, mOp, mUn, mCall, mCons, mNil, mIf, mAnd, mOr, mNot, mB, mTV, mAndV, mOrV, mNotV, mChain, asB, mIter, mItems, mValues, mIterA, mCut, mSome, mNone, pInt, mCallG, mCallK, sel, M.ret_bnd, M.opt_some, M.ass_t, M.bnd_bnd, M.stk_bnd, view, Sl.see, List.map_cons, List.map_nil, List.getElem?_cons_zero, List.getElem?_cons_succ, Option.join_some, List.set_cons_zero, List.set_cons_succ, sSeq, sRet, sN, sIf, sAsg, sDrop, sNext, sUnp, sFor, sRetN, mBody, outV, startEn, List.length_cons, List.length_nil, List.replicate_succ, List.replicate_zero, List.cons_append, List.nil_append, M.calm_ret, tgN, tgTup, tgCons, tgNil, gvN, gvTup, gvCons, gvNil, wipeN, Option.toList_some, List.append_nil, if_true, Bool.not_true, Bool.not_false, Option.bind_some, items, itemsI, itemsV, Gv_bnd, Gv_ret, Gv_calm, dLst_0, dLst_1, dLst_2, dLst_3, dLst_4, dLst_5, dLst_6, dLst_7, dLst_8, dLst_9, dLst_10, dLst_11, dLst_12, dTup_0, dTup_1, dTup_2, dTup_3, dTup_4, dTup_5, dTup_6, dTup_7, dTup_8, assLt_0, decide_true, sPar, sON, sFN, sF, sV, sO, sVL, sOL, viewL, Sl.seeL, sApp, sPutK, sPopK, owL, owK, vaOf, vaAt, sFrz, bor, mBodyO, outO, sRetO, sCont, sBreak, Option.join_none, Bool.false_eq_true, if_false, List.foldl_cons, List.foldl_nil, oAdd_i, oSub_i, oInt_i, oNeg_i, eq_int, ne_int, ixT0, ixT1, ixT2, ixT3, sAugM, D_imm_i, D_imm_b, bInt_i, bInt_b, bAbs_i, bTuple_L, bLen_l, bLen_t, bLen_scr, bLen_d, D_imm_s, D_imm_n, ltSz, key_i, key_s] at q
      exact q
    · simp only [c2, in_st, ix_st', lc, Option.isSome_some, mVar, mC, mOp, mUn, mCall, mCons, mNil, mIf, mAnd, mOr, mNot, mB, mTV, mAndV, mOrV, mNotV, mChain, asB, mIter, mItems, mValues, mIterA, mCut, mSome, mNone, pInt, mCallG, mCallK, sel, M.ret_bnd, M.opt_some, M.ass_t, M.bnd_bnd, M.stk_bnd, view, Sl.see, List.map_cons, List.map_nil, List.getElem?_cons_zero, List.getElem?_cons_succ, Option.join_some, List.set_cons_zero, List.set_cons_succ, sSeq, sRet, sN, sIf, sAsg, sDrop, sNext, sUnp, sFor, sRetN, mBody, outV, startEn, List.length_cons, List.length_nil, List.replicate_succ, List.replicate_zero, List.cons_append, List.nil_append, M.calm_ret, tgN, tgTup, tgCons, tgNil, gvN, gvTup, gvCons, gvNil, wipeN, Option.toList_some, List.append_nil, if_true, Bool.not_true, Bool.not_false, Option.bind_some, items, itemsI, itemsV, Gv_bnd, Gv_ret, Gv_calm, dLst_0, dLst_1, dLst_2, dLst_3, dLst_4, dLst_5, dLst_6, dLst_7, dLst_8, dLst_9, dLst_10, dLst_11, dLst_12, dTup_0, dTup_1, dTup_2, dTup_3, dTup_4, dTup_5, dTup_6, dTup_7, dTup_8, assLt_0, decide_true, sPar, sON, sFN, sF, sV, sO, sVL, sOL, viewL, Sl.seeL, sApp, sPutK, sPopK, owL, owK, vaOf, vaAt, sFrz, bor, mBodyO, outO, sRetO, sCont, sBreak, Option.join_none, Bool.false_eq_true, if_false, List.foldl_cons, List.foldl_nil, oAdd_i, oSub_i, oInt_i, oNeg_i, eq_int, ne_int, ixT0, ixT1, ixT2, ixT3, sAugM, D_imm_i, D_imm_b, bInt_i, bInt_b, bAbs_i, bTuple_L, bLen_l, bLen_t, bLen_scr, bLen_d, D_imm_s, D_imm_n, ltSz, key_i, key_s]
      have hit := hst.it p hp
      exact ⟨⟨.put p.2, rfl, hit, by rw [show (Dd.put p.2).key = p.2.k from rfl, hst.key p hp]; exact hkk⟩, h2, f⟩
  by_cases c3 : i = 3
  · rcases lc with lc | ⟨p, hp, rfl, lc⟩
    · simp only [c3, in_st, ix_st', lc, Option.isSome_none, Option.isSome_some, decide_false, show ¬ ((3 : Int) = 2) by decide, mVar, mC, mOp, mUn, mCall, mCons, mNil, mIf, mAnd, mOr, mNot, mB, mTV, mAndV, mOrV, mNotV, mChain, asB, mIter, mItems, mValues, mIterA, mCut, mSome, mNone, pInt, mCallG, mCallK, sel, M.ret_bnd, M.opt_some, M.ass_t, M.bnd_bnd, M.stk_bnd, view, Sl.see, List.map_cons, List.map_nil, List.getElem?_cons_zero, List.getElem?_cons_succ, Option.join_some, List.set_cons_zero, List.set_cons_succ, sSeq, sRet, sN, sIf, sAsg, sDrop, sNext, sUnp, sFor, sRetN, mBody, outV, startEn, List.length_cons, List.length_nil, List.replicate_succ, List.replicate_zero, List.cons_append, List.nil_append, M.calm_ret, tgN, tgTup, tgCons, tgNil, gvN, gvTup, gvCons, gvNil, wipeN, Option.toList_some, List.append_nil, if_true, Bool.not_true, Bool.not_false, Option.bind_some, items, itemsI, itemsV, Gv_bnd, Gv_ret, Gv_calm, dLst_0, dLst_1, dLst_2, dLst_3, dLst_4, dLst_5, dLst_6, dLst_7, dLst_8, dLst_9, dLst_10, dLst_11, dLst_12, dTup_0, dTup_1, dTup_2, dTup_3, dTup_4, dTup_5, dTup_6, dTup_7, dTup_8, assLt_0, decide_true, sPar, sON, sFN, sF, sV, sO, sVL, sOL, viewL, Sl.seeL, sApp, sPutK, sPopK, owL, owK, vaOf, vaAt, sFrz, bor, mBodyO, outO, sRetO, sCont, sBreak, Option.join_none, Bool.false_eq_true, if_false, List.foldl_cons, List.foldl_nil, oAdd_i, oSub_i, oInt_i, oNeg_i, eq_int, ne_int, ixT0, ixT1, ixT2, ixT3, sAugM, D_imm_i, D_imm_b, bInt_i, bInt_b, bAbs_i, bTuple_L, bLen_l, bLen_t, bLen_scr, bLen_d, D_imm_s, D_imm_n, ltSz, key_i, key_s]
      have q := last
      simp only [mVar, mC, mOp, mUn, mCall, mCons, mNil, mIf, mAnd, mOr, mNot, mB, mTV, mAndV, mOrV, mNotV, mChain, asB, mIter, mItems, mValues, mIterA, mCut, mSome, mNone, pInt, mCallG, mCallK, sel, M.ret_bnd, M.opt_some, M.ass_t, M.bnd_bnd, M.stk_bnd, view, Sl.see, List.map_cons, List.map_nil, List.getElem?_cons_zero, List.getElem?_cons_succ, Option.join_some, List.set_cons_zero, List.set_cons_succ, sSeq, sRet, sN, sIf, sAsg, sDrop, sNext, sUnp, sFor, sRetN, mBody, outV, startEn, List.length_cons, List.length_nil, List.replicate_succ, List.replicate_zero, List.cons_append, List.nil_append, M.calm_ret, tgN, tgTup, tgCons, tgNil, gvN, gvTup, gvCons, gvNil, wipeN, Option.toList_some, List.append_nil, if_true, Bool.not_true, Bool.not_false, Option.bind_some, items, itemsI, itemsV, Gv_bnd, Gv_ret, Gv_calm, dLst_0, dLst_1, dLst_2, dLst_3, dLst_4, dLst_5, dLst_6, dLst_7, dLst_8, dLst_9, dLst_10, dLst_11, dLst_12, dTup_0, dTup_1, dTup_2, dTup_3, dTup_4, dTup_5, dTup_6, dTup_7, dTup_8, assLt_0, decide_true, sPar, sON, sFN, sF, sV, sO, sVL, sOL, viewL, Sl.seeL, sApp, sPutK, sPopK, owL, owK, vaOf, vaAt, sFrz, bor, mBodyO, outO, sRetO, sCont, sBreak, Option.join_none, Bool.false_eq_true, if_false, List.foldl_cons, List.foldl_nil, oAdd_i, oSub_i, oInt_i, oNeg_i, eq_int, ne_int, ixT0, ixT1, ixT2, ixT3, sAugM, D_imm_i, D_imm_b, bInt_i, bInt_b, bAbs_i, bTuple_L, bLen_l, bLen_t, bLen_scr, bLen_d, D_imm_s, D_imm_n, ltSz, key_i, key_s] at q
      exact q
    · simp only [c3, in_st, ix_st', lc, Option.isSome_some, show ¬ ((3 : Int) = 2) by decide, decide_false, mVar, mC, mOp, mUn, mCall, mCons, mNil, mIf, mAnd, mOr, mNot, mB, mTV, mAndV, mOrV, mNotV, mChain, asB, mIter, mItems, mValues, mIterA, mCut, mSome, mNone, pInt, mCallG, mCallK, sel, M.ret_bnd, M.opt_some, M.ass_t, M.bnd_bnd, M.stk_bnd, view, Sl.see, List.map_cons, List.map_nil, List.getElem?_cons_zero, List.getElem?_cons_succ, Option.join_some, List.set_cons_zero, List.set_cons_succ, sSeq, sRet, sN, sIf, sAsg, sDrop, sNext, sUnp, sFor, sRetN, mBody, outV, startEn, List.length_cons, List.length_nil, List.replicate_succ, List.replicate_zero, List.cons_append, List.nil_append, M.calm_ret, tgN, tgTup, tgCons, tgNil, gvN, gvTup, gvCons, gvNil, wipeN, Option.toList_some, List.append_nil, if_true, Bool.not_true, Bool.not_false, Option.bind_some, items, itemsI, itemsV, Gv_bnd, Gv_ret, Gv_calm, dLst_0, dLst_1, dLst_2, dLst_3, dLst_4, dLst_5, dLst_6, dLst_7, dLst_8, dLst_9, dLst_10, dLst_11, dLst_12, dTup_0, dTup_1, dTup_2, dTup_3, dTup_4, dTup_5, dTup_6, dTup_7, dTup_8, assLt_0, decide_true, sPar, sON, sFN, sF, sV, sO, sVL, sOL, viewL, Sl.seeL, sApp, sPutK, sPopK, owL, owK, vaOf, vaAt, sFrz, bor, mBodyO, outO, sRetO, sCont, sBreak, Option.join_none, Bool.false_eq_true, if_false, List.foldl_cons, List.foldl_nil, oAdd_i, oSub_i, oInt_i, oNeg_i, eq_int, ne_int, ixT0, ixT1, ixT2, ixT3, sAugM, D_imm_i, D_imm_b, bInt_i, bInt_b, bAbs_i, bTuple_L, bLen_l, bLen_t, bLen_scr, bLen_d, D_imm_s, D_imm_n, ltSz, key_i, key_s]
      refine (vector_gv h2 hn0 hn).mono ?_
      rintro d S3 ⟨⟨v, rfl, hv⟩, h3, f3⟩
      have e2 : oIx (eI p.2) (.int 2) = M.ret (eLs p.2.ls) := ix_t2
      have hit := hst.it p hp
      simp only [in_st, ix_st', lc, e2, mVar, mC, mOp, mUn, mCall, mCons, mNil, mIf, mAnd, mOr, mNot, mB, mTV, mAndV, mOrV, mNotV, mChain, asB, mIter, mItems, mValues, mIterA, mCut, mSome, mNone, pInt, mCallG, mCallK, sel, M.ret_bnd, M.opt_some, M.ass_t, M.bnd_bnd, M.stk_bnd, view, Sl.see, List.map_cons, List.map_nil, List.getElem?_cons_zero, List.getElem?_cons_succ, Option.join_some, List.set_cons_zero, List.set_cons_succ, sSeq, sRet, sN, sIf, sAsg, sDrop, sNext, sUnp, sFor, sRetN, mBody, outV, startEn, List.length_cons, List.length_nil, List.replicate_succ, List.replicate_zero, List.cons_append, List.nil_append, M.calm_ret, tgN, tgTup, tgCons, tgNil, gvN, gvTup, gvCons, gvNil, wipeN, Option.toList_some, List.append_nil, if_true, Bool.not_true, Bool.not_false, Option.bind_some, items, itemsI, itemsV, Gv_bnd, Gv_ret, Gv_calm, dLst_0, dLst_1, dLst_2, dLst_3, dLst_4, dLst_5, dLst_6, dLst_7, dLst_8, dLst_9, dLst_10, dLst_11, dLst_12, dTup_0, dTup_1, dTup_2, dTup_3, dTup_4, dTup_5, dTup_6, dTup_7, dTup_8, assLt_0, decide_true, sPar, sON, sFN, sF, sV, sO, sVL, sOL, viewL, Sl.seeL, sApp, sPutK, sPopK, owL, owK, vaOf, vaAt, sFrz, bor, mBodyO, outO, sRetO, sCont, sBreak, Option.join_none, Bool.false_eq_true, if_false, List.foldl_cons, List.foldl_nil, oAdd_i, oSub_i, oInt_i, oNeg_i, eq_int, ne_int, ixT0, ixT1, ixT2, ixT3, sAugM, D_imm_i, D_imm_b, bInt_i, bInt_b, bAbs_i, bTuple_L, bLen_l, bLen_t, bLen_scr, bLen_d, D_imm_s, D_imm_n, ltSz, key_i, key_s]
      exact ⟨⟨.put ⟨p.1, v, p.2.ls⟩, rfl, ⟨hv.len, hv.big, hit.ls, hit.nd, hk.big _ hkk⟩, hkk⟩, h3, f.trans f3⟩
  · simp only [c2, c3, decide_false, mVar, mC, mOp, mUn, mCall, mCons, mNil, mIf, mAnd, mOr, mNot, mB, mTV, mAndV, mOrV, mNotV, mChain, asB, mIter, mItems, mValues, mIterA, mCut, mSome, mNone, pInt, mCallG, mCallK, sel, M.ret_bnd, M.opt_some, M.ass_t, M.bnd_bnd, M.stk_bnd, view, Sl.see, List.map_cons, List.map_nil, List.getElem?_cons_zero, List.getElem?_cons_succ, Option.join_some, List.set_cons_zero, List.set_cons_succ, sSeq, sRet, sN, sIf, sAsg, sDrop, sNext, sUnp, sFor, sRetN, mBody, outV, startEn, List.length_cons, List.length_nil, List.replicate_succ, List.replicate_zero, List.cons_append, List.nil_append, M.calm_ret, tgN, tgTup, tgCons, tgNil, gvN, gvTup, gvCons, gvNil, wipeN, Option.toList_some, List.append_nil, if_true, Bool.not_true, Bool.not_false, Option.bind_some, items, itemsI, itemsV, Gv_bnd, Gv_ret, Gv_calm, dLst_0, dLst_1, dLst_2, dLst_3, dLst_4, dLst_5, dLst_6, dLst_7, dLst_8, dLst_9, dLst_10, dLst_11, dLst_12, dTup_0, dTup_1, dTup_2, dTup_3, dTup_4, dTup_5, dTup_6, dTup_7, dTup_8, assLt_0, decide_true, sPar, sON, sFN, sF, sV, sO, sVL, sOL, viewL, Sl.seeL, sApp, sPutK, sPopK, owL, owK, vaOf, vaAt, sFrz, bor, mBodyO, outO, sRetO, sCont, sBreak, Option.join_none, Bool.false_eq_true, if_false, List.foldl_cons, List.foldl_nil, oAdd_i, oSub_i, oInt_i, oNeg_i, eq_int, ne_int, ixT0, ixT1, ixT2, ixT3, sAugM, D_imm_i, D_imm_b, bInt_i, bInt_b, bAbs_i, bTuple_L, bLen_l, bLen_t, bLen_scr, bLen_d, D_imm_s, D_imm_n, ltSz, key_i, key_s]
    have q := last
    simp only [mVar, mC, mOp, mUn, mCall, mCons, mNil, mIf, mAnd, mOr, mNot, mB, mTV, mAndV, mOrV, mNotV, mChain, asB, mIter, mItems, mValues, mIterA, mCut, mSome, mNone, pInt, mCallG, mCallK, sel, M.ret_bnd, M.opt_some, M.ass_t, M.bnd_bnd, M.stk_bnd, view, Sl.see, List.map_cons, List.map_nil, List.getElem?_cons_zero, List.getElem?_cons_succ, Option.join_some, List.set_cons_zero, List.set_cons_succ, sSeq, sRet, sN, sIf, sAsg, sDrop, sNext, sUnp, sFor, sRetN, mBody, outV, startEn, List.length_cons, List.length_nil, List.replicate_succ, List.replicate_zero, List.cons_append, List.nil_append, M.calm_ret, tgN, tgTup, tgCons, tgNil, gvN, gvTup, gvCons, gvNil, wipeN, Option.toList_some, List.append_nil, if_true, Bool.not_true, Bool.not_false, Option.bind_some, items, itemsI, itemsV, Gv_bnd, Gv_ret, Gv_calm, dLst_0, dLst_1, dLst_2, dLst_3, dLst_4, dLst_5, dLst_6, dLst_7, dLst_8, dLst_9, dLst_10, dLst_11, dLst_12, dTup_0, dTup_1, dTup_2, dTup_3, dTup_4, dTup_5, dTup_6, dTup_7, dTup_8, assLt_0, decide_true, sPar, sON, sFN, sF, sV, sO, sVL, sOL, viewL, Sl.seeL, sApp, sPutK, sPopK, owL, owK, vaOf, vaAt, sFrz, bor, mBodyO, outO, sRetO, sCont, sBreak, Option.join_none, Bool.false_eq_true, if_false, List.foldl_cons, List.foldl_nil, oAdd_i, oSub_i, oInt_i, oNeg_i, eq_int, ne_int, ixT0, ixT1, ixT2, ixT3, sAugM, D_imm_i, D_imm_b, bInt_i, bInt_b, bAbs_i, bTuple_L, bLen_l, bLen_t, bLen_scr, bLen_d, D_imm_s, D_imm_n, ltSz, key_i, key_s] at q
    exact q
end Fw

namespace Fw
open PySem PySem.Spec PyProof.Rows L2

theorem heap_gv {ns : List Int} (h : ns.length ≤ 63) : Gv (m_u_law_heap [.scr ns]) [] fun d S' => d = .obj 1 ∧ HqOk S' ∧ S'.length = 2 := by
  simp only [m_u_law_heap, b_u_law_heap, N_u_law_heap, mVar, mC, mOp, mUn, mCall, mCons, mNil, mIf, mAnd, mOr, mNot, mB, mTV, mAndV, mOrV, mNotV, mChain, asB, mIter, mItems, mValues, mIterA, mCut, mSome, mNone, pInt, mCallG, mCallK, sel, M.ret_bnd, M.opt_some, M.ass_t, M.bnd_bnd, M.stk_bnd, view, Sl.see, List.map_cons, List.map_nil, List.getElem?_cons_zero, List.getElem?_cons_succ, Option.join_some, List.set_cons_zero, List.set_cons_succ, sSeq, sRet, sN, sIf, sAsg, sDrop, sNext, sUnp, sFor, sRetN, mBody, outV, startEn, List.length_cons, List.length_nil, List.replicate_succ, List.replicate_zero, List.cons_append, List.nil_append, M.calm_ret, tgN, tgTup, tgCons, tgNil, gvN, gvTup, gvCons, gvNil, wipeN, Option.toList_some, List.append_nil, if_true, Bool.not_true, Bool.not_false, Option.bind_some, items, itemsI, itemsV, Gv_bnd, Gv_ret, Gv_calm, dLst_0, dLst_1, dLst_2, dLst_3, dLst_4, dLst_5, dLst_6, dLst_7, dLst_8, dLst_9, dLst_10, dLst_11, dLst_12, dTup_0, dTup_1, dTup_2, dTup_3, dTup_4, dTup_5, dTup_6, dTup_7, dTup_8, assLt_0, decide_true, sPar, sON, sFN, sF, sV, sO, sVL, sOL, viewL, Sl.seeL, sApp, sPutK, sPopK, owL, owK, vaOf, vaAt, sFrz, bor, mBodyO, outO, sRetO, sCont, sBreak, Option.join_none, Bool.false_eq_true, if_false, List.foldl_cons, List.foldl_nil, oAdd_i, oSub_i, oInt_i, oNeg_i, eq_int, ne_int, ixT0, ixT1, ixT2, ixT3, sAugM, D_imm_i, D_imm_b, bInt_i, bInt_b, bAbs_i, bTuple_L, bLen_l, bLen_t, bLen_scr, bLen_d, D_imm_s, D_imm_n, ltSz, key_i, key_s]
  have hc : cutD (ns.map .int) none (some 60) = (ns.take 60).map .int := by
    rw [show (60 : Int) = ((60 : Nat) : Int) from rfl, cut_to, List.map_take]
  refine lcp1_gv D.int (ns.take 60) (fun c => .int (2 * (if c < 0 then -c else c) + (if decide (c < 0) = true then 1 else 0))) ?_ (by rw [List.length_take]; omega) ?_ ?_
  · simp only [mVar, mC, mOp, mUn, mCall, mCons, mNil, mIf, mAnd, mOr, mNot, mB, mTV, mAndV, mOrV, mNotV, mChain, asB, mIter, mItems, mValues, mIterA, mCut, mSome, mNone, pInt, mCallG, mCallK, sel, M.ret_bnd, M.opt_some, M.ass_t, M.bnd_bnd, M.stk_bnd, view, Sl.see, List.map_cons, List.map_nil, List.getElem?_cons_zero, List.getElem?_cons_succ, Option.join_some, List.set_cons_zero, List.set_cons_succ, sSeq, sRet, sN, sIf, sAsg, sDrop, sNext, sUnp, sFor, sRetN, mBody, outV, startEn, List.length_cons, List.length_nil, List.replicate_succ, List.replicate_zero, List.cons_append, List.nil_append, M.calm_ret, tgN, tgTup, tgCons, tgNil, gvN, gvTup, gvCons, gvNil, wipeN, Option.toList_some, List.append_nil, if_true, Bool.not_true, Bool.not_false, Option.bind_some, items, itemsI, itemsV, Gv_bnd, Gv_ret, Gv_calm, dLst_0, dLst_1, dLst_2, dLst_3, dLst_4, dLst_5, dLst_6, dLst_7, dLst_8, dLst_9, dLst_10, dLst_11, dLst_12, dTup_0, dTup_1, dTup_2, dTup_3, dTup_4, dTup_5, dTup_6, dTup_7, dTup_8, assLt_0, decide_true, sPar, sON, sFN, sF, sV, sO, sVL, sOL, viewL, Sl.seeL, sApp, sPutK, sPopK, owL, owK, vaOf, vaAt, sFrz, bor, mBodyO, outO, sRetO, sCont, sBreak, Option.join_none, Bool.false_eq_true, if_false, List.foldl_cons, List.foldl_nil, oAdd_i, oSub_i, oInt_i, oNeg_i, eq_int, ne_int, ixT0, ixT1, ixT2, ixT3, sAugM, D_imm_i, D_imm_b, bInt_i, bInt_b, bAbs_i, bTuple_L, bLen_l, bLen_t, bLen_scr, bLen_d, D_imm_s, D_imm_n, ltSz, key_i, key_s, oCut, hc]
  · intro x hx
    refine ⟨_, rfl, ?_⟩
    simp only [mVar, mC, mOp, mUn, mCall, mCons, mNil, mIf, mAnd, mOr, mNot, mB, mTV, mAndV, mOrV, mNotV, mChain, asB, mIter, mItems, mValues, mIterA, mCut, mSome, mNone, pInt, mCallG, mCallK, sel, M.ret_bnd, M.opt_some, M.ass_t, M.bnd_bnd, M.stk_bnd, view, Sl.see, List.map_cons, List.map_nil, List.getElem?_cons_zero, List.getElem?_cons_succ, Option.join_some, List.set_cons_zero, List.set_cons_succ, sSeq, sRet, sN, sIf, sAsg, sDrop, sNext, sUnp, sFor, sRetN, mBody, outV, startEn, List.length_cons, List.length_nil, List.replicate_succ, List.replicate_zero, List.cons_append, List.nil_append, M.calm_ret, tgN, tgTup, tgCons, tgNil, gvN, gvTup, gvCons, gvNil, wipeN, Option.toList_some, List.append_nil, if_true, Bool.not_true, Bool.not_false, Option.bind_some, items, itemsI, itemsV, Gv_bnd, Gv_ret, Gv_calm, dLst_0, dLst_1, dLst_2, dLst_3, dLst_4, dLst_5, dLst_6, dLst_7, dLst_8, dLst_9, dLst_10, dLst_11, dLst_12, dTup_0, dTup_1, dTup_2, dTup_3, dTup_4, dTup_5, dTup_6, dTup_7, dTup_8, assLt_0, decide_true, sPar, sON, sFN, sF, sV, sO, sVL, sOL, viewL, Sl.seeL, sApp, sPutK, sPopK, owL, owK, vaOf, vaAt, sFrz, bor, mBodyO, outO, sRetO, sCont, sBreak, Option.join_none, Bool.false_eq_true, if_false, List.foldl_cons, List.foldl_nil, oAdd_i, oSub_i, oInt_i, oNeg_i, eq_int, ne_int, ixT0, ixT1, ixT2, ixT3, sAugM, D_imm_i, D_imm_b, bInt_i, bInt_b, bAbs_i, bTuple_L, bLen_l, bLen_t, bLen_scr, bLen_d, D_imm_s, D_imm_n, ltSz, key_i, key_s, oMul_l (show (2 : Int).natAbs < 2 ^ 64 by decide)]
  have e : (ns.take 60).map (fun c => D.int (2 * (if c < 0 then -c else c) + (if decide (c < 0) = true then 1 else 0))) = ((ns.take 60).map fun c => (2 * (if c < 0 then -c else c) + (if decide (c < 0) = true then 1 else 0))).map .int := by rw [List.map_map]; rfl
  rw [e]
  have hl : ((ns.take 60).map fun c => (2 * (if c < 0 then -c else c) + (if decide (c < 0) = true then 1 else 0))).length ≤ 60 := by rw [List.length_map, List.length_take]; omega
  generalize (ns.take 60).map (fun c => (2 * (if c < 0 then -c else c) + (if decide (c < 0) = true then 1 else 0))) = cs at hl ⊢
  simp only [immC_ints, mVar, mC, mOp, mUn, mCall, mCons, mNil, mIf, mAnd, mOr, mNot, mB, mTV, mAndV, mOrV, mNotV, mChain, asB, mIter, mItems, mValues, mIterA, mCut, mSome, mNone, pInt, mCallG, mCallK, sel, M.ret_bnd, M.opt_some, M.ass_t, M.bnd_bnd, M.stk_bnd, view, Sl.see, List.map_cons, List.map_nil, List.getElem?_cons_zero, List.getElem?_cons_succ, Option.join_some, List.set_cons_zero, List.set_cons_succ, sSeq, sRet, sN, sIf, sAsg, sDrop, sNext, sUnp, sFor, sRetN, mBody, outV, startEn, List.length_cons, List.length_nil, List.replicate_succ, List.replicate_zero, List.cons_append, List.nil_append, M.calm_ret, tgN, tgTup, tgCons, tgNil, gvN, gvTup, gvCons, gvNil, wipeN, Option.toList_some, List.append_nil, if_true, Bool.not_true, Bool.not_false, Option.bind_some, items, itemsI, itemsV, Gv_bnd, Gv_ret, Gv_calm, dLst_0, dLst_1, dLst_2, dLst_3, dLst_4, dLst_5, dLst_6, dLst_7, dLst_8, dLst_9, dLst_10, dLst_11, dLst_12, dTup_0, dTup_1, dTup_2, dTup_3, dTup_4, dTup_5, dTup_6, dTup_7, dTup_8, assLt_0, decide_true, sPar, sON, sFN, sF, sV, sO, sVL, sOL, viewL, Sl.seeL, sApp, sPutK, sPopK, owL, owK, vaOf, vaAt, sFrz, bor, mBodyO, outO, sRetO, sCont, sBreak, Option.join_none, Bool.false_eq_true, if_false, List.foldl_cons, List.foldl_nil, oAdd_i, oSub_i, oInt_i, oNeg_i, eq_int, ne_int, ixT0, ixT1, ixT2, ixT3, sAugM, D_imm_i, D_imm_b, bInt_i, bInt_b, bAbs_i, bTuple_L, bLen_l, bLen_t, bLen_scr, bLen_d, D_imm_s, D_imm_n, ltSz, key_i, key_s]
  refine loop_gv D.int (fun pre en S' => ∃ (st : Int) (x : Sl), en = [.va (.scr ns), .va (.lst (cs.map .int)), .va (.int st), x] ∧ S' = []) cs ⟨23411, .no, rfl, rfl⟩ ?_ ?_
  · rintro pre c post en S1 eq ⟨st, x, rfl, rfl⟩
    refine ⟨_, rfl, ?_⟩
    simp only [mVar, mC, mOp, mUn, mCall, mCons, mNil, mIf, mAnd, mOr, mNot, mB, mTV, mAndV, mOrV, mNotV, mChain, asB, mIter, mItems, mValues, mIterA, mCut, mSome, mNone, pInt, mCallG, mCallK, sel, M.ret_bnd, M.opt_some, M.ass_t, M.bnd_bnd, M.stk_bnd, view, Sl.see, List.map_cons, List.map_nil, List.getElem?_cons_zero, List.getElem?_cons_succ, Option.join_some, List.set_cons_zero, List.set_cons_succ, sSeq, sRet, sN, sIf, sAsg, sDrop, sNext, sUnp, sFor, sRetN, mBody, outV, startEn, List.length_cons, List.length_nil, List.replicate_succ, List.replicate_zero, List.cons_append, List.nil_append, M.calm_ret, tgN, tgTup, tgCons, tgNil, gvN, gvTup, gvCons, gvNil, wipeN, Option.toList_some, List.append_nil, if_true, Bool.not_true, Bool.not_false, Option.bind_some, items, itemsI, itemsV, Gv_bnd, Gv_ret, Gv_calm, dLst_0, dLst_1, dLst_2, dLst_3, dLst_4, dLst_5, dLst_6, dLst_7, dLst_8, dLst_9, dLst_10, dLst_11, dLst_12, dTup_0, dTup_1, dTup_2, dTup_3, dTup_4, dTup_5, dTup_6, dTup_7, dTup_8, assLt_0, decide_true, sPar, sON, sFN, sF, sV, sO, sVL, sOL, viewL, Sl.seeL, sApp, sPutK, sPopK, owL, owK, vaOf, vaAt, sFrz, bor, mBodyO, outO, sRetO, sCont, sBreak, Option.join_none, Bool.false_eq_true, if_false, List.foldl_cons, List.foldl_nil, oAdd_i, oSub_i, oInt_i, oNeg_i, eq_int, ne_int, ixT0, ixT1, ixT2, ixT3, sAugM, D_imm_i, D_imm_b, bInt_i, bInt_b, bAbs_i, bTuple_L, bLen_l, bLen_t, bLen_scr, bLen_d, D_imm_s, D_imm_n, ltSz, key_i, key_s, oMul_r (show (48271 : Int).natAbs < 2 ^ 64 by decide), oMod_i (show (2147483563 : Int) ≠ 0 by decide), oMod_i (show (2147483647 : Int) ≠ 0 by decide)]
    exact ⟨_, _, rfl, trivial⟩
  · rintro en S1 ⟨st, x, rfl, rfl⟩
    simp only [mVar, mC, mOp, mUn, mCall, mCons, mNil, mIf, mAnd, mOr, mNot, mB, mTV, mAndV, mOrV, mNotV, mChain, asB, mIter, mItems, mValues, mIterA, mCut, mSome, mNone, pInt, mCallG, mCallK, sel, M.ret_bnd, M.opt_some, M.ass_t, M.bnd_bnd, M.stk_bnd, view, Sl.see, List.map_cons, List.map_nil, List.getElem?_cons_zero, List.getElem?_cons_succ, Option.join_some, List.set_cons_zero, List.set_cons_succ, sSeq, sRet, sN, sIf, sAsg, sDrop, sNext, sUnp, sFor, sRetN, mBody, outV, startEn, List.length_cons, List.length_nil, List.replicate_succ, List.replicate_zero, List.cons_append, List.nil_append, M.calm_ret, tgN, tgTup, tgCons, tgNil, gvN, gvTup, gvCons, gvNil, wipeN, Option.toList_some, List.append_nil, if_true, Bool.not_true, Bool.not_false, Option.bind_some, items, itemsI, itemsV, Gv_bnd, Gv_ret, Gv_calm, dLst_0, dLst_1, dLst_2, dLst_3, dLst_4, dLst_5, dLst_6, dLst_7, dLst_8, dLst_9, dLst_10, dLst_11, dLst_12, dTup_0, dTup_1, dTup_2, dTup_3, dTup_4, dTup_5, dTup_6, dTup_7, dTup_8, assLt_0, decide_true, sPar, sON, sFN, sF, sV, sO, sVL, sOL, viewL, Sl.seeL, sApp, sPutK, sPopK, owL, owK, vaOf, vaAt, sFrz, bor, mBodyO, outO, sRetO, sCont, sBreak, Option.join_none, Bool.false_eq_true, if_false, List.foldl_cons, List.foldl_nil, oAdd_i, oSub_i, oInt_i, oNeg_i, eq_int, ne_int, ixT0, ixT1, ixT2, ixT3, sAugM, D_imm_i, D_imm_b, bInt_i, bInt_b, bAbs_i, bTuple_L, bLen_l, bLen_t, bLen_scr, bLen_d, D_imm_s, D_imm_n, ltSz, key_i, key_s, mStore, mUn]
    have ep : oPow (.int 10) (.int 18) = M.ret (.int (10 ^ 18)) := rfl
    refine lcp_gv D.int cs (fun c => decide (10 ^ 18 ≤ c)) .int ?_ (by omega) ?_ ?_
    · simp only [mVar, mC, mOp, mUn, mCall, mCons, mNil, mIf, mAnd, mOr, mNot, mB, mTV, mAndV, mOrV, mNotV, mChain, asB, mIter, mItems, mValues, mIterA, mCut, mSome, mNone, pInt, mCallG, mCallK, sel, M.ret_bnd, M.opt_some, M.ass_t, M.bnd_bnd, M.stk_bnd, view, Sl.see, List.map_cons, List.map_nil, List.getElem?_cons_zero, List.getElem?_cons_succ, Option.join_some, List.set_cons_zero, List.set_cons_succ, sSeq, sRet, sN, sIf, sAsg, sDrop, sNext, sUnp, sFor, sRetN, mBody, outV, startEn, List.length_cons, List.length_nil, List.replicate_succ, List.replicate_zero, List.cons_append, List.nil_append, M.calm_ret, tgN, tgTup, tgCons, tgNil, gvN, gvTup, gvCons, gvNil, wipeN, Option.toList_some, List.append_nil, if_true, Bool.not_true, Bool.not_false, Option.bind_some, items, itemsI, itemsV, Gv_bnd, Gv_ret, Gv_calm, dLst_0, dLst_1, dLst_2, dLst_3, dLst_4, dLst_5, dLst_6, dLst_7, dLst_8, dLst_9, dLst_10, dLst_11, dLst_12, dTup_0, dTup_1, dTup_2, dTup_3, dTup_4, dTup_5, dTup_6, dTup_7, dTup_8, assLt_0, decide_true, sPar, sON, sFN, sF, sV, sO, sVL, sOL, viewL, Sl.seeL, sApp, sPutK, sPopK, owL, owK, vaOf, vaAt, sFrz, bor, mBodyO, outO, sRetO, sCont, sBreak, Option.join_none, Bool.false_eq_true, if_false, List.foldl_cons, List.foldl_nil, oAdd_i, oSub_i, oInt_i, oNeg_i, eq_int, ne_int, ixT0, ixT1, ixT2, ixT3, sAugM, D_imm_i, D_imm_b, bInt_i, bInt_b, bAbs_i, bTuple_L, bLen_l, bLen_t, bLen_scr, bLen_d, D_imm_s, D_imm_n, ltSz, key_i, key_s]
    · intro x hx
      refine ⟨_, rfl, ?_, fun _ => ?_⟩
      · simp only [mVar, mC, mOp, mUn, mCall, mCons, mNil, mIf, mAnd, mOr, mNot, mB, mTV, mAndV, mOrV, mNotV, mChain, asB, mIter, mItems, mValues, mIterA, mCut, mSome, mNone, pInt, mCallG, mCallK, sel, M.ret_bnd, M.opt_some, M.ass_t, M.bnd_bnd, M.stk_bnd, view, Sl.see, List.map_cons, List.map_nil, List.getElem?_cons_zero, List.getElem?_cons_succ, Option.join_some, List.set_cons_zero, List.set_cons_succ, sSeq, sRet, sN, sIf, sAsg, sDrop, sNext, sUnp, sFor, sRetN, mBody, outV, startEn, List.length_cons, List.length_nil, List.replicate_succ, List.replicate_zero, List.cons_append, List.nil_append, M.calm_ret, tgN, tgTup, tgCons, tgNil, gvN, gvTup, gvCons, gvNil, wipeN, Option.toList_some, List.append_nil, if_true, Bool.not_true, Bool.not_false, Option.bind_some, items, itemsI, itemsV, Gv_bnd, Gv_ret, Gv_calm, dLst_0, dLst_1, dLst_2, dLst_3, dLst_4, dLst_5, dLst_6, dLst_7, dLst_8, dLst_9, dLst_10, dLst_11, dLst_12, dTup_0, dTup_1, dTup_2, dTup_3, dTup_4, dTup_5, dTup_6, dTup_7, dTup_8, assLt_0, decide_true, sPar, sON, sFN, sF, sV, sO, sVL, sOL, viewL, Sl.seeL, sApp, sPutK, sPopK, owL, owK, vaOf, vaAt, sFrz, bor, mBodyO, outO, sRetO, sCont, sBreak, Option.join_none, Bool.false_eq_true, if_false, List.foldl_cons, List.foldl_nil, oAdd_i, oSub_i, oInt_i, oNeg_i, eq_int, ne_int, ixT0, ixT1, ixT2, ixT3, sAugM, D_imm_i, D_imm_b, bInt_i, bInt_b, bAbs_i, bTuple_L, bLen_l, bLen_t, bLen_scr, bLen_d, D_imm_s, D_imm_n, ltSz, key_i, key_s, ep]
      · simp only [mVar, mC, mOp, mUn, mCall, mCons, mNil, mIf, mAnd, mOr, mNot, mB, mTV, mAndV, mOrV, mNotV, mChain, asB, mIter, mItems, mValues, mIterA, mCut, mSome, mNone, pInt, mCallG, mCallK, sel, M.ret_bnd, M.opt_some, M.ass_t, M.bnd_bnd, M.stk_bnd, view, Sl.see, List.map_cons, List.map_nil, List.getElem?_cons_zero, List.getElem?_cons_succ, Option.join_some, List.set_cons_zero, List.set_cons_succ, sSeq, sRet, sN, sIf, sAsg, sDrop, sNext, sUnp, sFor, sRetN, mBody, outV, startEn, List.length_cons, List.length_nil, List.replicate_succ, List.replicate_zero, List.cons_append, List.nil_append, M.calm_ret, tgN, tgTup, tgCons, tgNil, gvN, gvTup, gvCons, gvNil, wipeN, Option.toList_some, List.append_nil, if_true, Bool.not_true, Bool.not_false, Option.bind_some, items, itemsI, itemsV, Gv_bnd, Gv_ret, Gv_calm, dLst_0, dLst_1, dLst_2, dLst_3, dLst_4, dLst_5, dLst_6, dLst_7, dLst_8, dLst_9, dLst_10, dLst_11, dLst_12, dTup_0, dTup_1, dTup_2, dTup_3, dTup_4, dTup_5, dTup_6, dTup_7, dTup_8, assLt_0, decide_true, sPar, sON, sFN, sF, sV, sO, sVL, sOL, viewL, Sl.seeL, sApp, sPutK, sPopK, owL, owK, vaOf, vaAt, sFrz, bor, mBodyO, outO, sRetO, sCont, sBreak, Option.join_none, Bool.false_eq_true, if_false, List.foldl_cons, List.foldl_nil, oAdd_i, oSub_i, oInt_i, oNeg_i, eq_int, ne_int, ixT0, ixT1, ixT2, ixT3, sAugM, D_imm_i, D_imm_b, bInt_i, bInt_b, bAbs_i, bTuple_L, bLen_l, bLen_t, bLen_scr, bLen_d, D_imm_s, D_imm_n, ltSz, key_i, key_s]
    have fl : (cs.filter fun c => decide (10 ^ 18 ≤ c)).length ≤ 60 := Nat.le_trans (List.length_filter_le _ _) hl
    generalize cs.filter (fun c => decide (10 ^ 18 ≤ c)) = gs at fl ⊢
    simp only [oRev, ← List.map_reverse, SO.of, immL_ints, mVar, mC, mOp, mUn, mCall, mCons, mNil, mIf, mAnd, mOr, mNot, mB, mTV, mAndV, mOrV, mNotV, mChain, asB, mIter, mItems, mValues, mIterA, mCut, mSome, mNone, pInt, mCallG, mCallK, sel, M.ret_bnd, M.opt_some, M.ass_t, M.bnd_bnd, M.stk_bnd, view, Sl.see, List.map_cons, List.map_nil, List.getElem?_cons_zero, List.getElem?_cons_succ, Option.join_some, List.set_cons_zero, List.set_cons_succ, sSeq, sRet, sN, sIf, sAsg, sDrop, sNext, sUnp, sFor, sRetN, mBody, outV, startEn, List.length_cons, List.length_nil, List.replicate_succ, List.replicate_zero, List.cons_append, List.nil_append, M.calm_ret, tgN, tgTup, tgCons, tgNil, gvN, gvTup, gvCons, gvNil, wipeN, Option.toList_some, List.append_nil, if_true, Bool.not_true, Bool.not_false, Option.bind_some, items, itemsI, itemsV, Gv_bnd, Gv_ret, Gv_calm, dLst_0, dLst_1, dLst_2, dLst_3, dLst_4, dLst_5, dLst_6, dLst_7, dLst_8, dLst_9, dLst_10, dLst_11, dLst_12, dTup_0, dTup_1, dTup_2, dTup_3, dTup_4, dTup_5, dTup_6, dTup_7, dTup_8, assLt_0, decide_true, sPar, sON, sFN, sF, sV, sO, sVL, sOL, viewL, Sl.seeL, sApp, sPutK, sPopK, owL, owK, vaOf, vaAt, sFrz, bor, mBodyO, outO, sRetO, sCont, sBreak, Option.join_none, Bool.false_eq_true, if_false, List.foldl_cons, List.foldl_nil, oAdd_i, oSub_i, oInt_i, oNeg_i, eq_int, ne_int, ixT0, ixT1, ixT2, ixT3, sAugM, D_imm_i, D_imm_b, bInt_i, bInt_b, bAbs_i, bTuple_L, bLen_l, bLen_t, bLen_scr, bLen_d, D_imm_s, D_imm_n, ltSz, key_i, key_s]
    unfold Gv
    simp only [alloc, M.bnd_app, mVar, mC, mOp, mUn, mCall, mCons, mNil, mIf, mAnd, mOr, mNot, mB, mTV, mAndV, mOrV, mNotV, mChain, asB, mIter, mItems, mValues, mIterA, mCut, mSome, mNone, pInt, mCallG, mCallK, sel, M.ret_bnd, M.opt_some, M.ass_t, M.bnd_bnd, M.stk_bnd, view, Sl.see, List.map_cons, List.map_nil, List.getElem?_cons_zero, List.getElem?_cons_succ, Option.join_some, List.set_cons_zero, List.set_cons_succ, sSeq, sRet, sN, sIf, sAsg, sDrop, sNext, sUnp, sFor, sRetN, mBody, outV, startEn, List.length_cons, List.length_nil, List.replicate_succ, List.replicate_zero, List.cons_append, List.nil_append, M.calm_ret, tgN, tgTup, tgCons, tgNil, gvN, gvTup, gvCons, gvNil, wipeN, Option.toList_some, List.append_nil, if_true, Bool.not_true, Bool.not_false, Option.bind_some, items, itemsI, itemsV, Gv_bnd, Gv_ret, Gv_calm, dLst_0, dLst_1, dLst_2, dLst_3, dLst_4, dLst_5, dLst_6, dLst_7, dLst_8, dLst_9, dLst_10, dLst_11, dLst_12, dTup_0, dTup_1, dTup_2, dTup_3, dTup_4, dTup_5, dTup_6, dTup_7, dTup_8, assLt_0, decide_true, sPar, sON, sFN, sF, sV, sO, sVL, sOL, viewL, Sl.seeL, sApp, sPutK, sPopK, owL, owK, vaOf, vaAt, sFrz, bor, mBodyO, outO, sRetO, sCont, sBreak, Option.join_none, Bool.false_eq_true, if_false, List.foldl_cons, List.foldl_nil, oAdd_i, oSub_i, oInt_i, oNeg_i, eq_int, ne_int, ixT0, ixT1, ixT2, ixT3, sAugM, D_imm_i, D_imm_b, bInt_i, bInt_b, bAbs_i, bTuple_L, bLen_l, bLen_t, bLen_scr, bLen_d, D_imm_s, D_imm_n, ltSz, key_i, key_s, SO.of, immL, D.imm, Bool.and_self, M.ret_app]
    refine ⟨trivial, ⟨gs.reverse, st, ⟨rfl, rfl, by rw [List.length_reverse]; exact fl⟩⟩, trivial⟩
end Fw

namespace Fw
open PySem PySem.Spec PyProof.Rows L2

theorem sum_bd {M : Int} : ∀ {l : List Int}, (∀ x ∈ l, 0 ≤ x ∧ x ≤ M) → 0 ≤ l.sum ∧ l.sum ≤ l.length * M
  | [], _ => by simp
  | x :: l, h => by
    have h1 := h x List.mem_cons_self
    have ih := sum_bd (l := l) fun y hy => h y (List.mem_cons_of_mem _ hy)
    rw [List.sum_cons, List.length_cons]
    have e : (((l.length + 1 : Nat) : Int)) * M = (l.length : Int) * M + M := by
      rw [Int.natCast_add, Int.add_mul]; simp
    rw [e]; omega
theorem maxZ_bd {M : Int} (hM : 0 ≤ M) : ∀ {l : List Int}, (∀ x ∈ l, 0 ≤ x ∧ x ≤ M) → 0 ≤ maxZ l ∧ maxZ l ≤ M
  | [], _ => by simp [maxZ]; exact hM
  | x :: l, h => by
    have h1 := h x List.mem_cons_self
    have ih := maxZ_bd hM (l := l) fun y hy => h y (List.mem_cons_of_mem _ hy)
    rw [maxZ_cons h1.1]
    split <;> omega
theorem part_bd (k : Kn) {d : Int} (h : d.natAbs ≤ 40000) : 0 ≤ part k d ∧ part k d ≤ 1600000000 := by
  refine ⟨part_nn k d, ?_⟩
  cases k with
  | sq =>
    show d * d ≤ 1600000000
    have h1 : d.natAbs * d.natAbs ≤ 40000 * 40000 := Nat.mul_le_mul h h
    have h2 : ((d.natAbs * d.natAbs : Nat) : Int) = d * d := Int.natAbs_mul_self
    omega
  | un => show (if d = 0 then (0 : Int) else 1) ≤ _; split <;> omega
  | su => show (if d < 0 then -d else d) ≤ _; split <;> omega
  | mo => show (if d < 0 then -d else d) ≤ _; split <;> omega
theorem dist_bd (k : Kn) {a b : List Int} (hl : a.length ≤ 1000) (ha : ∀ x ∈ a, x.natAbs ≤ 20000) (hb : ∀ x ∈ b, x.natAbs ≤ 20000) : (dist k a b).natAbs < 10 ^ 30 := by
  have hp : ∀ x ∈ (subs a b).map (part k), 0 ≤ x ∧ x ≤ 1600000000 := fun x hx => by
    obtain ⟨d, hd, rfl⟩ := List.mem_map.mp hx
    obtain ⟨p, hp, rfl⟩ := List.mem_map.mp hd
    have h1 := ha p.1 (List.of_mem_zip hp).1
    have h2 := hb p.2 (List.of_mem_zip hp).2
    exact part_bd k (by omega)
  have h1 := sum_bd hp
  have h2 := maxZ_bd (by decide) hp
  have ll : ((subs a b).map (part k)).length ≤ 1000 := by simp [subs]; omega
  unfold dist joined
  generalize (subs a b).map (part k) = l at *
  have : (l.length : Int) * 1600000000 ≤ 1000 * 1600000000 := by omega
  cases k <;> simp only [] <;> omega
def Bg (p : Int × Int) : Prop := p.1.natAbs < 10 ^ 30 ∧ p.2.natAbs < 10 ^ 30
theorem pD_sm {p : Int × Int} (n : Nat) (h : Bg p) : (pD p).sm (n + 1) = true := by
  have h1 := h.1
  have h2 := h.2
  cases n <;> simp only [pD, D.sm, List.length_cons, List.length_nil, List.all_cons, List.all_nil, decide_eq_true h1, decide_eq_true h2, Bool.and_true] <;> rfl
theorem prs_sm {ps : List (Int × Int)} (n : Nat) (h : ∀ p ∈ ps, Bg p) (hl : ps.length ≤ 24) : (D.tup (ps.map pD)).sm (n + 2) = true := by
  simp only [D.sm, List.length_map, decide_eq_true hl, Bool.true_and, List.all_eq_true]
  intro d hd
  obtain ⟨p, hp, rfl⟩ := List.mem_map.mp hd
  exact pD_sm n (h p hp)
theorem prs_plain (ps : List (Int × Int)) : (D.tup (ps.map pD)).plain = true := by
  simp only [D.plain]
  exact plainL_all.mpr fun d hd => by obtain ⟨p, _, rfl⟩ := List.mem_map.mp hd; rfl
theorem news_plain (a b : List (Int × Int)) : (newsZ a b).plain = true := by
  simp only [newsZ, D.plain, plainL]
  have h1 := prs_plain (a.filter fun p => !decide (p ∈ b))
  have h2 := prs_plain (b.filter fun p => !decide (p ∈ a))
  simp only [D.plain] at h1 h2
  rw [h1, h2]; rfl
theorem news_sm {a b : List (Int × Int)} (ha : ∀ p ∈ a, Bg p) (hb : ∀ p ∈ b, Bg p) (la : a.length ≤ 24) (lb : b.length ≤ 24) : (newsZ a b).sm 4 = true := by
  have h1 := prs_sm (ps := a.filter fun p => !decide (p ∈ b)) 1 (fun p hp => ha p ((List.mem_filter.mp hp).1)) (Nat.le_trans (List.length_filter_le _ _) la)
  have h2 := prs_sm (ps := b.filter fun p => !decide (p ∈ a)) 1 (fun p hp => hb p ((List.mem_filter.mp hp).1)) (Nat.le_trans (List.length_filter_le _ _) lb)
  have e : (newsZ a b).sm 4 = (decide (2 ≤ 24) && ((D.tup ((a.filter fun p => !decide (p ∈ b)).map pD)).sm 3 && ((D.tup ((b.filter fun p => !decide (p ∈ a)).map pD)).sm 3 && true))) := rfl
  rw [e, h1, h2]; rfl
theorem due_bg {n : Nat} {st : St2} {k : Kn} {v : List Int} {s : Sv} {r : Int} (h : StOk n st) (hv : VcOk n v) (hn : n ≤ 1000) : (∀ p ∈ dueZ st k v s r, Bg p) ∧ (dueZ st k v s r).length ≤ 11 := by
  refine ⟨fun p hp => ?_, ?_⟩
  · have h1 := (due_perm st k v s r).mem_iff.mp hp
    unfold rawZ at h1
    obtain ⟨q, hq, rfl⟩ := List.mem_map.mp (List.mem_filter.mp h1).1
    have hq := (List.mem_filter.mp hq).1
    have it := h.it q hq
    refine ⟨dist_bd k (by rw [hv.len]; exact hn) hv.big it.big, ?_⟩
    have := it.k
    rw [h.key q hq] at this
    show q.1.natAbs < 10 ^ 30
    omega
  · refine Nat.le_trans (List.length_filter_le _ _) (Nat.le_trans (prs_len st k v s) h.len)
theorem insOf_ev {c m : Str} {n : Nat} {fs : List (Str × D)} {S : Sto} (h : S[n]? = some (.ins c fs)) (hl : fs.lookup m = none) : insOf c m (.obj n) S = .ok () S := by
  simp only [insOf, soOf, M.bnd_bnd, M.ret_bnd, M.bnd_app, sGet, h, M.ret_app, decide_true, M.ass_t, hl, Option.isNone_none, Bool.and_self]
end Fw

namespace Fw
open PySem PySem.Spec PyProof.Rows L2

theorem HqOk.app {S : Sto} (h : HqOk S) (T : Sto) : HqOk (S ++ T) := by
  obtain ⟨cs, st, h⟩ := h
  have l1 : 1 < S.length := (List.getElem?_eq_some_iff.mp h.h1).1
  exact ⟨cs, st, by rw [List.getElem?_append_left l1]; exact h.h1, by rw [List.getElem?_append_left (by omega)]; exact h.h0, h.len⟩
theorem HqOk.set {S : Sto} {n : Nat} {o : SO} (h : HqOk S) (hn : 2 ≤ n) : HqOk (S.set n o) := by
  obtain ⟨cs, st, h⟩ := h
  exact ⟨cs, st, by rw [List.getElem?_set_ne (by omega)]; exact h.h1, by rw [List.getElem?_set_ne (by omega)]; exact h.h0, h.len⟩
theorem HqOk.l2 {S : Sto} (h : HqOk S) : 2 ≤ S.length := by
  obtain ⟨cs, st, h⟩ := h
  exact (List.getElem?_eq_some_iff.mp h.h1).1
theorem done_same {n : Nat} {ks : List Int} {st : St2} (h : SkOk n ks st) (hk : KsOk ks) : doneS st (.take (0 - 1)) = st := by
  unfold doneS
  simp only [List.append_nil]
  refine List.filter_eq_self.mpr fun p hp => ?_
  have := hk.nn _ (h.sub p hp)
  show (!decide (p.1 = 0 - 1)) = true
  simp; omega
theorem SkOk.done {n : Nat} {ks : List Int} {st : St2} {d : Dd} (h : SkOk n ks st) (hd : d.ok n) (hk : d.key ∈ ks) : SkOk n ks (doneS st d) := by
  unfold doneS
  cases d with
  | take x =>
    simp only [List.append_nil]
    exact ⟨h.nd.sublist (List.filter_sublist.map _), fun p hp => h.key p (List.mem_filter.mp hp).1, fun p hp => h.it p (List.mem_filter.mp hp).1, fun p hp => h.sub p (List.mem_filter.mp hp).1⟩
  | put it =>
    refine ⟨?_, ?_, ?_, ?_⟩
    · rw [List.map_append, List.nodup_append]
      refine ⟨h.nd.sublist (List.filter_sublist.map _), by simp, ?_⟩
      intro a ha b hb e
      obtain ⟨p, hp, rfl⟩ := List.mem_map.mp ha
      simp only [List.map_cons, List.map_nil, List.mem_singleton] at hb
      subst hb
      have := (List.mem_filter.mp hp).2
      simp only [Dd.key, e] at this
      simp at this
    all_goals
      intro p hp
      rcases List.mem_append.mp hp with hp | hp
    · exact h.key p (List.mem_filter.mp hp).1
    · obtain rfl := List.mem_singleton.mp hp
      rfl
    · exact h.it p (List.mem_filter.mp hp).1
    · obtain rfl := List.mem_singleton.mp hp
      exact hd
    · exact h.sub p (List.mem_filter.mp hp).1
    · obtain rfl := List.mem_singleton.mp hp
      exact hk
theorem ks_ly (k : Kn) (n : Nat) : (D.str k.s).ly n = true := by
  have h : PyData.strOk k.s = true := by cases k <;> exact strOk_lit _
  cases n <;> exact h
theorem eV_ly (v : List Int) (m : Nat) : (eV v).ly (m + 1) = true := by
  simp only [eV, D.ly, List.all_eq_true]
  intro d hd
  obtain ⟨x, hx, rfl⟩ := List.mem_map.mp hd
  cases m <;> rfl
theorem eS1_ly {a : Sv1} (h : a.ok) (m : Nat) : (eS1 a).ly (m + 2) = true := by
  have w : ∀ (x : String) n, (D.str (Str.ofString x)).ly n = true := fun x n => by cases n <;> exact strOk_lit x
  have s : ∀ (x : Str) n, PyData.strOk x = true → (D.str x).ly n = true := fun x n hx => by cases n <;> exact hx
  have i : ∀ (x : Int) n, (D.int x).ly n = true := fun x n => by cases n <;> rfl
  cases a with
  | all => simp only [eS1, D.ly, List.all_cons, List.all_nil, strOk_lit, Bool.and_self]
  | has x => simp only [eS1, D.ly, List.all_cons, List.all_nil, strOk_lit, show PyData.strOk x = true from h, Bool.and_self]
  | rng x a b => simp only [eS1, D.ly, List.all_cons, List.all_nil, strOk_lit, show PyData.strOk x = true from h, Bool.and_self]
  | noh x => simp only [eS1, D.ly, List.all_cons, List.all_nil, strOk_lit, show PyData.strOk x = true from h, Bool.and_self]
theorem eS_ly {a : Sv} (h : a.ok) (m : Nat) : (eS a).ly (m + 3) = true := by
  have w : ∀ (x : String) n, (D.str (Str.ofString x)).ly n = true := fun x n => by cases n <;> exact strOk_lit x
  cases a with
  | one a => exact eS1_ly h (m + 1)
  | both c a b => cases c <;> simp only [eS, D.ly, List.all_cons, List.all_nil, if_true, if_false, Bool.false_eq_true, strOk_lit, eS1_ly h.1, eS1_ly h.2, Bool.and_self]
end Fw

namespace Fw
open PySem PySem.Spec PyProof.Rows L2

theorem due_repr {n : Nat} {st : St2} {k : Kn} {v : List Int} {s : Sv} {r : Int} (h : StOk n st) (hv : VcOk n v) (hn : n ≤ 1000) : bRepr [.tup ((dueZ st k v s r).map pD)] = M.ret (.str (shw (.tup ((dueZ st k v s r).map pD)))) :=
  repr_sm (prs_sm 2 (due_bg h hv hn).1 (by have := (due_bg (k := k) (s := s) (r := r) h hv hn).2; omega))
theorem news_repr {n : Nat} {st st' : St2} {k : Kn} {v : List Int} {s : Sv} {r : Int} (h : StOk n st) (h' : StOk n st') (hv : VcOk n v) (hn : n ≤ 1000) : bRepr [newsZ (dueZ st k v s r) (dueZ st' k v s r)] = M.ret (.str (shw (newsZ (dueZ st k v s r) (dueZ st' k v s r)))) := by
  have a := due_bg (k := k) (s := s) (r := r) h hv hn
  have b := due_bg (k := k) (s := s) (r := r) h' hv hn
  exact repr_sm (news_sm a.1 b.1 (by omega) (by omega))
theorem kept_g {k : Kn} {v : List Int} {r : Int} {s : Sv} {ps : List (Int × Int)} {n : Nat} {S : Sto} {P : D → Sto → Prop} (h : S[n]? = some (nb k v r s ps)) (q : P (.tup (ps.map pD)) S) : Gv (insOf "Nearby" "kept" (.obj n)) S fun _ S' => Gv (m_uNearby_kept [.obj n]) S' P :=
  Gv.of_eqS (insOf_ev h lk_kept) (Gv.of_eqS (kept_ev h) q)
theorem told_g {k : Kn} {v : List Int} {r : Int} {s : Sv} {n m : Nat} {S : Sto} {ks : List Int} {st : St2} {d : Dd} {P : D → Sto → Prop} (h : S[n]? = some (nb k v r s (dueZ st k v s r))) (hk : KsOk ks) (hst : SkOk m ks st) (hs : s.ok) (hv : VcOk m v) (hm : m ≤ 1000) (hd : d.ok m) (q : P (newsZ (dueZ st k v s r) (dueZ (doneS st d) k v s r)) (S.set n (nb k v r s (dueZ (doneS st d) k v s r)))) :
    Gv (insOf "Nearby" "told" (.obj n)) S fun _ S' => Gv (m_uNearby_told [.obj n, eD d]) S' P := by
  refine Gv.of_eqS (insOf_ev h lk_told) (Gv.of_eqS (told_ev h hs hv hm hd ?_) ?_)
  · have := (due_bg (k := k) (s := s) (r := r) (hst.st hk) hv hm).2
    omega
  · rw [due_done]; exact q
/-- the slots of a run in its loop -/
def runEn (n t : Int) (ks : List Int) (st : St2) (k : Kn) (v : List Int) (q : Int) (s : Sv) (r : Int) (X : Sl) (a : Nat) (st0 : St2) (y z w : Sl) : En :=
  [.va (.obj 1), .va (.int n), .va (.lst (ks.map .int)), .va (.int t), .va (eSt st), .va (eQ k v q s), .va (.str k.s), .va (eV v), .va (.int q), .va (eS s), .va (.int r), X, .va (.obj a), .va (.obj (a + 1)), .va (.tup ((dueZ st k v s r).map pD)), .va (.str (shw (.tup ((dueZ st0 k v s r).map pD)))), y, z, w]
structure RunOk (n : Int) (ks : List Int) (k : Kn) (v : List Int) (s : Sv) (r : Int) (a : Nat) (st0 st : St2) (S : Sto) : Prop where
  hq : HqOk S
  a2 : 2 ≤ a
  sk : SkOk n.toNat ks st
  one : S[a]? = some (nb k v r s (dueZ st k v s r))
  twin : S[a + 1]? = some (nb k v r s (dueZ st0 k v s r))
theorem run1_g {S : Sto} {n t : Int} {ks : List Int} {P : Fl → Sto → Prop} (h : HqOk S) (hn0 : 0 ≤ n) (hn : n ≤ 1000) (hk : KsOk ks) (nd : ks.Nodup)
    (kk : ∀ st k v q s S', SkOk n.toNat ks st → VcOk n.toNat v → s.ok → HqOk S' → P (.nx [.va (.obj 1), .va (.int n), .va (.lst (ks.map .int)), .va (.int t), .va (eSt st), .va (eQ k v q s), .no, .no, .no, .no, .no, .no, .no, .no, .no, .no, .no, .no, .no]) S') :
    Gv (b_u_law_run_1 [.va (.obj 1), .va (.int n), .va (.lst (ks.map .int)), .va (.int t), .no, .no, .no, .no, .no, .no, .no, .no, .no, .no, .no, .no, .no, .no, .no]) S P := by
  try simp only [b_u_law_run_1, mVar, mC, mOp, mUn, mCall, mCons, mNil, mIf, mAnd, mOr, mNot, mB, mTV, mAndV, mOrV, mNotV, mChain, asB, mIter, mItems, mValues, mIterA, mCut, mSome, mNone, pInt, mCallG, mCallK, sel, M.ret_bnd, M.opt_some, M.ass_t, M.bnd_bnd, M.stk_bnd, view, Sl.see, List.map_cons, List.map_nil, List.getElem?_cons_zero, List.getElem?_cons_succ, Option.join_some, List.set_cons_zero, List.set_cons_succ, sRet, sN, sIf, sAsg, sDrop, sNext, sUnp, sFor, sRetN, mBody, outV, startEn, List.length_cons, List.length_nil, List.replicate_succ, List.replicate_zero, List.cons_append, List.nil_append, M.calm_ret, tgN, tgTup, tgCons, tgNil, gvN, gvTup, gvCons, gvNil, wipeN, Option.toList_some, List.append_nil, if_true, Bool.not_true, Bool.not_false, Option.bind_some, items, itemsI, itemsV, Gv_bnd, Gv_ret, Gv_calm, dLst_0, dLst_1, dLst_2, dLst_3, dLst_4, dLst_5, dLst_6, dLst_7, dLst_8, dLst_9, dLst_10, dLst_11, dLst_12, dTup_0, dTup_1, dTup_2, dTup_3, dTup_4, dTup_5, dTup_6, dTup_7, dTup_8, assLt_0, decide_true, sPar, sON, sFN, sF, sV, sO, sVL, sOL, viewL, Sl.seeL, sApp, sPutK, sPopK, owL, owK, vaOf, vaAt, sFrz, bor, mBodyO, outO, sRetO, sCont, sBreak, Option.join_none, Bool.false_eq_true, if_false, List.foldl_cons, List.foldl_nil, oAdd_i, oSub_i, oInt_i, oNeg_i, eq_int, ne_int, ixT0, ixT1, ixT2, ixT3, sAugM, D_imm_i, D_imm_b, bInt_i, bInt_b, bAbs_i, bTuple_L, bLen_l, bLen_t, bLen_scr, bLen_d, D_imm_s, D_imm_n, ltSz, key_i, key_s]
  refine (start_gv h (by omega) (by omega) hk nd).mono ?_
  rintro _ S1 ⟨⟨st, rfl, hst⟩, h1, f1⟩
  try simp only [mVar, mC, mOp, mUn, mCall, mCons, mNil, mIf, mAnd, mOr, mNot, mB, mTV, mAndV, mOrV, mNotV, mChain, asB, mIter, mItems, mValues, mIterA, mCut, mSome, mNone, pInt, mCallG, mCallK, sel, M.ret_bnd, M.opt_some, M.ass_t, M.bnd_bnd, M.stk_bnd, view, Sl.see, List.map_cons, List.map_nil, List.getElem?_cons_zero, List.getElem?_cons_succ, Option.join_some, List.set_cons_zero, List.set_cons_succ, sRet, sN, sIf, sAsg, sDrop, sNext, sUnp, sFor, sRetN, mBody, outV, startEn, List.length_cons, List.length_nil, List.replicate_succ, List.replicate_zero, List.cons_append, List.nil_append, M.calm_ret, tgN, tgTup, tgCons, tgNil, gvN, gvTup, gvCons, gvNil, wipeN, Option.toList_some, List.append_nil, if_true, Bool.not_true, Bool.not_false, Option.bind_some, items, itemsI, itemsV, Gv_bnd, Gv_ret, Gv_calm, dLst_0, dLst_1, dLst_2, dLst_3, dLst_4, dLst_5, dLst_6, dLst_7, dLst_8, dLst_9, dLst_10, dLst_11, dLst_12, dTup_0, dTup_1, dTup_2, dTup_3, dTup_4, dTup_5, dTup_6, dTup_7, dTup_8, assLt_0, decide_true, sPar, sON, sFN, sF, sV, sO, sVL, sOL, viewL, Sl.seeL, sApp, sPutK, sPopK, owL, owK, vaOf, vaAt, sFrz, bor, mBodyO, outO, sRetO, sCont, sBreak, Option.join_none, Bool.false_eq_true, if_false, List.foldl_cons, List.foldl_nil, oAdd_i, oSub_i, oInt_i, oNeg_i, eq_int, ne_int, ixT0, ixT1, ixT2, ixT3, sAugM, D_imm_i, D_imm_b, bInt_i, bInt_b, bAbs_i, bTuple_L, bLen_l, bLen_t, bLen_scr, bLen_d, D_imm_s, D_imm_n, ltSz, key_i, key_s]
  refine (question_gv h1 (by omega) (by omega) (by decide) (by decide)).mono ?_
  rintro _ S2 ⟨⟨k, v, q, s, rfl, hv, q0, q1, hs⟩, h2, f2⟩
  try simp only [mVar, mC, mOp, mUn, mCall, mCons, mNil, mIf, mAnd, mOr, mNot, mB, mTV, mAndV, mOrV, mNotV, mChain, asB, mIter, mItems, mValues, mIterA, mCut, mSome, mNone, pInt, mCallG, mCallK, sel, M.ret_bnd, M.opt_some, M.ass_t, M.bnd_bnd, M.stk_bnd, view, Sl.see, List.map_cons, List.map_nil, List.getElem?_cons_zero, List.getElem?_cons_succ, Option.join_some, List.set_cons_zero, List.set_cons_succ, sRet, sN, sIf, sAsg, sDrop, sNext, sUnp, sFor, sRetN, mBody, outV, startEn, List.length_cons, List.length_nil, List.replicate_succ, List.replicate_zero, List.cons_append, List.nil_append, M.calm_ret, tgN, tgTup, tgCons, tgNil, gvN, gvTup, gvCons, gvNil, wipeN, Option.toList_some, List.append_nil, if_true, Bool.not_true, Bool.not_false, Option.bind_some, items, itemsI, itemsV, Gv_bnd, Gv_ret, Gv_calm, dLst_0, dLst_1, dLst_2, dLst_3, dLst_4, dLst_5, dLst_6, dLst_7, dLst_8, dLst_9, dLst_10, dLst_11, dLst_12, dTup_0, dTup_1, dTup_2, dTup_3, dTup_4, dTup_5, dTup_6, dTup_7, dTup_8, assLt_0, decide_true, sPar, sON, sFN, sF, sV, sO, sVL, sOL, viewL, Sl.seeL, sApp, sPutK, sPopK, owL, owK, vaOf, vaAt, sFrz, bor, mBodyO, outO, sRetO, sCont, sBreak, Option.join_none, Bool.false_eq_true, if_false, List.foldl_cons, List.foldl_nil, oAdd_i, oSub_i, oInt_i, oNeg_i, eq_int, ne_int, ixT0, ixT1, ixT2, ixT3, sAugM, D_imm_i, D_imm_b, bInt_i, bInt_b, bAbs_i, bTuple_L, bLen_l, bLen_t, bLen_scr, bLen_d, D_imm_s, D_imm_n, ltSz, key_i, key_s]
  exact kk st k v q s S2 hst hv hs h2
end Fw

namespace Fw
open PySem PySem.Spec PyProof.Rows L2

section
variable {S : Sto} {n t : Int} {ks : List Int} {st : St2} {k : Kn} {v : List Int} {q r : Int} {s : Sv} {P : Fl → Sto → Prop}
theorem run2_g (kk : P (.nx [.va (.obj 1), .va (.int n), .va (.lst (ks.map .int)), .va (.int t), .va (eSt st), .va (eQ k v q s), .va (.str k.s), .va (eV v), .va (.int q), .va (eS s), .no, .no, .no, .no, .no, .no, .no, .no, .no]) S) :
    Gv (b_u_law_run_2 [.va (.obj 1), .va (.int n), .va (.lst (ks.map .int)), .va (.int t), .va (eSt st), .va (eQ k v q s), .no, .no, .no, .no, .no, .no, .no, .no, .no, .no, .no, .no, .no]) S P := by
  try simp only [b_u_law_run_2, eQ, mVar, mC, mOp, mUn, mCall, mCons, mNil, mIf, mAnd, mOr, mNot, mB, mTV, mAndV, mOrV, mNotV, mChain, asB, mIter, mItems, mValues, mIterA, mCut, mSome, mNone, pInt, mCallG, mCallK, sel, M.ret_bnd, M.opt_some, M.ass_t, M.bnd_bnd, M.stk_bnd, view, Sl.see, List.map_cons, List.map_nil, List.getElem?_cons_zero, List.getElem?_cons_succ, Option.join_some, List.set_cons_zero, List.set_cons_succ, sRet, sN, sIf, sAsg, sDrop, sNext, sUnp, sFor, sRetN, mBody, outV, startEn, List.length_cons, List.length_nil, List.replicate_succ, List.replicate_zero, List.cons_append, List.nil_append, M.calm_ret, tgN, tgTup, tgCons, tgNil, gvN, gvTup, gvCons, gvNil, wipeN, Option.toList_some, List.append_nil, if_true, Bool.not_true, Bool.not_false, Option.bind_some, items, itemsI, itemsV, Gv_bnd, Gv_ret, Gv_calm, dLst_0, dLst_1, dLst_2, dLst_3, dLst_4, dLst_5, dLst_6, dLst_7, dLst_8, dLst_9, dLst_10, dLst_11, dLst_12, dTup_0, dTup_1, dTup_2, dTup_3, dTup_4, dTup_5, dTup_6, dTup_7, dTup_8, assLt_0, decide_true, sPar, sON, sFN, sF, sV, sO, sVL, sOL, viewL, Sl.seeL, sApp, sPutK, sPopK, owL, owK, vaOf, vaAt, sFrz, bor, mBodyO, outO, sRetO, sCont, sBreak, Option.join_none, Bool.false_eq_true, if_false, List.foldl_cons, List.foldl_nil, oAdd_i, oSub_i, oInt_i, oNeg_i, eq_int, ne_int, ixT0, ixT1, ixT2, ixT3, sAugM, D_imm_i, D_imm_b, bInt_i, bInt_b, bAbs_i, bTuple_L, bLen_l, bLen_t, bLen_scr, bLen_d, D_imm_s, D_imm_n, ltSz, key_i, key_s]
  exact kk
theorem run3_g {A : Sl} (h : HqOk S) (kk : ∀ (r : Int) S', HqOk S' → P (.nx [.va (.obj 1), .va (.int n), .va (.lst (ks.map .int)), .va (.int t), .va (eSt st), A, .va (.str k.s), .va (eV v), .va (.int q), .va (eS s), .va (.int r), .no, .no, .no, .no, .no, .no, .no, .no]) S') :
    Gv (b_u_law_run_3 [.va (.obj 1), .va (.int n), .va (.lst (ks.map .int)), .va (.int t), .va (eSt st), A, .va (.str k.s), .va (eV v), .va (.int q), .va (eS s), .no, .no, .no, .no, .no, .no, .no, .no, .no]) S P := by
  have ep : oPow (.int 10) (.int 9) = M.ret (.int (10 ^ 9)) := rfl
  try simp only [b_u_law_run_3, mVar, mC, mOp, mUn, mCall, mCons, mNil, mIf, mAnd, mOr, mNot, mB, mTV, mAndV, mOrV, mNotV, mChain, asB, mIter, mItems, mValues, mIterA, mCut, mSome, mNone, pInt, mCallG, mCallK, sel, M.ret_bnd, M.opt_some, M.ass_t, M.bnd_bnd, M.stk_bnd, view, Sl.see, List.map_cons, List.map_nil, List.getElem?_cons_zero, List.getElem?_cons_succ, Option.join_some, List.set_cons_zero, List.set_cons_succ, sRet, sN, sIf, sAsg, sDrop, sNext, sUnp, sFor, sRetN, mBody, outV, startEn, List.length_cons, List.length_nil, List.replicate_succ, List.replicate_zero, List.cons_append, List.nil_append, M.calm_ret, tgN, tgTup, tgCons, tgNil, gvN, gvTup, gvCons, gvNil, wipeN, Option.toList_some, List.append_nil, if_true, Bool.not_true, Bool.not_false, Option.bind_some, items, itemsI, itemsV, Gv_bnd, Gv_ret, Gv_calm, dLst_0, dLst_1, dLst_2, dLst_3, dLst_4, dLst_5, dLst_6, dLst_7, dLst_8, dLst_9, dLst_10, dLst_11, dLst_12, dTup_0, dTup_1, dTup_2, dTup_3, dTup_4, dTup_5, dTup_6, dTup_7, dTup_8, assLt_0, decide_true, sPar, sON, sFN, sF, sV, sO, sVL, sOL, viewL, Sl.seeL, sApp, sPutK, sPopK, owL, owK, vaOf, vaAt, sFrz, bor, mBodyO, outO, sRetO, sCont, sBreak, Option.join_none, Bool.false_eq_true, if_false, List.foldl_cons, List.foldl_nil, oAdd_i, oSub_i, oInt_i, oNeg_i, eq_int, ne_int, ixT0, ixT1, ixT2, ixT3, sAugM, D_imm_i, D_imm_b, bInt_i, bInt_b, bAbs_i, bTuple_L, bLen_l, bLen_t, bLen_scr, bLen_d, D_imm_s, D_imm_n, ltSz, key_i, key_s]
  refine draw_g h (by decide) (by decide) fun i S1 i0 i1 h1 f1 => ?_
  try simp only [ep, mVar, mC, mOp, mUn, mCall, mCons, mNil, mIf, mAnd, mOr, mNot, mB, mTV, mAndV, mOrV, mNotV, mChain, asB, mIter, mItems, mValues, mIterA, mCut, mSome, mNone, pInt, mCallG, mCallK, sel, M.ret_bnd, M.opt_some, M.ass_t, M.bnd_bnd, M.stk_bnd, view, Sl.see, List.map_cons, List.map_nil, List.getElem?_cons_zero, List.getElem?_cons_succ, Option.join_some, List.set_cons_zero, List.set_cons_succ, sRet, sN, sIf, sAsg, sDrop, sNext, sUnp, sFor, sRetN, mBody, outV, startEn, List.length_cons, List.length_nil, List.replicate_succ, List.replicate_zero, List.cons_append, List.nil_append, M.calm_ret, tgN, tgTup, tgCons, tgNil, gvN, gvTup, gvCons, gvNil, wipeN, Option.toList_some, List.append_nil, if_true, Bool.not_true, Bool.not_false, Option.bind_some, items, itemsI, itemsV, Gv_bnd, Gv_ret, Gv_calm, dLst_0, dLst_1, dLst_2, dLst_3, dLst_4, dLst_5, dLst_6, dLst_7, dLst_8, dLst_9, dLst_10, dLst_11, dLst_12, dTup_0, dTup_1, dTup_2, dTup_3, dTup_4, dTup_5, dTup_6, dTup_7, dTup_8, assLt_0, decide_true, sPar, sON, sFN, sF, sV, sO, sVL, sOL, viewL, Sl.seeL, sApp, sPutK, sPopK, owL, owK, vaOf, vaAt, sFrz, bor, mBodyO, outO, sRetO, sCont, sBreak, Option.join_none, Bool.false_eq_true, if_false, List.foldl_cons, List.foldl_nil, oAdd_i, oSub_i, oInt_i, oNeg_i, eq_int, ne_int, ixT0, ixT1, ixT2, ixT3, sAugM, D_imm_i, D_imm_b, bInt_i, bInt_b, bAbs_i, bTuple_L, bLen_l, bLen_t, bLen_scr, bLen_d, D_imm_s, D_imm_n, ltSz, key_i, key_s]
  refine pick_g h1 (by simp) (by simp) fun d S2 hd h2 f2 => ?_
  obtain ⟨r, rfl⟩ : ∃ r : Int, d = .int r := by
    simp only [List.mem_cons, List.not_mem_nil, or_false] at hd
    rcases hd with rfl | rfl | rfl | rfl | rfl | rfl | rfl | rfl | rfl <;> exact ⟨_, rfl⟩
  try simp only [mVar, mC, mOp, mUn, mCall, mCons, mNil, mIf, mAnd, mOr, mNot, mB, mTV, mAndV, mOrV, mNotV, mChain, asB, mIter, mItems, mValues, mIterA, mCut, mSome, mNone, pInt, mCallG, mCallK, sel, M.ret_bnd, M.opt_some, M.ass_t, M.bnd_bnd, M.stk_bnd, view, Sl.see, List.map_cons, List.map_nil, List.getElem?_cons_zero, List.getElem?_cons_succ, Option.join_some, List.set_cons_zero, List.set_cons_succ, sRet, sN, sIf, sAsg, sDrop, sNext, sUnp, sFor, sRetN, mBody, outV, startEn, List.length_cons, List.length_nil, List.replicate_succ, List.replicate_zero, List.cons_append, List.nil_append, M.calm_ret, tgN, tgTup, tgCons, tgNil, gvN, gvTup, gvCons, gvNil, wipeN, Option.toList_some, List.append_nil, if_true, Bool.not_true, Bool.not_false, Option.bind_some, items, itemsI, itemsV, Gv_bnd, Gv_ret, Gv_calm, dLst_0, dLst_1, dLst_2, dLst_3, dLst_4, dLst_5, dLst_6, dLst_7, dLst_8, dLst_9, dLst_10, dLst_11, dLst_12, dTup_0, dTup_1, dTup_2, dTup_3, dTup_4, dTup_5, dTup_6, dTup_7, dTup_8, assLt_0, decide_true, sPar, sON, sFN, sF, sV, sO, sVL, sOL, viewL, Sl.seeL, sApp, sPutK, sPopK, owL, owK, vaOf, vaAt, sFrz, bor, mBodyO, outO, sRetO, sCont, sBreak, Option.join_none, Bool.false_eq_true, if_false, List.foldl_cons, List.foldl_nil, oAdd_i, oSub_i, oInt_i, oNeg_i, eq_int, ne_int, ixT0, ixT1, ixT2, ixT3, sAugM, D_imm_i, D_imm_b, bInt_i, bInt_b, bAbs_i, bTuple_L, bLen_l, bLen_t, bLen_scr, bLen_d, D_imm_s, D_imm_n, ltSz, key_i, key_s]
  exact kk r S2 h2
theorem run4_g {A : Sl} (hk : KsOk ks) (hst : SkOk n.toNat ks st) (kk : P (.nx [.va (.obj 1), .va (.int n), .va (.lst (ks.map .int)), .va (.int t), .va (eSt st), A, .va (.str k.s), .va (eV v), .va (.int q), .va (eS s), .va (.int r), .ow (eSt st), .no, .no, .no, .no, .no, .no, .no]) S) :
    Gv (b_u_law_run_4 [.va (.obj 1), .va (.int n), .va (.lst (ks.map .int)), .va (.int t), .va (eSt st), A, .va (.str k.s), .va (eV v), .va (.int q), .va (eS s), .va (.int r), .no, .no, .no, .no, .no, .no, .no, .no]) S P := by
  have e : m_u_law_done [eSt st, .tup [.str "take", .int (0 - 1)]] = M.ret (eSt st) := by
    have := done_ev (d := .take (0 - 1)) (hst.st hk)
    rw [done_same hst hk] at this
    exact this
  try simp only [b_u_law_run_4, e, mVar, mC, mOp, mUn, mCall, mCons, mNil, mIf, mAnd, mOr, mNot, mB, mTV, mAndV, mOrV, mNotV, mChain, asB, mIter, mItems, mValues, mIterA, mCut, mSome, mNone, pInt, mCallG, mCallK, sel, M.ret_bnd, M.opt_some, M.ass_t, M.bnd_bnd, M.stk_bnd, view, Sl.see, List.map_cons, List.map_nil, List.getElem?_cons_zero, List.getElem?_cons_succ, Option.join_some, List.set_cons_zero, List.set_cons_succ, sRet, sN, sIf, sAsg, sDrop, sNext, sUnp, sFor, sRetN, mBody, outV, startEn, List.length_cons, List.length_nil, List.replicate_succ, List.replicate_zero, List.cons_append, List.nil_append, M.calm_ret, tgN, tgTup, tgCons, tgNil, gvN, gvTup, gvCons, gvNil, wipeN, Option.toList_some, List.append_nil, if_true, Bool.not_true, Bool.not_false, Option.bind_some, items, itemsI, itemsV, Gv_bnd, Gv_ret, Gv_calm, dLst_0, dLst_1, dLst_2, dLst_3, dLst_4, dLst_5, dLst_6, dLst_7, dLst_8, dLst_9, dLst_10, dLst_11, dLst_12, dTup_0, dTup_1, dTup_2, dTup_3, dTup_4, dTup_5, dTup_6, dTup_7, dTup_8, assLt_0, decide_true, sPar, sON, sFN, sF, sV, sO, sVL, sOL, viewL, Sl.seeL, sApp, sPutK, sPopK, owL, owK, vaOf, vaAt, sFrz, bor, mBodyO, outO, sRetO, sCont, sBreak, Option.join_none, Bool.false_eq_true, if_false, List.foldl_cons, List.foldl_nil, oAdd_i, oSub_i, oInt_i, oNeg_i, eq_int, ne_int, ixT0, ixT1, ixT2, ixT3, sAugM, D_imm_i, D_imm_b, bInt_i, bInt_b, bAbs_i, bTuple_L, bLen_l, bLen_t, bLen_scr, bLen_d, D_imm_s, D_imm_n, ltSz, key_i, key_s]
  exact kk
theorem run5_g {A : Sl} (hk : KsOk ks) (hst : SkOk n.toNat ks st) (hs : s.ok) (hv : VcOk n.toNat v) (hn : n ≤ 24) (kk : P (.nx [.va (.obj 1), .va (.int n), .va (.lst (ks.map .int)), .va (.int t), .va (eSt st), A, .va (.str k.s), .va (eV v), .va (.int q), .va (eS s), .va (.int r), .ow (eSt st), .va (.obj S.length), .no, .no, .no, .no, .no, .no]) (S ++ [nb k v r s (dueZ st k v s r)])) :
    Gv (b_u_law_run_5 [.va (.obj 1), .va (.int n), .va (.lst (ks.map .int)), .va (.int t), .va (eSt st), A, .va (.str k.s), .va (eV v), .va (.int q), .va (eS s), .va (.int r), .ow (eSt st), .no, .no, .no, .no, .no, .no, .no]) S P := by
  try simp only [b_u_law_run_5, mVar, mC, mOp, mUn, mCall, mCons, mNil, mIf, mAnd, mOr, mNot, mB, mTV, mAndV, mOrV, mNotV, mChain, asB, mIter, mItems, mValues, mIterA, mCut, mSome, mNone, pInt, mCallG, mCallK, sel, M.ret_bnd, M.opt_some, M.ass_t, M.bnd_bnd, M.stk_bnd, view, Sl.see, List.map_cons, List.map_nil, List.getElem?_cons_zero, List.getElem?_cons_succ, Option.join_some, List.set_cons_zero, List.set_cons_succ, sRet, sN, sIf, sAsg, sDrop, sNext, sUnp, sFor, sRetN, mBody, outV, startEn, List.length_cons, List.length_nil, List.replicate_succ, List.replicate_zero, List.cons_append, List.nil_append, M.calm_ret, tgN, tgTup, tgCons, tgNil, gvN, gvTup, gvCons, gvNil, wipeN, Option.toList_some, List.append_nil, if_true, Bool.not_true, Bool.not_false, Option.bind_some, items, itemsI, itemsV, Gv_bnd, Gv_ret, Gv_calm, dLst_0, dLst_1, dLst_2, dLst_3, dLst_4, dLst_5, dLst_6, dLst_7, dLst_8, dLst_9, dLst_10, dLst_11, dLst_12, dTup_0, dTup_1, dTup_2, dTup_3, dTup_4, dTup_5, dTup_6, dTup_7, dTup_8, assLt_0, decide_true, sPar, sON, sFN, sF, sV, sO, sVL, sOL, viewL, Sl.seeL, sApp, sPutK, sPopK, owL, owK, vaOf, vaAt, sFrz, bor, mBodyO, outO, sRetO, sCont, sBreak, Option.join_none, Bool.false_eq_true, if_false, List.foldl_cons, List.foldl_nil, oAdd_i, oSub_i, oInt_i, oNeg_i, eq_int, ne_int, ixT0, ixT1, ixT2, ixT3, sAugM, D_imm_i, D_imm_b, bInt_i, bInt_b, bAbs_i, bTuple_L, bLen_l, bLen_t, bLen_scr, bLen_d, D_imm_s, D_imm_n, ltSz, key_i, key_s]
  refine Gv.of_eqS (make_ev (k := k) (v := v) (r := r) (s := s) (st := st) rfl rfl (fun x => rfl) (hst.st hk) hs hv (by omega)) ?_
  rw [show (D.obj S.length).imm = true from rfl]
  try simp only [mVar, mC, mOp, mUn, mCall, mCons, mNil, mIf, mAnd, mOr, mNot, mB, mTV, mAndV, mOrV, mNotV, mChain, asB, mIter, mItems, mValues, mIterA, mCut, mSome, mNone, pInt, mCallG, mCallK, sel, M.ret_bnd, M.opt_some, M.ass_t, M.bnd_bnd, M.stk_bnd, view, Sl.see, List.map_cons, List.map_nil, List.getElem?_cons_zero, List.getElem?_cons_succ, Option.join_some, List.set_cons_zero, List.set_cons_succ, sRet, sN, sIf, sAsg, sDrop, sNext, sUnp, sFor, sRetN, mBody, outV, startEn, List.length_cons, List.length_nil, List.replicate_succ, List.replicate_zero, List.cons_append, List.nil_append, M.calm_ret, tgN, tgTup, tgCons, tgNil, gvN, gvTup, gvCons, gvNil, wipeN, Option.toList_some, List.append_nil, if_true, Bool.not_true, Bool.not_false, Option.bind_some, items, itemsI, itemsV, Gv_bnd, Gv_ret, Gv_calm, dLst_0, dLst_1, dLst_2, dLst_3, dLst_4, dLst_5, dLst_6, dLst_7, dLst_8, dLst_9, dLst_10, dLst_11, dLst_12, dTup_0, dTup_1, dTup_2, dTup_3, dTup_4, dTup_5, dTup_6, dTup_7, dTup_8, assLt_0, decide_true, sPar, sON, sFN, sF, sV, sO, sVL, sOL, viewL, Sl.seeL, sApp, sPutK, sPopK, owL, owK, vaOf, vaAt, sFrz, bor, mBodyO, outO, sRetO, sCont, sBreak, Option.join_none, Bool.false_eq_true, if_false, List.foldl_cons, List.foldl_nil, oAdd_i, oSub_i, oInt_i, oNeg_i, eq_int, ne_int, ixT0, ixT1, ixT2, ixT3, sAugM, D_imm_i, D_imm_b, bInt_i, bInt_b, bAbs_i, bTuple_L, bLen_l, bLen_t, bLen_scr, bLen_d, D_imm_s, D_imm_n, ltSz, key_i, key_s]
  exact kk
theorem run6_g {X : Sl} {a : Nat} (hk : KsOk ks) (hst : SkOk n.toNat ks st) (hs : s.ok) (hv : VcOk n.toNat v) (hn0 : 0 < n) (hn : n ≤ 24) (kk : P (.nx [.va (.obj 1), .va (.int n), .va (.lst (ks.map .int)), .va (.int t), .va (eSt st), .va (eQ k v q s), .va (.str k.s), .va (eV v), .va (.int q), .va (eS s), .va (.int r), X, .va (.obj a), .va (.obj S.length), .va (.tup ((dueZ st k v s r).map pD)), .no, .no, .no, .no]) (S ++ [nb k v r s (dueZ st k v s r)])) :
    Gv (b_u_law_run_6 [.va (.obj 1), .va (.int n), .va (.lst (ks.map .int)), .va (.int t), .va (eSt st), .va (eQ k v q s), .va (.str k.s), .va (eV v), .va (.int q), .va (eS s), .va (.int r), X, .va (.obj a), .no, .no, .no, .no, .no, .no]) S P := by
  try simp only [b_u_law_run_6, mVar, mC, mOp, mUn, mCall, mCons, mNil, mIf, mAnd, mOr, mNot, mB, mTV, mAndV, mOrV, mNotV, mChain, asB, mIter, mItems, mValues, mIterA, mCut, mSome, mNone, pInt, mCallG, mCallK, sel, M.ret_bnd, M.opt_some, M.ass_t, M.bnd_bnd, M.stk_bnd, view, Sl.see, List.map_cons, List.map_nil, List.getElem?_cons_zero, List.getElem?_cons_succ, Option.join_some, List.set_cons_zero, List.set_cons_succ, sRet, sN, sIf, sAsg, sDrop, sNext, sUnp, sFor, sRetN, mBody, outV, startEn, List.length_cons, List.length_nil, List.replicate_succ, List.replicate_zero, List.cons_append, List.nil_append, M.calm_ret, tgN, tgTup, tgCons, tgNil, gvN, gvTup, gvCons, gvNil, wipeN, Option.toList_some, List.append_nil, if_true, Bool.not_true, Bool.not_false, Option.bind_some, items, itemsI, itemsV, Gv_bnd, Gv_ret, Gv_calm, dLst_0, dLst_1, dLst_2, dLst_3, dLst_4, dLst_5, dLst_6, dLst_7, dLst_8, dLst_9, dLst_10, dLst_11, dLst_12, dTup_0, dTup_1, dTup_2, dTup_3, dTup_4, dTup_5, dTup_6, dTup_7, dTup_8, assLt_0, decide_true, sPar, sON, sFN, sF, sV, sO, sVL, sOL, viewL, Sl.seeL, sApp, sPutK, sPopK, owL, owK, vaOf, vaAt, sFrz, bor, mBodyO, outO, sRetO, sCont, sBreak, Option.join_none, Bool.false_eq_true, if_false, List.foldl_cons, List.foldl_nil, oAdd_i, oSub_i, oInt_i, oNeg_i, eq_int, ne_int, ixT0, ixT1, ixT2, ixT3, sAugM, D_imm_i, D_imm_b, bInt_i, bInt_b, bAbs_i, bTuple_L, bLen_l, bLen_t, bLen_scr, bLen_d, D_imm_s, D_imm_n, ltSz, key_i, key_s]
  refine Gv.of_eqS (make_ev (k := k) (v := v) (r := r) (s := s) (st := st) rfl rfl (fun x => rfl) (hst.st hk) hs hv (by omega)) ?_
  rw [law_due_ev (hst.st hk) hs hv (by omega) (by omega)]
  try simp only [mVar, mC, mOp, mUn, mCall, mCons, mNil, mIf, mAnd, mOr, mNot, mB, mTV, mAndV, mOrV, mNotV, mChain, asB, mIter, mItems, mValues, mIterA, mCut, mSome, mNone, pInt, mCallG, mCallK, sel, M.ret_bnd, M.opt_some, M.ass_t, M.bnd_bnd, M.stk_bnd, view, Sl.see, List.map_cons, List.map_nil, List.getElem?_cons_zero, List.getElem?_cons_succ, Option.join_some, List.set_cons_zero, List.set_cons_succ, sRet, sN, sIf, sAsg, sDrop, sNext, sUnp, sFor, sRetN, mBody, outV, startEn, List.length_cons, List.length_nil, List.replicate_succ, List.replicate_zero, List.cons_append, List.nil_append, M.calm_ret, tgN, tgTup, tgCons, tgNil, gvN, gvTup, gvCons, gvNil, wipeN, Option.toList_some, List.append_nil, if_true, Bool.not_true, Bool.not_false, Option.bind_some, items, itemsI, itemsV, Gv_bnd, Gv_ret, Gv_calm, dLst_0, dLst_1, dLst_2, dLst_3, dLst_4, dLst_5, dLst_6, dLst_7, dLst_8, dLst_9, dLst_10, dLst_11, dLst_12, dTup_0, dTup_1, dTup_2, dTup_3, dTup_4, dTup_5, dTup_6, dTup_7, dTup_8, assLt_0, decide_true, sPar, sON, sFN, sF, sV, sO, sVL, sOL, viewL, Sl.seeL, sApp, sPutK, sPopK, owL, owK, vaOf, vaAt, sFrz, bor, mBodyO, outO, sRetO, sCont, sBreak, Option.join_none, Bool.false_eq_true, if_false, List.foldl_cons, List.foldl_nil, oAdd_i, oSub_i, oInt_i, oNeg_i, eq_int, ne_int, ixT0, ixT1, ixT2, ixT3, sAugM, D_imm_i, D_imm_b, bInt_i, bInt_b, bAbs_i, bTuple_L, bLen_l, bLen_t, bLen_scr, bLen_d, D_imm_s, D_imm_n, ltSz, key_i, key_s]
  exact kk
theorem run7_g {A : Sl} {rest : List Sl} (hk : KsOk ks) (hst : SkOk n.toNat ks st) (kk : ∀ X, P (.nx (.va (.obj 1) :: .va (.int n) :: .va (.lst (ks.map .int)) :: .va (.int t) :: .va (eSt st) :: A :: .va (.str k.s) :: .va (eV v) :: .va (.int q) :: .va (eS s) :: .va (.int r) :: X :: rest)) S) :
    Gv (b_u_law_run_7 (.va (.obj 1) :: .va (.int n) :: .va (.lst (ks.map .int)) :: .va (.int t) :: .va (eSt st) :: A :: .va (.str k.s) :: .va (eV v) :: .va (.int q) :: .va (eS s) :: .va (.int r) :: .ow (eSt st) :: rest)) S P := by
  have l := (hst.st hk).len
  try simp only [b_u_law_run_7, eSt, mVar, mC, mOp, mUn, mCall, mCons, mNil, mIf, mAnd, mOr, mNot, mB, mTV, mAndV, mOrV, mNotV, mChain, asB, mIter, mItems, mValues, mIterA, mCut, mSome, mNone, pInt, mCallG, mCallK, sel, M.ret_bnd, M.opt_some, M.ass_t, M.bnd_bnd, M.stk_bnd, view, Sl.see, List.map_cons, List.map_nil, List.getElem?_cons_zero, List.getElem?_cons_succ, Option.join_some, List.set_cons_zero, List.set_cons_succ, sRet, sN, sIf, sAsg, sDrop, sNext, sUnp, sFor, sRetN, mBody, outV, startEn, List.length_cons, List.length_nil, List.replicate_succ, List.replicate_zero, List.cons_append, List.nil_append, M.calm_ret, tgN, tgTup, tgCons, tgNil, gvN, gvTup, gvCons, gvNil, wipeN, Option.toList_some, List.append_nil, if_true, Bool.not_true, Bool.not_false, Option.bind_some, items, itemsI, itemsV, Gv_bnd, Gv_ret, Gv_calm, dLst_0, dLst_1, dLst_2, dLst_3, dLst_4, dLst_5, dLst_6, dLst_7, dLst_8, dLst_9, dLst_10, dLst_11, dLst_12, dTup_0, dTup_1, dTup_2, dTup_3, dTup_4, dTup_5, dTup_6, dTup_7, dTup_8, assLt_0, decide_true, sPar, sON, sFN, sF, sV, sO, sVL, sOL, viewL, Sl.seeL, sApp, sPutK, sPopK, owL, owK, vaOf, vaAt, sFrz, bor, mBodyO, outO, sRetO, sCont, sBreak, Option.join_none, Bool.false_eq_true, if_false, List.foldl_cons, List.foldl_nil, oAdd_i, oSub_i, oInt_i, oNeg_i, eq_int, ne_int, ixT0, ixT1, ixT2, ixT3, sAugM, D_imm_i, D_imm_b, bInt_i, bInt_b, bAbs_i, bTuple_L, bLen_l, bLen_t, bLen_scr, bLen_d, D_imm_s, D_imm_n, ltSz, key_i, key_s]
  refine Gv.assLt (by rw [List.length_map]; omega) ?_
  try simp only [mVar, mC, mOp, mUn, mCall, mCons, mNil, mIf, mAnd, mOr, mNot, mB, mTV, mAndV, mOrV, mNotV, mChain, asB, mIter, mItems, mValues, mIterA, mCut, mSome, mNone, pInt, mCallG, mCallK, sel, M.ret_bnd, M.opt_some, M.ass_t, M.bnd_bnd, M.stk_bnd, view, Sl.see, List.map_cons, List.map_nil, List.getElem?_cons_zero, List.getElem?_cons_succ, Option.join_some, List.set_cons_zero, List.set_cons_succ, sRet, sN, sIf, sAsg, sDrop, sNext, sUnp, sFor, sRetN, mBody, outV, startEn, List.length_cons, List.length_nil, List.replicate_succ, List.replicate_zero, List.cons_append, List.nil_append, M.calm_ret, tgN, tgTup, tgCons, tgNil, gvN, gvTup, gvCons, gvNil, wipeN, Option.toList_some, List.append_nil, if_true, Bool.not_true, Bool.not_false, Option.bind_some, items, itemsI, itemsV, Gv_bnd, Gv_ret, Gv_calm, dLst_0, dLst_1, dLst_2, dLst_3, dLst_4, dLst_5, dLst_6, dLst_7, dLst_8, dLst_9, dLst_10, dLst_11, dLst_12, dTup_0, dTup_1, dTup_2, dTup_3, dTup_4, dTup_5, dTup_6, dTup_7, dTup_8, assLt_0, decide_true, sPar, sON, sFN, sF, sV, sO, sVL, sOL, viewL, Sl.seeL, sApp, sPutK, sPopK, owL, owK, vaOf, vaAt, sFrz, bor, mBodyO, outO, sRetO, sCont, sBreak, Option.join_none, Bool.false_eq_true, if_false, List.foldl_cons, List.foldl_nil, oAdd_i, oSub_i, oInt_i, oNeg_i, eq_int, ne_int, ixT0, ixT1, ixT2, ixT3, sAugM, D_imm_i, D_imm_b, bInt_i, bInt_b, bAbs_i, bTuple_L, bLen_l, bLen_t, bLen_scr, bLen_d, D_imm_s, D_imm_n, ltSz, key_i, key_s]
  exact kk _
end
end Fw

namespace Fw
open PySem PySem.Spec PyProof.Rows L2

section
variable {S : Sto} {n t : Int} {ks : List Int} {st st0 : St2} {k : Kn} {v : List Int} {q r : Int} {s : Sv} {P : Fl → Sto → Prop} {X y z w : Sl} {a : Nat}
theorem RunOk.o (h : RunOk n ks k v s r a st0 st S) : S[a]? = some (nb k v r s (dueZ st k v s r)) := h.one
theorem fld_g {c f : Str} {n : Nat} {fs : List (Str × D)} {S : Sto} {d : D} {P : D → Sto → Prop} (h : S[n]? = some (.ins c fs)) (hf : fs.lookup f = some d) (q : P d S) : Gv (fldD c f (.obj n)) S P := Gv.of_eqS (fldD_ev h hf) q
theorem four_ly (hs : s.ok) : (D.tup [.str k.s, eV v, .int r, eS s]).ly 4 = true := by
  have h : PyData.strOk k.s = true := by cases k <;> exact strOk_lit _
  simp only [D.ly, List.all_cons, List.all_nil, h, eV_ly, eS_ly hs, Bool.and_self]
theorem body1_g (hk : KsOk ks) (hs : s.ok) (hv : VcOk n.toNat v) (hn : n ≤ 24) (h : RunOk n ks k v s r a st0 st S) (kk : P (.nx (runEn n t ks st k v q s r X a st0 y z w)) S) : Gv (b_u_law_run_L1_1 (runEn n t ks st k v q s r X a st0 y z w)) S P := by
  try simp only [b_u_law_run_L1_1, runEn, mMeth, mVar, mC, mOp, mUn, mCall, mCons, mNil, mIf, mAnd, mOr, mNot, mB, mTV, mAndV, mOrV, mNotV, mChain, asB, mIter, mItems, mValues, mIterA, mCut, mSome, mNone, pInt, mCallG, mCallK, sel, M.ret_bnd, M.opt_some, M.ass_t, M.bnd_bnd, M.stk_bnd, view, Sl.see, List.map_cons, List.map_nil, List.getElem?_cons_zero, List.getElem?_cons_succ, Option.join_some, List.set_cons_zero, List.set_cons_succ, sRet, sN, sIf, sAsg, sDrop, sNext, sUnp, sFor, sRetN, mBody, outV, startEn, List.length_cons, List.length_nil, List.replicate_succ, List.replicate_zero, List.cons_append, List.nil_append, M.calm_ret, tgN, tgTup, tgCons, tgNil, gvN, gvTup, gvCons, gvNil, wipeN, Option.toList_some, List.append_nil, if_true, Bool.not_true, Bool.not_false, Option.bind_some, items, itemsI, itemsV, Gv_bnd, Gv_ret, Gv_calm, dLst_0, dLst_1, dLst_2, dLst_3, dLst_4, dLst_5, dLst_6, dLst_7, dLst_8, dLst_9, dLst_10, dLst_11, dLst_12, dTup_0, dTup_1, dTup_2, dTup_3, dTup_4, dTup_5, dTup_6, dTup_7, dTup_8, assLt_0, decide_true, sPar, sON, sFN, sF, sV, sO, sVL, sOL, viewL, Sl.seeL, sApp, sPutK, sPopK, owL, owK, vaOf, vaAt, sFrz, bor, mBodyO, outO, sRetO, sCont, sBreak, Option.join_none, Bool.false_eq_true, if_false, List.foldl_cons, List.foldl_nil, oAdd_i, oSub_i, oInt_i, oNeg_i, eq_int, ne_int, ixT0, ixT1, ixT2, ixT3, sAugM, D_imm_i, D_imm_b, bInt_i, bInt_b, bAbs_i, bTuple_L, bLen_l, bLen_t, bLen_scr, bLen_d, D_imm_s, D_imm_n, ltSz, key_i, key_s]
  refine kept_g h.one ?_
  rw [due_repr (h.sk.st hk) hv (by omega)]
  try simp only [ne_shw1 (prs_plain _), mVar, mC, mOp, mUn, mCall, mCons, mNil, mIf, mAnd, mOr, mNot, mB, mTV, mAndV, mOrV, mNotV, mChain, asB, mIter, mItems, mValues, mIterA, mCut, mSome, mNone, pInt, mCallG, mCallK, sel, M.ret_bnd, M.opt_some, M.ass_t, M.bnd_bnd, M.stk_bnd, view, Sl.see, List.map_cons, List.map_nil, List.getElem?_cons_zero, List.getElem?_cons_succ, Option.join_some, List.set_cons_zero, List.set_cons_succ, sRet, sN, sIf, sAsg, sDrop, sNext, sUnp, sFor, sRetN, mBody, outV, startEn, List.length_cons, List.length_nil, List.replicate_succ, List.replicate_zero, List.cons_append, List.nil_append, M.calm_ret, tgN, tgTup, tgCons, tgNil, gvN, gvTup, gvCons, gvNil, wipeN, Option.toList_some, List.append_nil, if_true, Bool.not_true, Bool.not_false, Option.bind_some, items, itemsI, itemsV, Gv_bnd, Gv_ret, Gv_calm, dLst_0, dLst_1, dLst_2, dLst_3, dLst_4, dLst_5, dLst_6, dLst_7, dLst_8, dLst_9, dLst_10, dLst_11, dLst_12, dTup_0, dTup_1, dTup_2, dTup_3, dTup_4, dTup_5, dTup_6, dTup_7, dTup_8, assLt_0, decide_true, sPar, sON, sFN, sF, sV, sO, sVL, sOL, viewL, Sl.seeL, sApp, sPutK, sPopK, owL, owK, vaOf, vaAt, sFrz, bor, mBodyO, outO, sRetO, sCont, sBreak, Option.join_none, Bool.false_eq_true, if_false, List.foldl_cons, List.foldl_nil, oAdd_i, oSub_i, oInt_i, oNeg_i, eq_int, ne_int, ixT0, ixT1, ixT2, ixT3, sAugM, D_imm_i, D_imm_b, bInt_i, bInt_b, bAbs_i, bTuple_L, bLen_l, bLen_t, bLen_scr, bLen_d, D_imm_s, D_imm_n, ltSz, key_i, key_s]
  refine fld_g h.one lk_kind ?_
  try simp only [mVar, mC, mOp, mUn, mCall, mCons, mNil, mIf, mAnd, mOr, mNot, mB, mTV, mAndV, mOrV, mNotV, mChain, asB, mIter, mItems, mValues, mIterA, mCut, mSome, mNone, pInt, mCallG, mCallK, sel, M.ret_bnd, M.opt_some, M.ass_t, M.bnd_bnd, M.stk_bnd, view, Sl.see, List.map_cons, List.map_nil, List.getElem?_cons_zero, List.getElem?_cons_succ, Option.join_some, List.set_cons_zero, List.set_cons_succ, sRet, sN, sIf, sAsg, sDrop, sNext, sUnp, sFor, sRetN, mBody, outV, startEn, List.length_cons, List.length_nil, List.replicate_succ, List.replicate_zero, List.cons_append, List.nil_append, M.calm_ret, tgN, tgTup, tgCons, tgNil, gvN, gvTup, gvCons, gvNil, wipeN, Option.toList_some, List.append_nil, if_true, Bool.not_true, Bool.not_false, Option.bind_some, items, itemsI, itemsV, Gv_bnd, Gv_ret, Gv_calm, dLst_0, dLst_1, dLst_2, dLst_3, dLst_4, dLst_5, dLst_6, dLst_7, dLst_8, dLst_9, dLst_10, dLst_11, dLst_12, dTup_0, dTup_1, dTup_2, dTup_3, dTup_4, dTup_5, dTup_6, dTup_7, dTup_8, assLt_0, decide_true, sPar, sON, sFN, sF, sV, sO, sVL, sOL, viewL, Sl.seeL, sApp, sPutK, sPopK, owL, owK, vaOf, vaAt, sFrz, bor, mBodyO, outO, sRetO, sCont, sBreak, Option.join_none, Bool.false_eq_true, if_false, List.foldl_cons, List.foldl_nil, oAdd_i, oSub_i, oInt_i, oNeg_i, eq_int, ne_int, ixT0, ixT1, ixT2, ixT3, sAugM, D_imm_i, D_imm_b, bInt_i, bInt_b, bAbs_i, bTuple_L, bLen_l, bLen_t, bLen_scr, bLen_d, D_imm_s, D_imm_n, ltSz, key_i, key_s]
  refine fld_g h.one lk_vec ?_
  try simp only [mVar, mC, mOp, mUn, mCall, mCons, mNil, mIf, mAnd, mOr, mNot, mB, mTV, mAndV, mOrV, mNotV, mChain, asB, mIter, mItems, mValues, mIterA, mCut, mSome, mNone, pInt, mCallG, mCallK, sel, M.ret_bnd, M.opt_some, M.ass_t, M.bnd_bnd, M.stk_bnd, view, Sl.see, List.map_cons, List.map_nil, List.getElem?_cons_zero, List.getElem?_cons_succ, Option.join_some, List.set_cons_zero, List.set_cons_succ, sRet, sN, sIf, sAsg, sDrop, sNext, sUnp, sFor, sRetN, mBody, outV, startEn, List.length_cons, List.length_nil, List.replicate_succ, List.replicate_zero, List.cons_append, List.nil_append, M.calm_ret, tgN, tgTup, tgCons, tgNil, gvN, gvTup, gvCons, gvNil, wipeN, Option.toList_some, List.append_nil, if_true, Bool.not_true, Bool.not_false, Option.bind_some, items, itemsI, itemsV, Gv_bnd, Gv_ret, Gv_calm, dLst_0, dLst_1, dLst_2, dLst_3, dLst_4, dLst_5, dLst_6, dLst_7, dLst_8, dLst_9, dLst_10, dLst_11, dLst_12, dTup_0, dTup_1, dTup_2, dTup_3, dTup_4, dTup_5, dTup_6, dTup_7, dTup_8, assLt_0, decide_true, sPar, sON, sFN, sF, sV, sO, sVL, sOL, viewL, Sl.seeL, sApp, sPutK, sPopK, owL, owK, vaOf, vaAt, sFrz, bor, mBodyO, outO, sRetO, sCont, sBreak, Option.join_none, Bool.false_eq_true, if_false, List.foldl_cons, List.foldl_nil, oAdd_i, oSub_i, oInt_i, oNeg_i, eq_int, ne_int, ixT0, ixT1, ixT2, ixT3, sAugM, D_imm_i, D_imm_b, bInt_i, bInt_b, bAbs_i, bTuple_L, bLen_l, bLen_t, bLen_scr, bLen_d, D_imm_s, D_imm_n, ltSz, key_i, key_s]
  refine fld_g h.one lk_reach ?_
  try simp only [mVar, mC, mOp, mUn, mCall, mCons, mNil, mIf, mAnd, mOr, mNot, mB, mTV, mAndV, mOrV, mNotV, mChain, asB, mIter, mItems, mValues, mIterA, mCut, mSome, mNone, pInt, mCallG, mCallK, sel, M.ret_bnd, M.opt_some, M.ass_t, M.bnd_bnd, M.stk_bnd, view, Sl.see, List.map_cons, List.map_nil, List.getElem?_cons_zero, List.getElem?_cons_succ, Option.join_some, List.set_cons_zero, List.set_cons_succ, sRet, sN, sIf, sAsg, sDrop, sNext, sUnp, sFor, sRetN, mBody, outV, startEn, List.length_cons, List.length_nil, List.replicate_succ, List.replicate_zero, List.cons_append, List.nil_append, M.calm_ret, tgN, tgTup, tgCons, tgNil, gvN, gvTup, gvCons, gvNil, wipeN, Option.toList_some, List.append_nil, if_true, Bool.not_true, Bool.not_false, Option.bind_some, items, itemsI, itemsV, Gv_bnd, Gv_ret, Gv_calm, dLst_0, dLst_1, dLst_2, dLst_3, dLst_4, dLst_5, dLst_6, dLst_7, dLst_8, dLst_9, dLst_10, dLst_11, dLst_12, dTup_0, dTup_1, dTup_2, dTup_3, dTup_4, dTup_5, dTup_6, dTup_7, dTup_8, assLt_0, decide_true, sPar, sON, sFN, sF, sV, sO, sVL, sOL, viewL, Sl.seeL, sApp, sPutK, sPopK, owL, owK, vaOf, vaAt, sFrz, bor, mBodyO, outO, sRetO, sCont, sBreak, Option.join_none, Bool.false_eq_true, if_false, List.foldl_cons, List.foldl_nil, oAdd_i, oSub_i, oInt_i, oNeg_i, eq_int, ne_int, ixT0, ixT1, ixT2, ixT3, sAugM, D_imm_i, D_imm_b, bInt_i, bInt_b, bAbs_i, bTuple_L, bLen_l, bLen_t, bLen_scr, bLen_d, D_imm_s, D_imm_n, ltSz, key_i, key_s]
  refine fld_g h.one lk_sieve ?_
  try simp only [ne_same (four_ly hs), mVar, mC, mOp, mUn, mCall, mCons, mNil, mIf, mAnd, mOr, mNot, mB, mTV, mAndV, mOrV, mNotV, mChain, asB, mIter, mItems, mValues, mIterA, mCut, mSome, mNone, pInt, mCallG, mCallK, sel, M.ret_bnd, M.opt_some, M.ass_t, M.bnd_bnd, M.stk_bnd, view, Sl.see, List.map_cons, List.map_nil, List.getElem?_cons_zero, List.getElem?_cons_succ, Option.join_some, List.set_cons_zero, List.set_cons_succ, sRet, sN, sIf, sAsg, sDrop, sNext, sUnp, sFor, sRetN, mBody, outV, startEn, List.length_cons, List.length_nil, List.replicate_succ, List.replicate_zero, List.cons_append, List.nil_append, M.calm_ret, tgN, tgTup, tgCons, tgNil, gvN, gvTup, gvCons, gvNil, wipeN, Option.toList_some, List.append_nil, if_true, Bool.not_true, Bool.not_false, Option.bind_some, items, itemsI, itemsV, Gv_bnd, Gv_ret, Gv_calm, dLst_0, dLst_1, dLst_2, dLst_3, dLst_4, dLst_5, dLst_6, dLst_7, dLst_8, dLst_9, dLst_10, dLst_11, dLst_12, dTup_0, dTup_1, dTup_2, dTup_3, dTup_4, dTup_5, dTup_6, dTup_7, dTup_8, assLt_0, decide_true, sPar, sON, sFN, sF, sV, sO, sVL, sOL, viewL, Sl.seeL, sApp, sPutK, sPopK, owL, owK, vaOf, vaAt, sFrz, bor, mBodyO, outO, sRetO, sCont, sBreak, Option.join_none, Bool.false_eq_true, if_false, List.foldl_cons, List.foldl_nil, oAdd_i, oSub_i, oInt_i, oNeg_i, eq_int, ne_int, ixT0, ixT1, ixT2, ixT3, sAugM, D_imm_i, D_imm_b, bInt_i, bInt_b, bAbs_i, bTuple_L, bLen_l, bLen_t, bLen_scr, bLen_d, D_imm_s, D_imm_n, ltSz, key_i, key_s]
  exact kk
theorem body2_g (hk : KsOk ks) (hn0 : 0 < n) (hn : n ≤ 24) (h : RunOk n ks k v s r a st0 st S) (kk : ∀ dd S', dd.ok n.toNat → dd.key ∈ ks → RunOk n ks k v s r a st0 st S' → P (.nx (runEn n t ks st k v q s r X a st0 y (.va (eD dd)) w)) S') : Gv (b_u_law_run_L1_2 (runEn n t ks st k v q s r X a st0 y z w)) S P := by
  try simp only [b_u_law_run_L1_2, runEn, mVar, mC, mOp, mUn, mCall, mCons, mNil, mIf, mAnd, mOr, mNot, mB, mTV, mAndV, mOrV, mNotV, mChain, asB, mIter, mItems, mValues, mIterA, mCut, mSome, mNone, pInt, mCallG, mCallK, sel, M.ret_bnd, M.opt_some, M.ass_t, M.bnd_bnd, M.stk_bnd, view, Sl.see, List.map_cons, List.map_nil, List.getElem?_cons_zero, List.getElem?_cons_succ, Option.join_some, List.set_cons_zero, List.set_cons_succ, sRet, sN, sIf, sAsg, sDrop, sNext, sUnp, sFor, sRetN, mBody, outV, startEn, List.length_cons, List.length_nil, List.replicate_succ, List.replicate_zero, List.cons_append, List.nil_append, M.calm_ret, tgN, tgTup, tgCons, tgNil, gvN, gvTup, gvCons, gvNil, wipeN, Option.toList_some, List.append_nil, if_true, Bool.not_true, Bool.not_false, Option.bind_some, items, itemsI, itemsV, Gv_bnd, Gv_ret, Gv_calm, dLst_0, dLst_1, dLst_2, dLst_3, dLst_4, dLst_5, dLst_6, dLst_7, dLst_8, dLst_9, dLst_10, dLst_11, dLst_12, dTup_0, dTup_1, dTup_2, dTup_3, dTup_4, dTup_5, dTup_6, dTup_7, dTup_8, assLt_0, decide_true, sPar, sON, sFN, sF, sV, sO, sVL, sOL, viewL, Sl.seeL, sApp, sPutK, sPopK, owL, owK, vaOf, vaAt, sFrz, bor, mBodyO, outO, sRetO, sCont, sBreak, Option.join_none, Bool.false_eq_true, if_false, List.foldl_cons, List.foldl_nil, oAdd_i, oSub_i, oInt_i, oNeg_i, eq_int, ne_int, ixT0, ixT1, ixT2, ixT3, sAugM, D_imm_i, D_imm_b, bInt_i, bInt_b, bAbs_i, bTuple_L, bLen_l, bLen_t, bLen_scr, bLen_d, D_imm_s, D_imm_n, ltSz, key_i, key_s]
  refine (deed_gv h.hq (by omega) (by omega) hk h.sk).mono ?_
  rintro _ S1 ⟨⟨dd, rfl, hd, hdk⟩, h1, f1⟩
  try simp only [mVar, mC, mOp, mUn, mCall, mCons, mNil, mIf, mAnd, mOr, mNot, mB, mTV, mAndV, mOrV, mNotV, mChain, asB, mIter, mItems, mValues, mIterA, mCut, mSome, mNone, pInt, mCallG, mCallK, sel, M.ret_bnd, M.opt_some, M.ass_t, M.bnd_bnd, M.stk_bnd, view, Sl.see, List.map_cons, List.map_nil, List.getElem?_cons_zero, List.getElem?_cons_succ, Option.join_some, List.set_cons_zero, List.set_cons_succ, sRet, sN, sIf, sAsg, sDrop, sNext, sUnp, sFor, sRetN, mBody, outV, startEn, List.length_cons, List.length_nil, List.replicate_succ, List.replicate_zero, List.cons_append, List.nil_append, M.calm_ret, tgN, tgTup, tgCons, tgNil, gvN, gvTup, gvCons, gvNil, wipeN, Option.toList_some, List.append_nil, if_true, Bool.not_true, Bool.not_false, Option.bind_some, items, itemsI, itemsV, Gv_bnd, Gv_ret, Gv_calm, dLst_0, dLst_1, dLst_2, dLst_3, dLst_4, dLst_5, dLst_6, dLst_7, dLst_8, dLst_9, dLst_10, dLst_11, dLst_12, dTup_0, dTup_1, dTup_2, dTup_3, dTup_4, dTup_5, dTup_6, dTup_7, dTup_8, assLt_0, decide_true, sPar, sON, sFN, sF, sV, sO, sVL, sOL, viewL, Sl.seeL, sApp, sPutK, sPopK, owL, owK, vaOf, vaAt, sFrz, bor, mBodyO, outO, sRetO, sCont, sBreak, Option.join_none, Bool.false_eq_true, if_false, List.foldl_cons, List.foldl_nil, oAdd_i, oSub_i, oInt_i, oNeg_i, eq_int, ne_int, ixT0, ixT1, ixT2, ixT3, sAugM, D_imm_i, D_imm_b, bInt_i, bInt_b, bAbs_i, bTuple_L, bLen_l, bLen_t, bLen_scr, bLen_d, D_imm_s, D_imm_n, ltSz, key_i, key_s]
  exact kk dd S1 hd hdk ⟨h1, h.a2, h.sk, by rw [f1.same _ h.a2]; exact h.one, by rw [f1.same _ (by have := h.a2; omega)]; exact h.twin⟩
/-- behind the state's change -/
def runEn2 (n t : Int) (ks : List Int) (st : St2) (k : Kn) (v : List Int) (q : Int) (s : Sv) (r : Int) (X : Sl) (a : Nat) (st0 : St2) (y : Sl) (dd : Dd) (w : Sl) : En :=
  [.va (.obj 1), .va (.int n), .va (.lst (ks.map .int)), .va (.int t), .va (eSt (doneS st dd)), .va (eQ k v q s), .va (.str k.s), .va (eV v), .va (.int q), .va (eS s), .va (.int r), X, .va (.obj a), .va (.obj (a + 1)), .va (.tup ((dueZ st k v s r).map pD)), .va (.str (shw (.tup ((dueZ st0 k v s r).map pD)))), y, .va (eD dd), w]
theorem body3_g {dd : Dd} (hk : KsOk ks) (h : RunOk n ks k v s r a st0 st S) (kk : P (.nx (runEn2 n t ks st k v q s r X a st0 y dd w)) S) : Gv (b_u_law_run_L1_3 (runEn n t ks st k v q s r X a st0 y (.va (eD dd)) w)) S P := by
  try simp only [b_u_law_run_L1_3, runEn, done_ev (d := dd) (h.sk.st hk), mVar, mC, mOp, mUn, mCall, mCons, mNil, mIf, mAnd, mOr, mNot, mB, mTV, mAndV, mOrV, mNotV, mChain, asB, mIter, mItems, mValues, mIterA, mCut, mSome, mNone, pInt, mCallG, mCallK, sel, M.ret_bnd, M.opt_some, M.ass_t, M.bnd_bnd, M.stk_bnd, view, Sl.see, List.map_cons, List.map_nil, List.getElem?_cons_zero, List.getElem?_cons_succ, Option.join_some, List.set_cons_zero, List.set_cons_succ, sRet, sN, sIf, sAsg, sDrop, sNext, sUnp, sFor, sRetN, mBody, outV, startEn, List.length_cons, List.length_nil, List.replicate_succ, List.replicate_zero, List.cons_append, List.nil_append, M.calm_ret, tgN, tgTup, tgCons, tgNil, gvN, gvTup, gvCons, gvNil, wipeN, Option.toList_some, List.append_nil, if_true, Bool.not_true, Bool.not_false, Option.bind_some, items, itemsI, itemsV, Gv_bnd, Gv_ret, Gv_calm, dLst_0, dLst_1, dLst_2, dLst_3, dLst_4, dLst_5, dLst_6, dLst_7, dLst_8, dLst_9, dLst_10, dLst_11, dLst_12, dTup_0, dTup_1, dTup_2, dTup_3, dTup_4, dTup_5, dTup_6, dTup_7, dTup_8, assLt_0, decide_true, sPar, sON, sFN, sF, sV, sO, sVL, sOL, viewL, Sl.seeL, sApp, sPutK, sPopK, owL, owK, vaOf, vaAt, sFrz, bor, mBodyO, outO, sRetO, sCont, sBreak, Option.join_none, Bool.false_eq_true, if_false, List.foldl_cons, List.foldl_nil, oAdd_i, oSub_i, oInt_i, oNeg_i, eq_int, ne_int, ixT0, ixT1, ixT2, ixT3, sAugM, D_imm_i, D_imm_b, bInt_i, bInt_b, bAbs_i, bTuple_L, bLen_l, bLen_t, bLen_scr, bLen_d, D_imm_s, D_imm_n, ltSz, key_i, key_s]
  exact kk
theorem body4_g {dd : Dd} (hk : KsOk ks) (hs : s.ok) (hv : VcOk n.toNat v) (hn0 : 0 < n) (hn : n ≤ 24) (hd : dd.ok n.toNat) (hdk : dd.key ∈ ks) (h : RunOk n ks k v s r a st0 st S) (kk : P (.nx (runEn2 n t ks st k v q s r X a st0 y dd (.va (.tup ((dueZ (doneS st dd) k v s r).map pD))))) S) :
    Gv (b_u_law_run_L1_4 (runEn2 n t ks st k v q s r X a st0 y dd w)) S P := by
  have e := law_due_ev (k := k) (v := v) (m := q) (r := r) (s := s) ((h.sk.done hd hdk).st hk) hs hv (by omega) (by omega)
  try simp only [b_u_law_run_L1_4, runEn2, e, mVar, mC, mOp, mUn, mCall, mCons, mNil, mIf, mAnd, mOr, mNot, mB, mTV, mAndV, mOrV, mNotV, mChain, asB, mIter, mItems, mValues, mIterA, mCut, mSome, mNone, pInt, mCallG, mCallK, sel, M.ret_bnd, M.opt_some, M.ass_t, M.bnd_bnd, M.stk_bnd, view, Sl.see, List.map_cons, List.map_nil, List.getElem?_cons_zero, List.getElem?_cons_succ, Option.join_some, List.set_cons_zero, List.set_cons_succ, sRet, sN, sIf, sAsg, sDrop, sNext, sUnp, sFor, sRetN, mBody, outV, startEn, List.length_cons, List.length_nil, List.replicate_succ, List.replicate_zero, List.cons_append, List.nil_append, M.calm_ret, tgN, tgTup, tgCons, tgNil, gvN, gvTup, gvCons, gvNil, wipeN, Option.toList_some, List.append_nil, if_true, Bool.not_true, Bool.not_false, Option.bind_some, items, itemsI, itemsV, Gv_bnd, Gv_ret, Gv_calm, dLst_0, dLst_1, dLst_2, dLst_3, dLst_4, dLst_5, dLst_6, dLst_7, dLst_8, dLst_9, dLst_10, dLst_11, dLst_12, dTup_0, dTup_1, dTup_2, dTup_3, dTup_4, dTup_5, dTup_6, dTup_7, dTup_8, assLt_0, decide_true, sPar, sON, sFN, sF, sV, sO, sVL, sOL, viewL, Sl.seeL, sApp, sPutK, sPopK, owL, owK, vaOf, vaAt, sFrz, bor, mBodyO, outO, sRetO, sCont, sBreak, Option.join_none, Bool.false_eq_true, if_false, List.foldl_cons, List.foldl_nil, oAdd_i, oSub_i, oInt_i, oNeg_i, eq_int, ne_int, ixT0, ixT1, ixT2, ixT3, sAugM, D_imm_i, D_imm_b, bInt_i, bInt_b, bAbs_i, bTuple_L, bLen_l, bLen_t, bLen_scr, bLen_d, D_imm_s, D_imm_n, ltSz, key_i, key_s]
  exact kk
theorem body5_g {dd : Dd} (hk : KsOk ks) (hs : s.ok) (hv : VcOk n.toNat v) (hn0 : 0 < n) (hn : n ≤ 24) (hd : dd.ok n.toNat) (hdk : dd.key ∈ ks) (h : RunOk n ks k v s r a st0 st S) (kk : ∀ S', RunOk n ks k v s r a st0 (doneS st dd) S' → P (.nx (runEn2 n t ks st k v q s r X a st0 y dd (.va (.tup ((dueZ (doneS st dd) k v s r).map pD))))) S') :
    Gv (b_u_law_run_L1_5 (runEn2 n t ks st k v q s r X a st0 y dd (.va (.tup ((dueZ (doneS st dd) k v s r).map pD))))) S P := by
  have h' := h.sk.done hd hdk
  have A := due_bg (k := k) (s := s) (r := r) (h.sk.st hk) hv (by omega)
  have B := due_bg (k := k) (s := s) (r := r) (h'.st hk) hv (by omega)
  have e := law_news_ev (dueZ st k v s r) (dueZ (doneS st dd) k v s r) (by omega) (by omega)
  have rp := news_repr (k := k) (s := s) (r := r) (h.sk.st hk) (h'.st hk) hv (by omega)
  try simp only [b_u_law_run_L1_5, runEn2, mMeth, mVar, mC, mOp, mUn, mCall, mCons, mNil, mIf, mAnd, mOr, mNot, mB, mTV, mAndV, mOrV, mNotV, mChain, asB, mIter, mItems, mValues, mIterA, mCut, mSome, mNone, pInt, mCallG, mCallK, sel, M.ret_bnd, M.opt_some, M.ass_t, M.bnd_bnd, M.stk_bnd, view, Sl.see, List.map_cons, List.map_nil, List.getElem?_cons_zero, List.getElem?_cons_succ, Option.join_some, List.set_cons_zero, List.set_cons_succ, sRet, sN, sIf, sAsg, sDrop, sNext, sUnp, sFor, sRetN, mBody, outV, startEn, List.length_cons, List.length_nil, List.replicate_succ, List.replicate_zero, List.cons_append, List.nil_append, M.calm_ret, tgN, tgTup, tgCons, tgNil, gvN, gvTup, gvCons, gvNil, wipeN, Option.toList_some, List.append_nil, if_true, Bool.not_true, Bool.not_false, Option.bind_some, items, itemsI, itemsV, Gv_bnd, Gv_ret, Gv_calm, dLst_0, dLst_1, dLst_2, dLst_3, dLst_4, dLst_5, dLst_6, dLst_7, dLst_8, dLst_9, dLst_10, dLst_11, dLst_12, dTup_0, dTup_1, dTup_2, dTup_3, dTup_4, dTup_5, dTup_6, dTup_7, dTup_8, assLt_0, decide_true, sPar, sON, sFN, sF, sV, sO, sVL, sOL, viewL, Sl.seeL, sApp, sPutK, sPopK, owL, owK, vaOf, vaAt, sFrz, bor, mBodyO, outO, sRetO, sCont, sBreak, Option.join_none, Bool.false_eq_true, if_false, List.foldl_cons, List.foldl_nil, oAdd_i, oSub_i, oInt_i, oNeg_i, eq_int, ne_int, ixT0, ixT1, ixT2, ixT3, sAugM, D_imm_i, D_imm_b, bInt_i, bInt_b, bAbs_i, bTuple_L, bLen_l, bLen_t, bLen_scr, bLen_d, D_imm_s, D_imm_n, ltSz, key_i, key_s]
  refine told_g h.one hk h.sk hs hv (by omega) hd ?_
  try simp only [rp, e, ne_shw1 (news_plain _ _), mVar, mC, mOp, mUn, mCall, mCons, mNil, mIf, mAnd, mOr, mNot, mB, mTV, mAndV, mOrV, mNotV, mChain, asB, mIter, mItems, mValues, mIterA, mCut, mSome, mNone, pInt, mCallG, mCallK, sel, M.ret_bnd, M.opt_some, M.ass_t, M.bnd_bnd, M.stk_bnd, view, Sl.see, List.map_cons, List.map_nil, List.getElem?_cons_zero, List.getElem?_cons_succ, Option.join_some, List.set_cons_zero, List.set_cons_succ, sRet, sN, sIf, sAsg, sDrop, sNext, sUnp, sFor, sRetN, mBody, outV, startEn, List.length_cons, List.length_nil, List.replicate_succ, List.replicate_zero, List.cons_append, List.nil_append, M.calm_ret, tgN, tgTup, tgCons, tgNil, gvN, gvTup, gvCons, gvNil, wipeN, Option.toList_some, List.append_nil, if_true, Bool.not_true, Bool.not_false, Option.bind_some, items, itemsI, itemsV, Gv_bnd, Gv_ret, Gv_calm, dLst_0, dLst_1, dLst_2, dLst_3, dLst_4, dLst_5, dLst_6, dLst_7, dLst_8, dLst_9, dLst_10, dLst_11, dLst_12, dTup_0, dTup_1, dTup_2, dTup_3, dTup_4, dTup_5, dTup_6, dTup_7, dTup_8, assLt_0, decide_true, sPar, sON, sFN, sF, sV, sO, sVL, sOL, viewL, Sl.seeL, sApp, sPutK, sPopK, owL, owK, vaOf, vaAt, sFrz, bor, mBodyO, outO, sRetO, sCont, sBreak, Option.join_none, Bool.false_eq_true, if_false, List.foldl_cons, List.foldl_nil, oAdd_i, oSub_i, oInt_i, oNeg_i, eq_int, ne_int, ixT0, ixT1, ixT2, ixT3, sAugM, D_imm_i, D_imm_b, bInt_i, bInt_b, bAbs_i, bTuple_L, bLen_l, bLen_t, bLen_scr, bLen_d, D_imm_s, D_imm_n, ltSz, key_i, key_s]
  refine kk _ ⟨h.hq.set h.a2, h.a2, h', get_set h.one, ?_⟩
  rw [List.getElem?_set_ne (by omega)]
  exact h.twin
theorem body_g' (hk : KsOk ks) (hs : s.ok) (hv : VcOk n.toNat v) (hn0 : 0 < n) (hn : n ≤ 24) (h : RunOk n ks k v s r a st0 st S) :
    Gv (b_u_law_run_L1 (runEn n t ks st k v q s r X a st0 y z w)) S fun f S' => ∃ st' z' w', f = .nx (runEn n t ks st' k v q s r X a st0 y z' w') ∧ RunOk n ks k v s r a st0 st' S' := by
  unfold b_u_law_run_L1
  refine seq_g (body1_g hk hs hv hn h ?_)
  refine seq_g (body2_g hk hn0 hn h fun dd S1 hd hdk h1 => ?_)
  refine seq_g (body3_g hk h1 ?_)
  refine seq_g (body4_g hk hs hv hn0 hn hd hdk h1 ?_)
  refine seq_g (body5_g hk hs hv hn0 hn hd hdk h1 fun S2 h2 => ?_)
  show Gv (sAsg 14 (sN (mVar 18)) _) _ _
  try simp only [runEn2, mVar, mC, mOp, mUn, mCall, mCons, mNil, mIf, mAnd, mOr, mNot, mB, mTV, mAndV, mOrV, mNotV, mChain, asB, mIter, mItems, mValues, mIterA, mCut, mSome, mNone, pInt, mCallG, mCallK, sel, M.ret_bnd, M.opt_some, M.ass_t, M.bnd_bnd, M.stk_bnd, view, Sl.see, List.map_cons, List.map_nil, List.getElem?_cons_zero, List.getElem?_cons_succ, Option.join_some, List.set_cons_zero, List.set_cons_succ, sRet, sN, sIf, sAsg, sDrop, sNext, sUnp, sFor, sRetN, mBody, outV, startEn, List.length_cons, List.length_nil, List.replicate_succ, List.replicate_zero, List.cons_append, List.nil_append, M.calm_ret, tgN, tgTup, tgCons, tgNil, gvN, gvTup, gvCons, gvNil, wipeN, Option.toList_some, List.append_nil, if_true, Bool.not_true, Bool.not_false, Option.bind_some, items, itemsI, itemsV, Gv_bnd, Gv_ret, Gv_calm, dLst_0, dLst_1, dLst_2, dLst_3, dLst_4, dLst_5, dLst_6, dLst_7, dLst_8, dLst_9, dLst_10, dLst_11, dLst_12, dTup_0, dTup_1, dTup_2, dTup_3, dTup_4, dTup_5, dTup_6, dTup_7, dTup_8, assLt_0, decide_true, sPar, sON, sFN, sF, sV, sO, sVL, sOL, viewL, Sl.seeL, sApp, sPutK, sPopK, owL, owK, vaOf, vaAt, sFrz, bor, mBodyO, outO, sRetO, sCont, sBreak, Option.join_none, Bool.false_eq_true, if_false, List.foldl_cons, List.foldl_nil, oAdd_i, oSub_i, oInt_i, oNeg_i, eq_int, ne_int, ixT0, ixT1, ixT2, ixT3, sAugM, D_imm_i, D_imm_b, bInt_i, bInt_b, bAbs_i, bTuple_L, bLen_l, bLen_t, bLen_scr, bLen_d, D_imm_s, D_imm_n, ltSz, key_i, key_s]
  exact ⟨doneS st dd, _, _, rfl, h2⟩
theorem run10_g (hk : KsOk ks) (hv : VcOk n.toNat v) (hn : n ≤ 24) (h0 : SkOk n.toNat ks st0) (h : RunOk n ks k v s r a st0 st S) (kk : P (.rt (.bl true)) S) : Gv (b_u_law_run_10 (runEn n t ks st k v q s r X a st0 y z w)) S P := by
  try simp only [b_u_law_run_10, runEn, mMeth, mVar, mC, mOp, mUn, mCall, mCons, mNil, mIf, mAnd, mOr, mNot, mB, mTV, mAndV, mOrV, mNotV, mChain, asB, mIter, mItems, mValues, mIterA, mCut, mSome, mNone, pInt, mCallG, mCallK, sel, M.ret_bnd, M.opt_some, M.ass_t, M.bnd_bnd, M.stk_bnd, view, Sl.see, List.map_cons, List.map_nil, List.getElem?_cons_zero, List.getElem?_cons_succ, Option.join_some, List.set_cons_zero, List.set_cons_succ, sRet, sN, sIf, sAsg, sDrop, sNext, sUnp, sFor, sRetN, mBody, outV, startEn, List.length_cons, List.length_nil, List.replicate_succ, List.replicate_zero, List.cons_append, List.nil_append, M.calm_ret, tgN, tgTup, tgCons, tgNil, gvN, gvTup, gvCons, gvNil, wipeN, Option.toList_some, List.append_nil, if_true, Bool.not_true, Bool.not_false, Option.bind_some, items, itemsI, itemsV, Gv_bnd, Gv_ret, Gv_calm, dLst_0, dLst_1, dLst_2, dLst_3, dLst_4, dLst_5, dLst_6, dLst_7, dLst_8, dLst_9, dLst_10, dLst_11, dLst_12, dTup_0, dTup_1, dTup_2, dTup_3, dTup_4, dTup_5, dTup_6, dTup_7, dTup_8, assLt_0, decide_true, sPar, sON, sFN, sF, sV, sO, sVL, sOL, viewL, Sl.seeL, sApp, sPutK, sPopK, owL, owK, vaOf, vaAt, sFrz, bor, mBodyO, outO, sRetO, sCont, sBreak, Option.join_none, Bool.false_eq_true, if_false, List.foldl_cons, List.foldl_nil, oAdd_i, oSub_i, oInt_i, oNeg_i, eq_int, ne_int, ixT0, ixT1, ixT2, ixT3, sAugM, D_imm_i, D_imm_b, bInt_i, bInt_b, bAbs_i, bTuple_L, bLen_l, bLen_t, bLen_scr, bLen_d, D_imm_s, D_imm_n, ltSz, key_i, key_s]
  refine kept_g h.one ?_
  rw [due_repr (h.sk.st hk) hv (by omega)]
  try simp only [eq_shw1 (prs_plain _), mVar, mC, mOp, mUn, mCall, mCons, mNil, mIf, mAnd, mOr, mNot, mB, mTV, mAndV, mOrV, mNotV, mChain, asB, mIter, mItems, mValues, mIterA, mCut, mSome, mNone, pInt, mCallG, mCallK, sel, M.ret_bnd, M.opt_some, M.ass_t, M.bnd_bnd, M.stk_bnd, view, Sl.see, List.map_cons, List.map_nil, List.getElem?_cons_zero, List.getElem?_cons_succ, Option.join_some, List.set_cons_zero, List.set_cons_succ, sRet, sN, sIf, sAsg, sDrop, sNext, sUnp, sFor, sRetN, mBody, outV, startEn, List.length_cons, List.length_nil, List.replicate_succ, List.replicate_zero, List.cons_append, List.nil_append, M.calm_ret, tgN, tgTup, tgCons, tgNil, gvN, gvTup, gvCons, gvNil, wipeN, Option.toList_some, List.append_nil, if_true, Bool.not_true, Bool.not_false, Option.bind_some, items, itemsI, itemsV, Gv_bnd, Gv_ret, Gv_calm, dLst_0, dLst_1, dLst_2, dLst_3, dLst_4, dLst_5, dLst_6, dLst_7, dLst_8, dLst_9, dLst_10, dLst_11, dLst_12, dTup_0, dTup_1, dTup_2, dTup_3, dTup_4, dTup_5, dTup_6, dTup_7, dTup_8, assLt_0, decide_true, sPar, sON, sFN, sF, sV, sO, sVL, sOL, viewL, Sl.seeL, sApp, sPutK, sPopK, owL, owK, vaOf, vaAt, sFrz, bor, mBodyO, outO, sRetO, sCont, sBreak, Option.join_none, Bool.false_eq_true, if_false, List.foldl_cons, List.foldl_nil, oAdd_i, oSub_i, oInt_i, oNeg_i, eq_int, ne_int, ixT0, ixT1, ixT2, ixT3, sAugM, D_imm_i, D_imm_b, bInt_i, bInt_b, bAbs_i, bTuple_L, bLen_l, bLen_t, bLen_scr, bLen_d, D_imm_s, D_imm_n, ltSz, key_i, key_s]
  refine kept_g h.twin ?_
  rw [due_repr (h0.st hk) hv (by omega)]
  try simp only [eq_shw1 (prs_plain _), mVar, mC, mOp, mUn, mCall, mCons, mNil, mIf, mAnd, mOr, mNot, mB, mTV, mAndV, mOrV, mNotV, mChain, asB, mIter, mItems, mValues, mIterA, mCut, mSome, mNone, pInt, mCallG, mCallK, sel, M.ret_bnd, M.opt_some, M.ass_t, M.bnd_bnd, M.stk_bnd, view, Sl.see, List.map_cons, List.map_nil, List.getElem?_cons_zero, List.getElem?_cons_succ, Option.join_some, List.set_cons_zero, List.set_cons_succ, sRet, sN, sIf, sAsg, sDrop, sNext, sUnp, sFor, sRetN, mBody, outV, startEn, List.length_cons, List.length_nil, List.replicate_succ, List.replicate_zero, List.cons_append, List.nil_append, M.calm_ret, tgN, tgTup, tgCons, tgNil, gvN, gvTup, gvCons, gvNil, wipeN, Option.toList_some, List.append_nil, if_true, Bool.not_true, Bool.not_false, Option.bind_some, items, itemsI, itemsV, Gv_bnd, Gv_ret, Gv_calm, dLst_0, dLst_1, dLst_2, dLst_3, dLst_4, dLst_5, dLst_6, dLst_7, dLst_8, dLst_9, dLst_10, dLst_11, dLst_12, dTup_0, dTup_1, dTup_2, dTup_3, dTup_4, dTup_5, dTup_6, dTup_7, dTup_8, assLt_0, decide_true, sPar, sON, sFN, sF, sV, sO, sVL, sOL, viewL, Sl.seeL, sApp, sPutK, sPopK, owL, owK, vaOf, vaAt, sFrz, bor, mBodyO, outO, sRetO, sCont, sBreak, Option.join_none, Bool.false_eq_true, if_false, List.foldl_cons, List.foldl_nil, oAdd_i, oSub_i, oInt_i, oNeg_i, eq_int, ne_int, ixT0, ixT1, ixT2, ixT3, sAugM, D_imm_i, D_imm_b, bInt_i, bInt_b, bAbs_i, bTuple_L, bLen_l, bLen_t, bLen_scr, bLen_d, D_imm_s, D_imm_n, ltSz, key_i, key_s]
  exact kk
theorem run_gv (h : HqOk S) (hn0 : 0 < n) (hn : n ≤ 24) (hk : KsOk ks) (nd : ks.Nodup) (ht0 : 0 ≤ t) (ht : t ≤ 100) : Gv (m_u_law_run [.obj 1, .int n, .lst (ks.map .int), .int t]) S fun d S' => d = .bl true ∧ HqOk S' := by
  unfold m_u_law_run
  refine body_g rfl ?_
  show Gv (b_u_law_run [.va (.obj 1), .va (.int n), .va (.lst (ks.map .int)), .va (.int t), .no, .no, .no, .no, .no, .no, .no, .no, .no, .no, .no, .no, .no, .no, .no]) S _
  unfold b_u_law_run
  refine seq_g (run1_g h (by omega) (by omega) hk nd fun st k v q s S1 hst hv hs h1 => ?_)
  refine seq_g (run2_g ?_)
  refine seq_g (run3_g h1 fun r S2 h2 => ?_)
  refine seq_g (run4_g hk hst ?_)
  refine seq_g (run5_g hk hst hs hv hn ?_)
  refine seq_g (run6_g hk hst hs hv hn0 hn ?_)
  refine seq_g (run7_g hk hst fun X => ?_)
  have rp := due_repr (k := k) (s := s) (r := r) (hst.st hk) hv (by omega)
  refine seq_g ?_
  try simp only [rp, mVar, mC, mOp, mUn, mCall, mCons, mNil, mIf, mAnd, mOr, mNot, mB, mTV, mAndV, mOrV, mNotV, mChain, asB, mIter, mItems, mValues, mIterA, mCut, mSome, mNone, pInt, mCallG, mCallK, sel, M.ret_bnd, M.opt_some, M.ass_t, M.bnd_bnd, M.stk_bnd, view, Sl.see, List.map_cons, List.map_nil, List.getElem?_cons_zero, List.getElem?_cons_succ, Option.join_some, List.set_cons_zero, List.set_cons_succ, sRet, sN, sIf, sAsg, sDrop, sNext, sUnp, sFor, sRetN, mBody, outV, startEn, List.length_cons, List.length_nil, List.replicate_succ, List.replicate_zero, List.cons_append, List.nil_append, M.calm_ret, tgN, tgTup, tgCons, tgNil, gvN, gvTup, gvCons, gvNil, wipeN, Option.toList_some, List.append_nil, if_true, Bool.not_true, Bool.not_false, Option.bind_some, items, itemsI, itemsV, Gv_bnd, Gv_ret, Gv_calm, dLst_0, dLst_1, dLst_2, dLst_3, dLst_4, dLst_5, dLst_6, dLst_7, dLst_8, dLst_9, dLst_10, dLst_11, dLst_12, dTup_0, dTup_1, dTup_2, dTup_3, dTup_4, dTup_5, dTup_6, dTup_7, dTup_8, assLt_0, decide_true, sPar, sON, sFN, sF, sV, sO, sVL, sOL, viewL, Sl.seeL, sApp, sPutK, sPopK, owL, owK, vaOf, vaAt, sFrz, bor, mBodyO, outO, sRetO, sCont, sBreak, Option.join_none, Bool.false_eq_true, if_false, List.foldl_cons, List.foldl_nil, oAdd_i, oSub_i, oInt_i, oNeg_i, eq_int, ne_int, ixT0, ixT1, ixT2, ixT3, sAugM, D_imm_i, D_imm_b, bInt_i, bInt_b, bAbs_i, bTuple_L, bLen_l, bLen_t, bLen_scr, bLen_d, D_imm_s, D_imm_n, ltSz, key_i, key_s]
  refine seq_g ?_
  try simp only [rng1_i (show (-1000000 : Int) ≤ t by omega) (show t ≤ 1000000 by omega), mVar, mC, mOp, mUn, mCall, mCons, mNil, mIf, mAnd, mOr, mNot, mB, mTV, mAndV, mOrV, mNotV, mChain, asB, mIter, mItems, mValues, mIterA, mCut, mSome, mNone, pInt, mCallG, mCallK, sel, M.ret_bnd, M.opt_some, M.ass_t, M.bnd_bnd, M.stk_bnd, view, Sl.see, List.map_cons, List.map_nil, List.getElem?_cons_zero, List.getElem?_cons_succ, Option.join_some, List.set_cons_zero, List.set_cons_succ, sRet, sN, sIf, sAsg, sDrop, sNext, sUnp, sFor, sRetN, mBody, outV, startEn, List.length_cons, List.length_nil, List.replicate_succ, List.replicate_zero, List.cons_append, List.nil_append, M.calm_ret, tgN, tgTup, tgCons, tgNil, gvN, gvTup, gvCons, gvNil, wipeN, Option.toList_some, List.append_nil, if_true, Bool.not_true, Bool.not_false, Option.bind_some, items, itemsI, itemsV, Gv_bnd, Gv_ret, Gv_calm, dLst_0, dLst_1, dLst_2, dLst_3, dLst_4, dLst_5, dLst_6, dLst_7, dLst_8, dLst_9, dLst_10, dLst_11, dLst_12, dTup_0, dTup_1, dTup_2, dTup_3, dTup_4, dTup_5, dTup_6, dTup_7, dTup_8, assLt_0, decide_true, sPar, sON, sFN, sF, sV, sO, sVL, sOL, viewL, Sl.seeL, sApp, sPutK, sPopK, owL, owK, vaOf, vaAt, sFrz, bor, mBodyO, outO, sRetO, sCont, sBreak, Option.join_none, Bool.false_eq_true, if_false, List.foldl_cons, List.foldl_nil, oAdd_i, oSub_i, oInt_i, oNeg_i, eq_int, ne_int, ixT0, ixT1, ixT2, ixT3, sAugM, D_imm_i, D_imm_b, bInt_i, bInt_b, bAbs_i, bTuple_L, bLen_l, bLen_t, bLen_scr, bLen_d, D_imm_s, D_imm_n, ltSz, key_i, key_s]
  have l2 : 2 ≤ S2.length := h2.l2
  have o1 : (S2 ++ [nb k v r s (dueZ st k v s r)] ++ [nb k v r s (dueZ st k v s r)])[S2.length]? = some (nb k v r s (dueZ st k v s r)) := by simp
  have o2 : (S2 ++ [nb k v r s (dueZ st k v s r)] ++ [nb k v r s (dueZ st k v s r)])[S2.length + 1]? = some (nb k v r s (dueZ st k v s r)) := by simp
  refine loop_gv (fun i : Nat => D.int (0 + (i : Int))) (fun _ en S' => ∃ st' y z w, en = runEn n t ks st' k v q s r X S2.length st y z w ∧ RunOk n ks k v s r S2.length st st' S') (List.range t.toNat) ⟨st, .no, .no, .no, by rw [runEn, List.length_append]; rfl, (h2.app _).app _, l2, hst, o1, o2⟩ ?_ ?_
  · rintro pre x post en S3 _ ⟨st', y, z, w, rfl, ok⟩
    refine ⟨runEn n t ks st' k v q s r X S2.length st (.va (.int (0 + (x : Int)))) z w, rfl, ?_⟩
    refine (body_g' hk hs hv hn0 hn ok).mono ?_
    rintro _ S4 ⟨st2, z2, w2, rfl, ok2⟩
    exact ⟨st2, _, z2, w2, rfl, ok2⟩
  · rintro en S3 ⟨st', y, z, w, rfl, ok⟩
    exact run10_g hk hv hn hst ok ⟨rfl, ok.hq⟩
end
end Fw

namespace Fw
open PySem PySem.Spec PyProof.Rows L2

section
variable {S : Sto} {ns : List Int} {A B C F : Sl} {P : Fl → Sto → Prop}
theorem keys_g (h : HqOk S) (kk : ∀ ks S', KsOk ks → ks.Nodup → HqOk S' → P (.nx [.va (.scr ns), .va (.obj 1), A, .va (.lst (ks.map .int)), C, F]) S') : Gv (b_ulaw_L1_1 [.va (.scr ns), .va (.obj 1), A, B, C, F]) S P := by
  try simp only [b_ulaw_L1_1, mLc_split (mIterA _ _), mVar, mC, mOp, mUn, mCall, mCons, mNil, mIf, mAnd, mOr, mNot, mB, mTV, mAndV, mOrV, mNotV, mChain, asB, mIter, mItems, mValues, mIterA, mCut, mSome, mNone, pInt, mCallG, mCallK, sel, M.ret_bnd, M.opt_some, M.ass_t, M.bnd_bnd, M.stk_bnd, view, Sl.see, List.map_cons, List.map_nil, List.getElem?_cons_zero, List.getElem?_cons_succ, Option.join_some, List.set_cons_zero, List.set_cons_succ, sRet, sN, sIf, sAsg, sDrop, sNext, sUnp, sFor, sRetN, mBody, outV, startEn, List.length_cons, List.length_nil, List.replicate_succ, List.replicate_zero, List.cons_append, List.nil_append, M.calm_ret, tgN, tgTup, tgCons, tgNil, gvN, gvTup, gvCons, gvNil, wipeN, Option.toList_some, List.append_nil, if_true, Bool.not_true, Bool.not_false, Option.bind_some, items, itemsI, itemsV, Gv_bnd, Gv_ret, Gv_calm, dLst_0, dLst_1, dLst_2, dLst_3, dLst_4, dLst_5, dLst_6, dLst_7, dLst_8, dLst_9, dLst_10, dLst_11, dLst_12, dTup_0, dTup_1, dTup_2, dTup_3, dTup_4, dTup_5, dTup_6, dTup_7, dTup_8, assLt_0, decide_true, sPar, sON, sFN, sF, sV, sO, sVL, sOL, viewL, Sl.seeL, sApp, sPutK, sPopK, owL, owK, vaOf, vaAt, sFrz, bor, mBodyO, outO, sRetO, sCont, sBreak, Option.join_none, Bool.false_eq_true, if_false, List.foldl_cons, List.foldl_nil, oAdd_i, oSub_i, oInt_i, oNeg_i, eq_int, ne_int, ixT0, ixT1, ixT2, ixT3, sAugM, D_imm_i, D_imm_b, bInt_i, bInt_b, bAbs_i, bTuple_L, bLen_l, bLen_t, bLen_scr, bLen_d, D_imm_s, D_imm_n, ltSz, key_i, key_s]
  refine draw_g h (by decide) (by decide) fun m S1 m0 m1 h1 f1 => ?_
  try simp only [rng1_i (show (-1000000 : Int) ≤ 3 + m by omega) (show 3 + m ≤ 1000000 by omega), mVar, mC, mOp, mUn, mCall, mCons, mNil, mIf, mAnd, mOr, mNot, mB, mTV, mAndV, mOrV, mNotV, mChain, asB, mIter, mItems, mValues, mIterA, mCut, mSome, mNone, pInt, mCallG, mCallK, sel, M.ret_bnd, M.opt_some, M.ass_t, M.bnd_bnd, M.stk_bnd, view, Sl.see, List.map_cons, List.map_nil, List.getElem?_cons_zero, List.getElem?_cons_succ, Option.join_some, List.set_cons_zero, List.set_cons_succ, sRet, sN, sIf, sAsg, sDrop, sNext, sUnp, sFor, sRetN, mBody, outV, startEn, List.length_cons, List.length_nil, List.replicate_succ, List.replicate_zero, List.cons_append, List.nil_append, M.calm_ret, tgN, tgTup, tgCons, tgNil, gvN, gvTup, gvCons, gvNil, wipeN, Option.toList_some, List.append_nil, if_true, Bool.not_true, Bool.not_false, Option.bind_some, items, itemsI, itemsV, Gv_bnd, Gv_ret, Gv_calm, dLst_0, dLst_1, dLst_2, dLst_3, dLst_4, dLst_5, dLst_6, dLst_7, dLst_8, dLst_9, dLst_10, dLst_11, dLst_12, dTup_0, dTup_1, dTup_2, dTup_3, dTup_4, dTup_5, dTup_6, dTup_7, dTup_8, assLt_0, decide_true, sPar, sON, sFN, sF, sV, sO, sVL, sOL, viewL, Sl.seeL, sApp, sPutK, sPopK, owL, owK, vaOf, vaAt, sFrz, bor, mBodyO, outO, sRetO, sCont, sBreak, Option.join_none, Bool.false_eq_true, if_false, List.foldl_cons, List.foldl_nil, oAdd_i, oSub_i, oInt_i, oNeg_i, eq_int, ne_int, ixT0, ixT1, ixT2, ixT3, sAugM, D_imm_i, D_imm_b, bInt_i, bInt_b, bAbs_i, bTuple_L, bLen_l, bLen_t, bLen_scr, bLen_d, D_imm_s, D_imm_n, ltSz, key_i, key_s]
  refine lcs_gv (fun i : Nat => D.int (0 + (i : Int))) (fun pre ys S' => HqOk S' ∧ ∃ vs : List Int, ys = vs.map .int ∧ vs.length = pre.length ∧ vs.Nodup ∧ ∀ x ∈ vs, 0 ≤ x ∧ x < 3 * (pre.length : Int)) (List.range (3 + m).toNat) rfl (by simp; omega) ⟨h1, [], rfl, rfl, List.nodup_nil, fun x hx => nomatch hx⟩ ?_ ?_
  · rintro pre x post ys S2 eq ⟨h2, vs, rfl, vl, vn, vb⟩
    obtain ⟨rfl, hx⟩ := range_split eq
    refine ⟨_, rfl, ?_⟩
    try simp only [oMul_l (show (3 : Int).natAbs < 2 ^ 64 by decide), mYes, mVar, mC, mOp, mUn, mCall, mCons, mNil, mIf, mAnd, mOr, mNot, mB, mTV, mAndV, mOrV, mNotV, mChain, asB, mIter, mItems, mValues, mIterA, mCut, mSome, mNone, pInt, mCallG, mCallK, sel, M.ret_bnd, M.opt_some, M.ass_t, M.bnd_bnd, M.stk_bnd, view, Sl.see, List.map_cons, List.map_nil, List.getElem?_cons_zero, List.getElem?_cons_succ, Option.join_some, List.set_cons_zero, List.set_cons_succ, sRet, sN, sIf, sAsg, sDrop, sNext, sUnp, sFor, sRetN, mBody, outV, startEn, List.length_cons, List.length_nil, List.replicate_succ, List.replicate_zero, List.cons_append, List.nil_append, M.calm_ret, tgN, tgTup, tgCons, tgNil, gvN, gvTup, gvCons, gvNil, wipeN, Option.toList_some, List.append_nil, if_true, Bool.not_true, Bool.not_false, Option.bind_some, items, itemsI, itemsV, Gv_bnd, Gv_ret, Gv_calm, dLst_0, dLst_1, dLst_2, dLst_3, dLst_4, dLst_5, dLst_6, dLst_7, dLst_8, dLst_9, dLst_10, dLst_11, dLst_12, dTup_0, dTup_1, dTup_2, dTup_3, dTup_4, dTup_5, dTup_6, dTup_7, dTup_8, assLt_0, decide_true, sPar, sON, sFN, sF, sV, sO, sVL, sOL, viewL, Sl.seeL, sApp, sPutK, sPopK, owL, owK, vaOf, vaAt, sFrz, bor, mBodyO, outO, sRetO, sCont, sBreak, Option.join_none, Bool.false_eq_true, if_false, List.foldl_cons, List.foldl_nil, oAdd_i, oSub_i, oInt_i, oNeg_i, eq_int, ne_int, ixT0, ixT1, ixT2, ixT3, sAugM, D_imm_i, D_imm_b, bInt_i, bInt_b, bAbs_i, bTuple_L, bLen_l, bLen_t, bLen_scr, bLen_d, D_imm_s, D_imm_n, ltSz, key_i, key_s]
    refine draw_g h2 (by decide) (by decide) fun j S3 j0 j1 h3 f3 => ?_
    try simp only [mVar, mC, mOp, mUn, mCall, mCons, mNil, mIf, mAnd, mOr, mNot, mB, mTV, mAndV, mOrV, mNotV, mChain, asB, mIter, mItems, mValues, mIterA, mCut, mSome, mNone, pInt, mCallG, mCallK, sel, M.ret_bnd, M.opt_some, M.ass_t, M.bnd_bnd, M.stk_bnd, view, Sl.see, List.map_cons, List.map_nil, List.getElem?_cons_zero, List.getElem?_cons_succ, Option.join_some, List.set_cons_zero, List.set_cons_succ, sRet, sN, sIf, sAsg, sDrop, sNext, sUnp, sFor, sRetN, mBody, outV, startEn, List.length_cons, List.length_nil, List.replicate_succ, List.replicate_zero, List.cons_append, List.nil_append, M.calm_ret, tgN, tgTup, tgCons, tgNil, gvN, gvTup, gvCons, gvNil, wipeN, Option.toList_some, List.append_nil, if_true, Bool.not_true, Bool.not_false, Option.bind_some, items, itemsI, itemsV, Gv_bnd, Gv_ret, Gv_calm, dLst_0, dLst_1, dLst_2, dLst_3, dLst_4, dLst_5, dLst_6, dLst_7, dLst_8, dLst_9, dLst_10, dLst_11, dLst_12, dTup_0, dTup_1, dTup_2, dTup_3, dTup_4, dTup_5, dTup_6, dTup_7, dTup_8, assLt_0, decide_true, sPar, sON, sFN, sF, sV, sO, sVL, sOL, viewL, Sl.seeL, sApp, sPutK, sPopK, owL, owK, vaOf, vaAt, sFrz, bor, mBodyO, outO, sRetO, sCont, sBreak, Option.join_none, Bool.false_eq_true, if_false, List.foldl_cons, List.foldl_nil, oAdd_i, oSub_i, oInt_i, oNeg_i, eq_int, ne_int, ixT0, ixT1, ixT2, ixT3, sAugM, D_imm_i, D_imm_b, bInt_i, bInt_b, bAbs_i, bTuple_L, bLen_l, bLen_t, bLen_scr, bLen_d, D_imm_s, D_imm_n, ltSz, key_i, key_s]
    refine ⟨h3, vs ++ [3 * (0 + (pre.length : Int)) + j], by rw [List.map_append]; rfl, by simp [vl], ?_, ?_⟩
    · rw [List.nodup_append]
      refine ⟨vn, by simp, ?_⟩
      intro a ha b hb e
      have := vb a ha
      obtain rfl := List.mem_singleton.mp hb
      omega
    · intro y hy
      rw [List.length_append]
      rcases List.mem_append.mp hy with hy | hy
      · have := vb y hy
        simp; omega
      · obtain rfl := List.mem_singleton.mp hy
        simp; omega
  · rintro ys S2 ⟨h2, vs, rfl, vl, vn, vb⟩
    try simp only [immC_ints, mVar, mC, mOp, mUn, mCall, mCons, mNil, mIf, mAnd, mOr, mNot, mB, mTV, mAndV, mOrV, mNotV, mChain, asB, mIter, mItems, mValues, mIterA, mCut, mSome, mNone, pInt, mCallG, mCallK, sel, M.ret_bnd, M.opt_some, M.ass_t, M.bnd_bnd, M.stk_bnd, view, Sl.see, List.map_cons, List.map_nil, List.getElem?_cons_zero, List.getElem?_cons_succ, Option.join_some, List.set_cons_zero, List.set_cons_succ, sRet, sN, sIf, sAsg, sDrop, sNext, sUnp, sFor, sRetN, mBody, outV, startEn, List.length_cons, List.length_nil, List.replicate_succ, List.replicate_zero, List.cons_append, List.nil_append, M.calm_ret, tgN, tgTup, tgCons, tgNil, gvN, gvTup, gvCons, gvNil, wipeN, Option.toList_some, List.append_nil, if_true, Bool.not_true, Bool.not_false, Option.bind_some, items, itemsI, itemsV, Gv_bnd, Gv_ret, Gv_calm, dLst_0, dLst_1, dLst_2, dLst_3, dLst_4, dLst_5, dLst_6, dLst_7, dLst_8, dLst_9, dLst_10, dLst_11, dLst_12, dTup_0, dTup_1, dTup_2, dTup_3, dTup_4, dTup_5, dTup_6, dTup_7, dTup_8, assLt_0, decide_true, sPar, sON, sFN, sF, sV, sO, sVL, sOL, viewL, Sl.seeL, sApp, sPutK, sPopK, owL, owK, vaOf, vaAt, sFrz, bor, mBodyO, outO, sRetO, sCont, sBreak, Option.join_none, Bool.false_eq_true, if_false, List.foldl_cons, List.foldl_nil, oAdd_i, oSub_i, oInt_i, oNeg_i, eq_int, ne_int, ixT0, ixT1, ixT2, ixT3, sAugM, D_imm_i, D_imm_b, bInt_i, bInt_b, bAbs_i, bTuple_L, bLen_l, bLen_t, bLen_scr, bLen_d, D_imm_s, D_imm_n, ltSz, key_i, key_s]
    have l : ((List.range (3 + m).toNat).length : Int) = 3 + m := by rw [List.length_range]; omega
    refine kk vs S2 ⟨by omega, fun x hx => ?_, by omega, fun x hx => (vb x hx).1⟩ vn h2
    have := vb x hx
    omega
theorem runs_g (h : HqOk S) {ks : List Int} (hk : KsOk ks) (nd : ks.Nodup) (kk : ∀ S', HqOk S' → P (.nx [.va (.scr ns), .va (.obj 1), A, .va (.lst (ks.map .int)), C, F]) S') : Gv (b_ulaw_L1_2 [.va (.scr ns), .va (.obj 1), A, .va (.lst (ks.map .int)), C, F]) S P := by
  try simp only [b_ulaw_L1_2, mVar, mC, mOp, mUn, mCall, mCons, mNil, mIf, mAnd, mOr, mNot, mB, mTV, mAndV, mOrV, mNotV, mChain, asB, mIter, mItems, mValues, mIterA, mCut, mSome, mNone, pInt, mCallG, mCallK, sel, M.ret_bnd, M.opt_some, M.ass_t, M.bnd_bnd, M.stk_bnd, view, Sl.see, List.map_cons, List.map_nil, List.getElem?_cons_zero, List.getElem?_cons_succ, Option.join_some, List.set_cons_zero, List.set_cons_succ, sRet, sN, sIf, sAsg, sDrop, sNext, sUnp, sFor, sRetN, mBody, outV, startEn, List.length_cons, List.length_nil, List.replicate_succ, List.replicate_zero, List.cons_append, List.nil_append, M.calm_ret, tgN, tgTup, tgCons, tgNil, gvN, gvTup, gvCons, gvNil, wipeN, Option.toList_some, List.append_nil, if_true, Bool.not_true, Bool.not_false, Option.bind_some, items, itemsI, itemsV, Gv_bnd, Gv_ret, Gv_calm, dLst_0, dLst_1, dLst_2, dLst_3, dLst_4, dLst_5, dLst_6, dLst_7, dLst_8, dLst_9, dLst_10, dLst_11, dLst_12, dTup_0, dTup_1, dTup_2, dTup_3, dTup_4, dTup_5, dTup_6, dTup_7, dTup_8, assLt_0, decide_true, sPar, sON, sFN, sF, sV, sO, sVL, sOL, viewL, Sl.seeL, sApp, sPutK, sPopK, owL, owK, vaOf, vaAt, sFrz, bor, mBodyO, outO, sRetO, sCont, sBreak, Option.join_none, Bool.false_eq_true, if_false, List.foldl_cons, List.foldl_nil, oAdd_i, oSub_i, oInt_i, oNeg_i, eq_int, ne_int, ixT0, ixT1, ixT2, ixT3, sAugM, D_imm_i, D_imm_b, bInt_i, bInt_b, bAbs_i, bTuple_L, bLen_l, bLen_t, bLen_scr, bLen_d, D_imm_s, D_imm_n, ltSz, key_i, key_s]
  refine pick_g h (by decide) (by decide) fun d S1 hd h1 f1 => ?_
  obtain ⟨n, rfl, n0, n1⟩ : ∃ n : Int, d = .int n ∧ 0 < n ∧ n ≤ 8 := by
    simp only [List.mem_cons, List.not_mem_nil, or_false] at hd
    rcases hd with rfl | rfl | rfl | rfl | rfl <;> exact ⟨_, rfl, by decide, by decide⟩
  try simp only [mVar, mC, mOp, mUn, mCall, mCons, mNil, mIf, mAnd, mOr, mNot, mB, mTV, mAndV, mOrV, mNotV, mChain, asB, mIter, mItems, mValues, mIterA, mCut, mSome, mNone, pInt, mCallG, mCallK, sel, M.ret_bnd, M.opt_some, M.ass_t, M.bnd_bnd, M.stk_bnd, view, Sl.see, List.map_cons, List.map_nil, List.getElem?_cons_zero, List.getElem?_cons_succ, Option.join_some, List.set_cons_zero, List.set_cons_succ, sRet, sN, sIf, sAsg, sDrop, sNext, sUnp, sFor, sRetN, mBody, outV, startEn, List.length_cons, List.length_nil, List.replicate_succ, List.replicate_zero, List.cons_append, List.nil_append, M.calm_ret, tgN, tgTup, tgCons, tgNil, gvN, gvTup, gvCons, gvNil, wipeN, Option.toList_some, List.append_nil, if_true, Bool.not_true, Bool.not_false, Option.bind_some, items, itemsI, itemsV, Gv_bnd, Gv_ret, Gv_calm, dLst_0, dLst_1, dLst_2, dLst_3, dLst_4, dLst_5, dLst_6, dLst_7, dLst_8, dLst_9, dLst_10, dLst_11, dLst_12, dTup_0, dTup_1, dTup_2, dTup_3, dTup_4, dTup_5, dTup_6, dTup_7, dTup_8, assLt_0, decide_true, sPar, sON, sFN, sF, sV, sO, sVL, sOL, viewL, Sl.seeL, sApp, sPutK, sPopK, owL, owK, vaOf, vaAt, sFrz, bor, mBodyO, outO, sRetO, sCont, sBreak, Option.join_none, Bool.false_eq_true, if_false, List.foldl_cons, List.foldl_nil, oAdd_i, oSub_i, oInt_i, oNeg_i, eq_int, ne_int, ixT0, ixT1, ixT2, ixT3, sAugM, D_imm_i, D_imm_b, bInt_i, bInt_b, bAbs_i, bTuple_L, bLen_l, bLen_t, bLen_scr, bLen_d, D_imm_s, D_imm_n, ltSz, key_i, key_s]
  refine draw_g h1 (by decide) (by decide) fun t S2 t0 t1 h2 f2 => ?_
  try simp only [mVar, mC, mOp, mUn, mCall, mCons, mNil, mIf, mAnd, mOr, mNot, mB, mTV, mAndV, mOrV, mNotV, mChain, asB, mIter, mItems, mValues, mIterA, mCut, mSome, mNone, pInt, mCallG, mCallK, sel, M.ret_bnd, M.opt_some, M.ass_t, M.bnd_bnd, M.stk_bnd, view, Sl.see, List.map_cons, List.map_nil, List.getElem?_cons_zero, List.getElem?_cons_succ, Option.join_some, List.set_cons_zero, List.set_cons_succ, sRet, sN, sIf, sAsg, sDrop, sNext, sUnp, sFor, sRetN, mBody, outV, startEn, List.length_cons, List.length_nil, List.replicate_succ, List.replicate_zero, List.cons_append, List.nil_append, M.calm_ret, tgN, tgTup, tgCons, tgNil, gvN, gvTup, gvCons, gvNil, wipeN, Option.toList_some, List.append_nil, if_true, Bool.not_true, Bool.not_false, Option.bind_some, items, itemsI, itemsV, Gv_bnd, Gv_ret, Gv_calm, dLst_0, dLst_1, dLst_2, dLst_3, dLst_4, dLst_5, dLst_6, dLst_7, dLst_8, dLst_9, dLst_10, dLst_11, dLst_12, dTup_0, dTup_1, dTup_2, dTup_3, dTup_4, dTup_5, dTup_6, dTup_7, dTup_8, assLt_0, decide_true, sPar, sON, sFN, sF, sV, sO, sVL, sOL, viewL, Sl.seeL, sApp, sPutK, sPopK, owL, owK, vaOf, vaAt, sFrz, bor, mBodyO, outO, sRetO, sCont, sBreak, Option.join_none, Bool.false_eq_true, if_false, List.foldl_cons, List.foldl_nil, oAdd_i, oSub_i, oInt_i, oNeg_i, eq_int, ne_int, ixT0, ixT1, ixT2, ixT3, sAugM, D_imm_i, D_imm_b, bInt_i, bInt_b, bAbs_i, bTuple_L, bLen_l, bLen_t, bLen_scr, bLen_d, D_imm_s, D_imm_n, ltSz, key_i, key_s]
  refine (run_gv h2 n0 (by omega) hk nd (by omega) (by omega)).mono ?_
  rintro _ S3 ⟨rfl, h3⟩
  try simp only [mVar, mC, mOp, mUn, mCall, mCons, mNil, mIf, mAnd, mOr, mNot, mB, mTV, mAndV, mOrV, mNotV, mChain, asB, mIter, mItems, mValues, mIterA, mCut, mSome, mNone, pInt, mCallG, mCallK, sel, M.ret_bnd, M.opt_some, M.ass_t, M.bnd_bnd, M.stk_bnd, view, Sl.see, List.map_cons, List.map_nil, List.getElem?_cons_zero, List.getElem?_cons_succ, Option.join_some, List.set_cons_zero, List.set_cons_succ, sRet, sN, sIf, sAsg, sDrop, sNext, sUnp, sFor, sRetN, mBody, outV, startEn, List.length_cons, List.length_nil, List.replicate_succ, List.replicate_zero, List.cons_append, List.nil_append, M.calm_ret, tgN, tgTup, tgCons, tgNil, gvN, gvTup, gvCons, gvNil, wipeN, Option.toList_some, List.append_nil, if_true, Bool.not_true, Bool.not_false, Option.bind_some, items, itemsI, itemsV, Gv_bnd, Gv_ret, Gv_calm, dLst_0, dLst_1, dLst_2, dLst_3, dLst_4, dLst_5, dLst_6, dLst_7, dLst_8, dLst_9, dLst_10, dLst_11, dLst_12, dTup_0, dTup_1, dTup_2, dTup_3, dTup_4, dTup_5, dTup_6, dTup_7, dTup_8, assLt_0, decide_true, sPar, sON, sFN, sF, sV, sO, sVL, sOL, viewL, Sl.seeL, sApp, sPutK, sPopK, owL, owK, vaOf, vaAt, sFrz, bor, mBodyO, outO, sRetO, sCont, sBreak, Option.join_none, Bool.false_eq_true, if_false, List.foldl_cons, List.foldl_nil, oAdd_i, oSub_i, oInt_i, oNeg_i, eq_int, ne_int, ixT0, ixT1, ixT2, ixT3, sAugM, D_imm_i, D_imm_b, bInt_i, bInt_b, bAbs_i, bTuple_L, bLen_l, bLen_t, bLen_scr, bLen_d, D_imm_s, D_imm_n, ltSz, key_i, key_s]
  exact kk S3 h3
end
end Fw

namespace Fw
open PySem PySem.Spec PyProof.Rows L2

def sv0 : Sv := .one (.noh "a")
theorem sv0_ok : sv0.ok := strOk_lit _
theorem vc0 : VcOk 2 [0, 0] := ⟨rfl, fun x hx => by simp at hx; omega⟩
theorem told_c {n : Nat} {S : Sto} {ps ps' : List (Int × Int)} {d : Dd} {P : D → Sto → Prop} (h : S[n]? = some (nb .sq [0, 0] 25 sv0 ps)) (hl : ps.length ≤ 900) (hd : d.ok 2) (e : srt leP ((ps.filter fun p => !decide (p.2 = d.key)) ++ newZ .sq [0, 0] sv0 25 d) = ps') (q : P (newsZ ps ps') (S.set n (nb .sq [0, 0] 25 sv0 ps'))) :
    Gv (insOf "Nearby" "told" (.obj n)) S fun _ S' => Gv (m_uNearby_told [.obj n, eD d]) S' P := by
  subst e
  exact Gv.of_eqS (insOf_ev h lk_told) (Gv.of_eqS (told_ev h sv0_ok vc0 (by decide) hd hl) q)
theorem dok {k : Int} {v : List Int} {ls : List (Str × Int)} (hv : v.length = 2) (hb : ∀ x ∈ v, x.natAbs ≤ 20000) (hl : LsOk ls) (nd : (ls.map (·.1)).Nodup) (hk : k.natAbs ≤ 1000) : (Dd.put ⟨k, v, ls⟩).ok 2 := ⟨hv, hb, hl, nd, hk⟩
theorem ls0 : LsOk [] := ⟨(fun p hp => nomatch hp), by decide⟩
theorem newsZ_ly (a b : List (Int × Int)) : (newsZ a b).ly 4 = true := by
  have h : ∀ l : List (Int × Int), (l.map pD).all (D.ly 2) = true := fun l => by
    rw [List.all_eq_true]
    intro d hd
    obtain ⟨p, _, rfl⟩ := List.mem_map.mp hd
    rfl
  simp only [newsZ, D.ly, List.all_cons, List.all_nil, h, Bool.and_self]
section
variable {S : Sto} {A B C E F : Sl} {P : Fl → Sto → Prop} {a : Nat}
theorem law3_g (kk : P (.nx [A, B, C, E, .va (.obj S.length), F]) (S ++ [nb .sq [0, 0] 25 sv0 []])) : Gv (b_ulaw_3 [A, B, C, E, F, F]) S P := by
  try simp only [b_ulaw_3, mVar, mC, mOp, mUn, mCall, mCons, mNil, mIf, mAnd, mOr, mNot, mB, mTV, mAndV, mOrV, mNotV, mChain, asB, mIter, mItems, mValues, mIterA, mCut, mSome, mNone, pInt, mCallG, mCallK, sel, M.ret_bnd, M.opt_some, M.ass_t, M.bnd_bnd, M.stk_bnd, view, Sl.see, List.map_cons, List.map_nil, List.getElem?_cons_zero, List.getElem?_cons_succ, Option.join_some, List.set_cons_zero, List.set_cons_succ, sRet, sN, sIf, sAsg, sDrop, sNext, sUnp, sFor, sRetN, mBody, outV, startEn, List.length_cons, List.length_nil, List.replicate_succ, List.replicate_zero, List.cons_append, List.nil_append, M.calm_ret, tgN, tgTup, tgCons, tgNil, gvN, gvTup, gvCons, gvNil, wipeN, Option.toList_some, List.append_nil, if_true, Bool.not_true, Bool.not_false, Option.bind_some, items, itemsI, itemsV, Gv_bnd, Gv_ret, Gv_calm, dLst_0, dLst_1, dLst_2, dLst_3, dLst_4, dLst_5, dLst_6, dLst_7, dLst_8, dLst_9, dLst_10, dLst_11, dLst_12, dTup_0, dTup_1, dTup_2, dTup_3, dTup_4, dTup_5, dTup_6, dTup_7, dTup_8, assLt_0, decide_true, sPar, sON, sFN, sF, sV, sO, sVL, sOL, viewL, Sl.seeL, sApp, sPutK, sPopK, owL, owK, vaOf, vaAt, sFrz, bor, mBodyO, outO, sRetO, sCont, sBreak, Option.join_none, Bool.false_eq_true, if_false, List.foldl_cons, List.foldl_nil, oAdd_i, oSub_i, oInt_i, oNeg_i, eq_int, ne_int, ixT0, ixT1, ixT2, ixT3, sAugM, D_imm_i, D_imm_b, bInt_i, bInt_b, bAbs_i, bTuple_L, bLen_l, bLen_t, bLen_scr, bLen_d, D_imm_s, D_imm_n, ltSz, key_i, key_s]
  have st0 : StOk 2 [] := ⟨List.nodup_nil, (fun p hp => nomatch hp), (fun p hp => nomatch hp), by decide⟩
  have m := make_ev (k := .sq) (v := [0, 0]) (r := 25) (s := sv0) (st := []) (S := S) (ix := [(0, 0), (0, 1), (0, 2), (0, 3), (0, 4), (0, 5)]) (a := (mCons (mC (.dic [])) (mCons (mC (.str "square")) (mCons (mCall dTup (mCons (mC (.int 0)) (mCons (mC (.int 0)) mNil))) (mCons (mC (.int 25)) (mCons (mCall dTup (mCons (mC (.str "not")) (mCons (mCall dTup (mCons (mC (.str "has")) (mCons (mC (.str "a")) mNil))) mNil))) mNil)))))) (kk := mNil) (env := view false [A, B, C, E, F, F])
    (ds := [eSt [], .str Kn.sq.s, eV [0, 0], .int 25, eS sv0]) (es := []) (by try simp only [mVar, mC, mOp, mUn, mCall, mCons, mNil, mIf, mAnd, mOr, mNot, mB, mTV, mAndV, mOrV, mNotV, mChain, asB, mIter, mItems, mValues, mIterA, mCut, mSome, mNone, pInt, mCallG, mCallK, sel, M.ret_bnd, M.opt_some, M.ass_t, M.bnd_bnd, M.stk_bnd, view, Sl.see, List.map_cons, List.map_nil, List.getElem?_cons_zero, List.getElem?_cons_succ, Option.join_some, List.set_cons_zero, List.set_cons_succ, sSeq, sRet, sN, sIf, sAsg, sDrop, sNext, sUnp, sFor, sRetN, mBody, outV, startEn, List.length_cons, List.length_nil, List.replicate_succ, List.replicate_zero, List.cons_append, List.nil_append, M.calm_ret, tgN, tgTup, tgCons, tgNil, gvN, gvTup, gvCons, gvNil, wipeN, Option.toList_some, List.append_nil, if_true, Bool.not_true, Bool.not_false, Option.bind_some, items, itemsI, itemsV, Gv_bnd, Gv_ret, Gv_calm, dLst_0, dLst_1, dLst_2, dLst_3, dLst_4, dLst_5, dLst_6, dLst_7, dLst_8, dLst_9, dLst_10, dLst_11, dLst_12, dTup_0, dTup_1, dTup_2, dTup_3, dTup_4, dTup_5, dTup_6, dTup_7, dTup_8, assLt_0, decide_true, sPar, sON, sFN, sF, sV, sO, sVL, sOL, viewL, Sl.seeL, sApp, sPutK, sPopK, owL, owK, vaOf, vaAt, sFrz, bor, mBodyO, outO, sRetO, sCont, sBreak, Option.join_none, Bool.false_eq_true, if_false, List.foldl_cons, List.foldl_nil, oAdd_i, oSub_i, oInt_i, oNeg_i, eq_int, ne_int, ixT0, ixT1, ixT2, ixT3, sAugM, D_imm_i, D_imm_b, bInt_i, bInt_b, bAbs_i, bTuple_L, bLen_l, bLen_t, bLen_scr, bLen_d, D_imm_s, D_imm_n, ltSz, key_i, key_s]; rfl) rfl (fun x => rfl) st0 sv0_ok vc0 (by decide)
  have e : dueZ [] .sq [0, 0] sv0 25 = [] := rfl
  rw [e] at m
  simp only [view, List.map_cons, List.map_nil] at m
  refine Gv.of_eqS m ?_
  try simp only [mVar, mC, mOp, mUn, mCall, mCons, mNil, mIf, mAnd, mOr, mNot, mB, mTV, mAndV, mOrV, mNotV, mChain, asB, mIter, mItems, mValues, mIterA, mCut, mSome, mNone, pInt, mCallG, mCallK, sel, M.ret_bnd, M.opt_some, M.ass_t, M.bnd_bnd, M.stk_bnd, view, Sl.see, List.map_cons, List.map_nil, List.getElem?_cons_zero, List.getElem?_cons_succ, Option.join_some, List.set_cons_zero, List.set_cons_succ, sRet, sN, sIf, sAsg, sDrop, sNext, sUnp, sFor, sRetN, mBody, outV, startEn, List.length_cons, List.length_nil, List.replicate_succ, List.replicate_zero, List.cons_append, List.nil_append, M.calm_ret, tgN, tgTup, tgCons, tgNil, gvN, gvTup, gvCons, gvNil, wipeN, Option.toList_some, List.append_nil, if_true, Bool.not_true, Bool.not_false, Option.bind_some, items, itemsI, itemsV, Gv_bnd, Gv_ret, Gv_calm, dLst_0, dLst_1, dLst_2, dLst_3, dLst_4, dLst_5, dLst_6, dLst_7, dLst_8, dLst_9, dLst_10, dLst_11, dLst_12, dTup_0, dTup_1, dTup_2, dTup_3, dTup_4, dTup_5, dTup_6, dTup_7, dTup_8, assLt_0, decide_true, sPar, sON, sFN, sF, sV, sO, sVL, sOL, viewL, Sl.seeL, sApp, sPutK, sPopK, owL, owK, vaOf, vaAt, sFrz, bor, mBodyO, outO, sRetO, sCont, sBreak, Option.join_none, Bool.false_eq_true, if_false, List.foldl_cons, List.foldl_nil, oAdd_i, oSub_i, oInt_i, oNeg_i, eq_int, ne_int, ixT0, ixT1, ixT2, ixT3, sAugM, D_imm_i, D_imm_b, bInt_i, bInt_b, bAbs_i, bTuple_L, bLen_l, bLen_t, bLen_scr, bLen_d, D_imm_s, D_imm_n, ltSz, key_i, key_s]
  exact kk
theorem n1 : newsZ [] [(25, 4)] = .tup [.tup [], .tup [.tup [.int 25, .int 4]]] := rfl
theorem n2 : newsZ [(25, 4)] [(25, 4)] = .tup [.tup [], .tup []] := rfl
theorem n3 : newsZ [(25, 4)] [] = .tup [.tup [.tup [.int 25, .int 4]], .tup []] := rfl
theorem n4 : newsZ [] [] = .tup [.tup [], .tup []] := rfl
theorem n5 : newsZ [] [(25, 6)] = .tup [.tup [], .tup [.tup [.int 25, .int 6]]] := rfl
theorem n6 : newsZ [(25, 6)] [(1, 6)] = .tup [.tup [.tup [.int 25, .int 6]], .tup [.tup [.int 1, .int 6]]] := rfl
theorem ne_n {a b : List (Int × Int)} {y : D} (h : newsZ a b = y) : oNe (newsZ a b) y = M.ret (.bl false) := by rw [← h]; exact ne_same (newsZ_ly a b)
theorem eq_n {a b : List (Int × Int)} {y : D} (h : newsZ a b = y) : oEq (newsZ a b) y = M.ret (.bl true) := by rw [← h]; exact eq_same (newsZ_ly a b)
theorem ne_00 : oNe (.tup []) (.tup []) = M.ret (.bl false) := ne_same (n := 1) rfl
theorem law4_g (h : S[a]? = some (nb .sq [0, 0] 25 sv0 [])) (kk : ∀ S', S'[a]? = some (nb .sq [0, 0] 25 sv0 [(25, 4)]) → P (.nx [A, B, C, E, .va (.obj a), F]) S') : Gv (b_ulaw_4 [A, B, C, E, .va (.obj a), F]) S P := by
  try simp only [b_ulaw_4, mMeth, mVar, mC, mOp, mUn, mCall, mCons, mNil, mIf, mAnd, mOr, mNot, mB, mTV, mAndV, mOrV, mNotV, mChain, asB, mIter, mItems, mValues, mIterA, mCut, mSome, mNone, pInt, mCallG, mCallK, sel, M.ret_bnd, M.opt_some, M.ass_t, M.bnd_bnd, M.stk_bnd, view, Sl.see, List.map_cons, List.map_nil, List.getElem?_cons_zero, List.getElem?_cons_succ, Option.join_some, List.set_cons_zero, List.set_cons_succ, sRet, sN, sIf, sAsg, sDrop, sNext, sUnp, sFor, sRetN, mBody, outV, startEn, List.length_cons, List.length_nil, List.replicate_succ, List.replicate_zero, List.cons_append, List.nil_append, M.calm_ret, tgN, tgTup, tgCons, tgNil, gvN, gvTup, gvCons, gvNil, wipeN, Option.toList_some, List.append_nil, if_true, Bool.not_true, Bool.not_false, Option.bind_some, items, itemsI, itemsV, Gv_bnd, Gv_ret, Gv_calm, dLst_0, dLst_1, dLst_2, dLst_3, dLst_4, dLst_5, dLst_6, dLst_7, dLst_8, dLst_9, dLst_10, dLst_11, dLst_12, dTup_0, dTup_1, dTup_2, dTup_3, dTup_4, dTup_5, dTup_6, dTup_7, dTup_8, assLt_0, decide_true, sPar, sON, sFN, sF, sV, sO, sVL, sOL, viewL, Sl.seeL, sApp, sPutK, sPopK, owL, owK, vaOf, vaAt, sFrz, bor, mBodyO, outO, sRetO, sCont, sBreak, Option.join_none, Bool.false_eq_true, if_false, List.foldl_cons, List.foldl_nil, oAdd_i, oSub_i, oInt_i, oNeg_i, eq_int, ne_int, ixT0, ixT1, ixT2, ixT3, sAugM, D_imm_i, D_imm_b, bInt_i, bInt_b, bAbs_i, bTuple_L, bLen_l, bLen_t, bLen_scr, bLen_d, D_imm_s, D_imm_n, ltSz, key_i, key_s]
  refine kept_g h ?_
  try simp only [ne_00, mVar, mC, mOp, mUn, mCall, mCons, mNil, mIf, mAnd, mOr, mNot, mB, mTV, mAndV, mOrV, mNotV, mChain, asB, mIter, mItems, mValues, mIterA, mCut, mSome, mNone, pInt, mCallG, mCallK, sel, M.ret_bnd, M.opt_some, M.ass_t, M.bnd_bnd, M.stk_bnd, view, Sl.see, List.map_cons, List.map_nil, List.getElem?_cons_zero, List.getElem?_cons_succ, Option.join_some, List.set_cons_zero, List.set_cons_succ, sRet, sN, sIf, sAsg, sDrop, sNext, sUnp, sFor, sRetN, mBody, outV, startEn, List.length_cons, List.length_nil, List.replicate_succ, List.replicate_zero, List.cons_append, List.nil_append, M.calm_ret, tgN, tgTup, tgCons, tgNil, gvN, gvTup, gvCons, gvNil, wipeN, Option.toList_some, List.append_nil, if_true, Bool.not_true, Bool.not_false, Option.bind_some, items, itemsI, itemsV, Gv_bnd, Gv_ret, Gv_calm, dLst_0, dLst_1, dLst_2, dLst_3, dLst_4, dLst_5, dLst_6, dLst_7, dLst_8, dLst_9, dLst_10, dLst_11, dLst_12, dTup_0, dTup_1, dTup_2, dTup_3, dTup_4, dTup_5, dTup_6, dTup_7, dTup_8, assLt_0, decide_true, sPar, sON, sFN, sF, sV, sO, sVL, sOL, viewL, Sl.seeL, sApp, sPutK, sPopK, owL, owK, vaOf, vaAt, sFrz, bor, mBodyO, outO, sRetO, sCont, sBreak, Option.join_none, Bool.false_eq_true, if_false, List.foldl_cons, List.foldl_nil, oAdd_i, oSub_i, oInt_i, oNeg_i, eq_int, ne_int, ixT0, ixT1, ixT2, ixT3, sAugM, D_imm_i, D_imm_b, bInt_i, bInt_b, bAbs_i, bTuple_L, bLen_l, bLen_t, bLen_scr, bLen_d, D_imm_s, D_imm_n, ltSz, key_i, key_s]
  refine told_c (d := .put ⟨4, [3, 4], []⟩) (ps' := [(25, 4)]) h (by decide) (dok rfl (by decide) ls0 (by decide) (by decide)) (by decide +kernel) ?_
  try simp only [ne_n n1, mVar, mC, mOp, mUn, mCall, mCons, mNil, mIf, mAnd, mOr, mNot, mB, mTV, mAndV, mOrV, mNotV, mChain, asB, mIter, mItems, mValues, mIterA, mCut, mSome, mNone, pInt, mCallG, mCallK, sel, M.ret_bnd, M.opt_some, M.ass_t, M.bnd_bnd, M.stk_bnd, view, Sl.see, List.map_cons, List.map_nil, List.getElem?_cons_zero, List.getElem?_cons_succ, Option.join_some, List.set_cons_zero, List.set_cons_succ, sRet, sN, sIf, sAsg, sDrop, sNext, sUnp, sFor, sRetN, mBody, outV, startEn, List.length_cons, List.length_nil, List.replicate_succ, List.replicate_zero, List.cons_append, List.nil_append, M.calm_ret, tgN, tgTup, tgCons, tgNil, gvN, gvTup, gvCons, gvNil, wipeN, Option.toList_some, List.append_nil, if_true, Bool.not_true, Bool.not_false, Option.bind_some, items, itemsI, itemsV, Gv_bnd, Gv_ret, Gv_calm, dLst_0, dLst_1, dLst_2, dLst_3, dLst_4, dLst_5, dLst_6, dLst_7, dLst_8, dLst_9, dLst_10, dLst_11, dLst_12, dTup_0, dTup_1, dTup_2, dTup_3, dTup_4, dTup_5, dTup_6, dTup_7, dTup_8, assLt_0, decide_true, sPar, sON, sFN, sF, sV, sO, sVL, sOL, viewL, Sl.seeL, sApp, sPutK, sPopK, owL, owK, vaOf, vaAt, sFrz, bor, mBodyO, outO, sRetO, sCont, sBreak, Option.join_none, Bool.false_eq_true, if_false, List.foldl_cons, List.foldl_nil, oAdd_i, oSub_i, oInt_i, oNeg_i, eq_int, ne_int, ixT0, ixT1, ixT2, ixT3, sAugM, D_imm_i, D_imm_b, bInt_i, bInt_b, bAbs_i, bTuple_L, bLen_l, bLen_t, bLen_scr, bLen_d, D_imm_s, D_imm_n, ltSz, key_i, key_s]
  refine told_c (d := .put ⟨5, [3, 5], []⟩) (ps' := [(25, 4)]) (get_set h) (by decide) (dok rfl (by decide) ls0 (by decide) (by decide)) (by decide +kernel) ?_
  try simp only [ne_n n2, mVar, mC, mOp, mUn, mCall, mCons, mNil, mIf, mAnd, mOr, mNot, mB, mTV, mAndV, mOrV, mNotV, mChain, asB, mIter, mItems, mValues, mIterA, mCut, mSome, mNone, pInt, mCallG, mCallK, sel, M.ret_bnd, M.opt_some, M.ass_t, M.bnd_bnd, M.stk_bnd, view, Sl.see, List.map_cons, List.map_nil, List.getElem?_cons_zero, List.getElem?_cons_succ, Option.join_some, List.set_cons_zero, List.set_cons_succ, sRet, sN, sIf, sAsg, sDrop, sNext, sUnp, sFor, sRetN, mBody, outV, startEn, List.length_cons, List.length_nil, List.replicate_succ, List.replicate_zero, List.cons_append, List.nil_append, M.calm_ret, tgN, tgTup, tgCons, tgNil, gvN, gvTup, gvCons, gvNil, wipeN, Option.toList_some, List.append_nil, if_true, Bool.not_true, Bool.not_false, Option.bind_some, items, itemsI, itemsV, Gv_bnd, Gv_ret, Gv_calm, dLst_0, dLst_1, dLst_2, dLst_3, dLst_4, dLst_5, dLst_6, dLst_7, dLst_8, dLst_9, dLst_10, dLst_11, dLst_12, dTup_0, dTup_1, dTup_2, dTup_3, dTup_4, dTup_5, dTup_6, dTup_7, dTup_8, assLt_0, decide_true, sPar, sON, sFN, sF, sV, sO, sVL, sOL, viewL, Sl.seeL, sApp, sPutK, sPopK, owL, owK, vaOf, vaAt, sFrz, bor, mBodyO, outO, sRetO, sCont, sBreak, Option.join_none, Bool.false_eq_true, if_false, List.foldl_cons, List.foldl_nil, oAdd_i, oSub_i, oInt_i, oNeg_i, eq_int, ne_int, ixT0, ixT1, ixT2, ixT3, sAugM, D_imm_i, D_imm_b, bInt_i, bInt_b, bAbs_i, bTuple_L, bLen_l, bLen_t, bLen_scr, bLen_d, D_imm_s, D_imm_n, ltSz, key_i, key_s]
  exact kk _ (get_set (get_set h))
theorem lsa : LsOk [(("a" : Str), 0)] := ⟨fun p hp => by obtain rfl := List.mem_singleton.mp hp; exact strOk_lit _, by decide⟩
theorem law5_g (h : S[a]? = some (nb .sq [0, 0] 25 sv0 [(25, 4)])) (kk : ∀ S', S'[a]? = some (nb .sq [0, 0] 25 sv0 []) → P (.nx [A, B, C, E, .va (.obj a), F]) S') : Gv (b_ulaw_5 [A, B, C, E, .va (.obj a), F]) S P := by
  try simp only [b_ulaw_5, mMeth, mVar, mC, mOp, mUn, mCall, mCons, mNil, mIf, mAnd, mOr, mNot, mB, mTV, mAndV, mOrV, mNotV, mChain, asB, mIter, mItems, mValues, mIterA, mCut, mSome, mNone, pInt, mCallG, mCallK, sel, M.ret_bnd, M.opt_some, M.ass_t, M.bnd_bnd, M.stk_bnd, view, Sl.see, List.map_cons, List.map_nil, List.getElem?_cons_zero, List.getElem?_cons_succ, Option.join_some, List.set_cons_zero, List.set_cons_succ, sRet, sN, sIf, sAsg, sDrop, sNext, sUnp, sFor, sRetN, mBody, outV, startEn, List.length_cons, List.length_nil, List.replicate_succ, List.replicate_zero, List.cons_append, List.nil_append, M.calm_ret, tgN, tgTup, tgCons, tgNil, gvN, gvTup, gvCons, gvNil, wipeN, Option.toList_some, List.append_nil, if_true, Bool.not_true, Bool.not_false, Option.bind_some, items, itemsI, itemsV, Gv_bnd, Gv_ret, Gv_calm, dLst_0, dLst_1, dLst_2, dLst_3, dLst_4, dLst_5, dLst_6, dLst_7, dLst_8, dLst_9, dLst_10, dLst_11, dLst_12, dTup_0, dTup_1, dTup_2, dTup_3, dTup_4, dTup_5, dTup_6, dTup_7, dTup_8, assLt_0, decide_true, sPar, sON, sFN, sF, sV, sO, sVL, sOL, viewL, Sl.seeL, sApp, sPutK, sPopK, owL, owK, vaOf, vaAt, sFrz, bor, mBodyO, outO, sRetO, sCont, sBreak, Option.join_none, Bool.false_eq_true, if_false, List.foldl_cons, List.foldl_nil, oAdd_i, oSub_i, oInt_i, oNeg_i, eq_int, ne_int, ixT0, ixT1, ixT2, ixT3, sAugM, D_imm_i, D_imm_b, bInt_i, bInt_b, bAbs_i, bTuple_L, bLen_l, bLen_t, bLen_scr, bLen_d, D_imm_s, D_imm_n, ltSz, key_i, key_s]
  refine told_c (d := .put ⟨4, [3, 4], [(("a" : Str), 0)]⟩) (ps' := []) h (by decide) (dok rfl (by decide) lsa (by simp) (by decide)) (by decide +kernel) ?_
  try simp only [ne_n n3, mVar, mC, mOp, mUn, mCall, mCons, mNil, mIf, mAnd, mOr, mNot, mB, mTV, mAndV, mOrV, mNotV, mChain, asB, mIter, mItems, mValues, mIterA, mCut, mSome, mNone, pInt, mCallG, mCallK, sel, M.ret_bnd, M.opt_some, M.ass_t, M.bnd_bnd, M.stk_bnd, view, Sl.see, List.map_cons, List.map_nil, List.getElem?_cons_zero, List.getElem?_cons_succ, Option.join_some, List.set_cons_zero, List.set_cons_succ, sRet, sN, sIf, sAsg, sDrop, sNext, sUnp, sFor, sRetN, mBody, outV, startEn, List.length_cons, List.length_nil, List.replicate_succ, List.replicate_zero, List.cons_append, List.nil_append, M.calm_ret, tgN, tgTup, tgCons, tgNil, gvN, gvTup, gvCons, gvNil, wipeN, Option.toList_some, List.append_nil, if_true, Bool.not_true, Bool.not_false, Option.bind_some, items, itemsI, itemsV, Gv_bnd, Gv_ret, Gv_calm, dLst_0, dLst_1, dLst_2, dLst_3, dLst_4, dLst_5, dLst_6, dLst_7, dLst_8, dLst_9, dLst_10, dLst_11, dLst_12, dTup_0, dTup_1, dTup_2, dTup_3, dTup_4, dTup_5, dTup_6, dTup_7, dTup_8, assLt_0, decide_true, sPar, sON, sFN, sF, sV, sO, sVL, sOL, viewL, Sl.seeL, sApp, sPutK, sPopK, owL, owK, vaOf, vaAt, sFrz, bor, mBodyO, outO, sRetO, sCont, sBreak, Option.join_none, Bool.false_eq_true, if_false, List.foldl_cons, List.foldl_nil, oAdd_i, oSub_i, oInt_i, oNeg_i, eq_int, ne_int, ixT0, ixT1, ixT2, ixT3, sAugM, D_imm_i, D_imm_b, bInt_i, bInt_b, bAbs_i, bTuple_L, bLen_l, bLen_t, bLen_scr, bLen_d, D_imm_s, D_imm_n, ltSz, key_i, key_s]
  refine told_c (d := .take 4) (ps' := []) (get_set h) (by decide) (show (4 : Int).natAbs ≤ 1000 by decide) (by decide +kernel) ?_
  try simp only [ne_n n4, mVar, mC, mOp, mUn, mCall, mCons, mNil, mIf, mAnd, mOr, mNot, mB, mTV, mAndV, mOrV, mNotV, mChain, asB, mIter, mItems, mValues, mIterA, mCut, mSome, mNone, pInt, mCallG, mCallK, sel, M.ret_bnd, M.opt_some, M.ass_t, M.bnd_bnd, M.stk_bnd, view, Sl.see, List.map_cons, List.map_nil, List.getElem?_cons_zero, List.getElem?_cons_succ, Option.join_some, List.set_cons_zero, List.set_cons_succ, sRet, sN, sIf, sAsg, sDrop, sNext, sUnp, sFor, sRetN, mBody, outV, startEn, List.length_cons, List.length_nil, List.replicate_succ, List.replicate_zero, List.cons_append, List.nil_append, M.calm_ret, tgN, tgTup, tgCons, tgNil, gvN, gvTup, gvCons, gvNil, wipeN, Option.toList_some, List.append_nil, if_true, Bool.not_true, Bool.not_false, Option.bind_some, items, itemsI, itemsV, Gv_bnd, Gv_ret, Gv_calm, dLst_0, dLst_1, dLst_2, dLst_3, dLst_4, dLst_5, dLst_6, dLst_7, dLst_8, dLst_9, dLst_10, dLst_11, dLst_12, dTup_0, dTup_1, dTup_2, dTup_3, dTup_4, dTup_5, dTup_6, dTup_7, dTup_8, assLt_0, decide_true, sPar, sON, sFN, sF, sV, sO, sVL, sOL, viewL, Sl.seeL, sApp, sPutK, sPopK, owL, owK, vaOf, vaAt, sFrz, bor, mBodyO, outO, sRetO, sCont, sBreak, Option.join_none, Bool.false_eq_true, if_false, List.foldl_cons, List.foldl_nil, oAdd_i, oSub_i, oInt_i, oNeg_i, eq_int, ne_int, ixT0, ixT1, ixT2, ixT3, sAugM, D_imm_i, D_imm_b, bInt_i, bInt_b, bAbs_i, bTuple_L, bLen_l, bLen_t, bLen_scr, bLen_d, D_imm_s, D_imm_n, ltSz, key_i, key_s]
  exact kk _ (get_set (get_set h))
theorem law6_g (h : S[a]? = some (nb .sq [0, 0] 25 sv0 [])) (kk : ∀ S', P (.rt (.bl true)) S') : Gv (b_ulaw_6 [A, B, C, E, .va (.obj a), F]) S P := by
  try simp only [b_ulaw_6, mMeth, mVar, mC, mOp, mUn, mCall, mCons, mNil, mIf, mAnd, mOr, mNot, mB, mTV, mAndV, mOrV, mNotV, mChain, asB, mIter, mItems, mValues, mIterA, mCut, mSome, mNone, pInt, mCallG, mCallK, sel, M.ret_bnd, M.opt_some, M.ass_t, M.bnd_bnd, M.stk_bnd, view, Sl.see, List.map_cons, List.map_nil, List.getElem?_cons_zero, List.getElem?_cons_succ, Option.join_some, List.set_cons_zero, List.set_cons_succ, sRet, sN, sIf, sAsg, sDrop, sNext, sUnp, sFor, sRetN, mBody, outV, startEn, List.length_cons, List.length_nil, List.replicate_succ, List.replicate_zero, List.cons_append, List.nil_append, M.calm_ret, tgN, tgTup, tgCons, tgNil, gvN, gvTup, gvCons, gvNil, wipeN, Option.toList_some, List.append_nil, if_true, Bool.not_true, Bool.not_false, Option.bind_some, items, itemsI, itemsV, Gv_bnd, Gv_ret, Gv_calm, dLst_0, dLst_1, dLst_2, dLst_3, dLst_4, dLst_5, dLst_6, dLst_7, dLst_8, dLst_9, dLst_10, dLst_11, dLst_12, dTup_0, dTup_1, dTup_2, dTup_3, dTup_4, dTup_5, dTup_6, dTup_7, dTup_8, assLt_0, decide_true, sPar, sON, sFN, sF, sV, sO, sVL, sOL, viewL, Sl.seeL, sApp, sPutK, sPopK, owL, owK, vaOf, vaAt, sFrz, bor, mBodyO, outO, sRetO, sCont, sBreak, Option.join_none, Bool.false_eq_true, if_false, List.foldl_cons, List.foldl_nil, oAdd_i, oSub_i, oInt_i, oNeg_i, eq_int, ne_int, ixT0, ixT1, ixT2, ixT3, sAugM, D_imm_i, D_imm_b, bInt_i, bInt_b, bAbs_i, bTuple_L, bLen_l, bLen_t, bLen_scr, bLen_d, D_imm_s, D_imm_n, ltSz, key_i, key_s]
  refine told_c (d := .put ⟨6, [0, 0 - 5], []⟩) (ps' := [(25, 6)]) h (by decide) (dok rfl (by decide) ls0 (by decide) (by decide)) (by decide +kernel) ?_
  try simp only [eq_n n5, mVar, mC, mOp, mUn, mCall, mCons, mNil, mIf, mAnd, mOr, mNot, mB, mTV, mAndV, mOrV, mNotV, mChain, asB, mIter, mItems, mValues, mIterA, mCut, mSome, mNone, pInt, mCallG, mCallK, sel, M.ret_bnd, M.opt_some, M.ass_t, M.bnd_bnd, M.stk_bnd, view, Sl.see, List.map_cons, List.map_nil, List.getElem?_cons_zero, List.getElem?_cons_succ, Option.join_some, List.set_cons_zero, List.set_cons_succ, sRet, sN, sIf, sAsg, sDrop, sNext, sUnp, sFor, sRetN, mBody, outV, startEn, List.length_cons, List.length_nil, List.replicate_succ, List.replicate_zero, List.cons_append, List.nil_append, M.calm_ret, tgN, tgTup, tgCons, tgNil, gvN, gvTup, gvCons, gvNil, wipeN, Option.toList_some, List.append_nil, if_true, Bool.not_true, Bool.not_false, Option.bind_some, items, itemsI, itemsV, Gv_bnd, Gv_ret, Gv_calm, dLst_0, dLst_1, dLst_2, dLst_3, dLst_4, dLst_5, dLst_6, dLst_7, dLst_8, dLst_9, dLst_10, dLst_11, dLst_12, dTup_0, dTup_1, dTup_2, dTup_3, dTup_4, dTup_5, dTup_6, dTup_7, dTup_8, assLt_0, decide_true, sPar, sON, sFN, sF, sV, sO, sVL, sOL, viewL, Sl.seeL, sApp, sPutK, sPopK, owL, owK, vaOf, vaAt, sFrz, bor, mBodyO, outO, sRetO, sCont, sBreak, Option.join_none, Bool.false_eq_true, if_false, List.foldl_cons, List.foldl_nil, oAdd_i, oSub_i, oInt_i, oNeg_i, eq_int, ne_int, ixT0, ixT1, ixT2, ixT3, sAugM, D_imm_i, D_imm_b, bInt_i, bInt_b, bAbs_i, bTuple_L, bLen_l, bLen_t, bLen_scr, bLen_d, D_imm_s, D_imm_n, ltSz, key_i, key_s]
  refine told_c (d := .put ⟨6, [1, 0], []⟩) (ps' := [(1, 6)]) (get_set h) (by decide) (dok rfl (by decide) ls0 (by decide) (by decide)) (by decide +kernel) ?_
  try simp only [eq_n n6, mVar, mC, mOp, mUn, mCall, mCons, mNil, mIf, mAnd, mOr, mNot, mB, mTV, mAndV, mOrV, mNotV, mChain, asB, mIter, mItems, mValues, mIterA, mCut, mSome, mNone, pInt, mCallG, mCallK, sel, M.ret_bnd, M.opt_some, M.ass_t, M.bnd_bnd, M.stk_bnd, view, Sl.see, List.map_cons, List.map_nil, List.getElem?_cons_zero, List.getElem?_cons_succ, Option.join_some, List.set_cons_zero, List.set_cons_succ, sRet, sN, sIf, sAsg, sDrop, sNext, sUnp, sFor, sRetN, mBody, outV, startEn, List.length_cons, List.length_nil, List.replicate_succ, List.replicate_zero, List.cons_append, List.nil_append, M.calm_ret, tgN, tgTup, tgCons, tgNil, gvN, gvTup, gvCons, gvNil, wipeN, Option.toList_some, List.append_nil, if_true, Bool.not_true, Bool.not_false, Option.bind_some, items, itemsI, itemsV, Gv_bnd, Gv_ret, Gv_calm, dLst_0, dLst_1, dLst_2, dLst_3, dLst_4, dLst_5, dLst_6, dLst_7, dLst_8, dLst_9, dLst_10, dLst_11, dLst_12, dTup_0, dTup_1, dTup_2, dTup_3, dTup_4, dTup_5, dTup_6, dTup_7, dTup_8, assLt_0, decide_true, sPar, sON, sFN, sF, sV, sO, sVL, sOL, viewL, Sl.seeL, sApp, sPutK, sPopK, owL, owK, vaOf, vaAt, sFrz, bor, mBodyO, outO, sRetO, sCont, sBreak, Option.join_none, Bool.false_eq_true, if_false, List.foldl_cons, List.foldl_nil, oAdd_i, oSub_i, oInt_i, oNeg_i, eq_int, ne_int, ixT0, ixT1, ixT2, ixT3, sAugM, D_imm_i, D_imm_b, bInt_i, bInt_b, bAbs_i, bTuple_L, bLen_l, bLen_t, bLen_scr, bLen_d, D_imm_s, D_imm_n, ltSz, key_i, key_s]
  exact kk _
end
theorem main_holds (ns : List Int) (h : ns.length ≤ 63) : ∃ S, m_ulaw [.scr ns] [] = .ok (.bl true) S := by
  have g : Gv (m_ulaw [.scr ns]) [] fun d S' => d = .bl true := by
    unfold m_ulaw
    refine body_g rfl ?_
    show Gv (b_ulaw [.va (.scr ns), .no, .no, .no, .no, .no]) [] _
    unfold b_ulaw
    refine seq_g ?_
    try simp only [b_ulaw_1, mVar, mC, mOp, mUn, mCall, mCons, mNil, mIf, mAnd, mOr, mNot, mB, mTV, mAndV, mOrV, mNotV, mChain, asB, mIter, mItems, mValues, mIterA, mCut, mSome, mNone, pInt, mCallG, mCallK, sel, M.ret_bnd, M.opt_some, M.ass_t, M.bnd_bnd, M.stk_bnd, view, Sl.see, List.map_cons, List.map_nil, List.getElem?_cons_zero, List.getElem?_cons_succ, Option.join_some, List.set_cons_zero, List.set_cons_succ, sRet, sN, sIf, sAsg, sDrop, sNext, sUnp, sFor, sRetN, mBody, outV, startEn, List.length_cons, List.length_nil, List.replicate_succ, List.replicate_zero, List.cons_append, List.nil_append, M.calm_ret, tgN, tgTup, tgCons, tgNil, gvN, gvTup, gvCons, gvNil, wipeN, Option.toList_some, List.append_nil, if_true, Bool.not_true, Bool.not_false, Option.bind_some, items, itemsI, itemsV, Gv_bnd, Gv_ret, Gv_calm, dLst_0, dLst_1, dLst_2, dLst_3, dLst_4, dLst_5, dLst_6, dLst_7, dLst_8, dLst_9, dLst_10, dLst_11, dLst_12, dTup_0, dTup_1, dTup_2, dTup_3, dTup_4, dTup_5, dTup_6, dTup_7, dTup_8, assLt_0, decide_true, sPar, sON, sFN, sF, sV, sO, sVL, sOL, viewL, Sl.seeL, sApp, sPutK, sPopK, owL, owK, vaOf, vaAt, sFrz, bor, mBodyO, outO, sRetO, sCont, sBreak, Option.join_none, Bool.false_eq_true, if_false, List.foldl_cons, List.foldl_nil, oAdd_i, oSub_i, oInt_i, oNeg_i, eq_int, ne_int, ixT0, ixT1, ixT2, ixT3, sAugM, D_imm_i, D_imm_b, bInt_i, bInt_b, bAbs_i, bTuple_L, bLen_l, bLen_t, bLen_scr, bLen_d, D_imm_s, D_imm_n, ltSz, key_i, key_s]
    refine (heap_gv h).mono ?_
    rintro _ S1 ⟨rfl, h1, _⟩
    try simp only [mVar, mC, mOp, mUn, mCall, mCons, mNil, mIf, mAnd, mOr, mNot, mB, mTV, mAndV, mOrV, mNotV, mChain, asB, mIter, mItems, mValues, mIterA, mCut, mSome, mNone, pInt, mCallG, mCallK, sel, M.ret_bnd, M.opt_some, M.ass_t, M.bnd_bnd, M.stk_bnd, view, Sl.see, List.map_cons, List.map_nil, List.getElem?_cons_zero, List.getElem?_cons_succ, Option.join_some, List.set_cons_zero, List.set_cons_succ, sRet, sN, sIf, sAsg, sDrop, sNext, sUnp, sFor, sRetN, mBody, outV, startEn, List.length_cons, List.length_nil, List.replicate_succ, List.replicate_zero, List.cons_append, List.nil_append, M.calm_ret, tgN, tgTup, tgCons, tgNil, gvN, gvTup, gvCons, gvNil, wipeN, Option.toList_some, List.append_nil, if_true, Bool.not_true, Bool.not_false, Option.bind_some, items, itemsI, itemsV, Gv_bnd, Gv_ret, Gv_calm, dLst_0, dLst_1, dLst_2, dLst_3, dLst_4, dLst_5, dLst_6, dLst_7, dLst_8, dLst_9, dLst_10, dLst_11, dLst_12, dTup_0, dTup_1, dTup_2, dTup_3, dTup_4, dTup_5, dTup_6, dTup_7, dTup_8, assLt_0, decide_true, sPar, sON, sFN, sF, sV, sO, sVL, sOL, viewL, Sl.seeL, sApp, sPutK, sPopK, owL, owK, vaOf, vaAt, sFrz, bor, mBodyO, outO, sRetO, sCont, sBreak, Option.join_none, Bool.false_eq_true, if_false, List.foldl_cons, List.foldl_nil, oAdd_i, oSub_i, oInt_i, oNeg_i, eq_int, ne_int, ixT0, ixT1, ixT2, ixT3, sAugM, D_imm_i, D_imm_b, bInt_i, bInt_b, bAbs_i, bTuple_L, bLen_l, bLen_t, bLen_scr, bLen_d, D_imm_s, D_imm_n, ltSz, key_i, key_s]
    refine seq_g ?_
    have b : ∀ t : Bool, (-1000000 : Int) ≤ 2 + 2 * (if t = true then 1 else 0) ∧ (2 + 2 * (if t = true then 1 else 0) : Int) ≤ 1000000 := fun t => by cases t <;> decide
    try simp only [b_ulaw_2, oMul_l (show (2 : Int).natAbs < 2 ^ 64 by decide), rng1_i (b _).1 (b _).2, mVar, mC, mOp, mUn, mCall, mCons, mNil, mIf, mAnd, mOr, mNot, mB, mTV, mAndV, mOrV, mNotV, mChain, asB, mIter, mItems, mValues, mIterA, mCut, mSome, mNone, pInt, mCallG, mCallK, sel, M.ret_bnd, M.opt_some, M.ass_t, M.bnd_bnd, M.stk_bnd, view, Sl.see, List.map_cons, List.map_nil, List.getElem?_cons_zero, List.getElem?_cons_succ, Option.join_some, List.set_cons_zero, List.set_cons_succ, sRet, sN, sIf, sAsg, sDrop, sNext, sUnp, sFor, sRetN, mBody, outV, startEn, List.length_cons, List.length_nil, List.replicate_succ, List.replicate_zero, List.cons_append, List.nil_append, M.calm_ret, tgN, tgTup, tgCons, tgNil, gvN, gvTup, gvCons, gvNil, wipeN, Option.toList_some, List.append_nil, if_true, Bool.not_true, Bool.not_false, Option.bind_some, items, itemsI, itemsV, Gv_bnd, Gv_ret, Gv_calm, dLst_0, dLst_1, dLst_2, dLst_3, dLst_4, dLst_5, dLst_6, dLst_7, dLst_8, dLst_9, dLst_10, dLst_11, dLst_12, dTup_0, dTup_1, dTup_2, dTup_3, dTup_4, dTup_5, dTup_6, dTup_7, dTup_8, assLt_0, decide_true, sPar, sON, sFN, sF, sV, sO, sVL, sOL, viewL, Sl.seeL, sApp, sPutK, sPopK, owL, owK, vaOf, vaAt, sFrz, bor, mBodyO, outO, sRetO, sCont, sBreak, Option.join_none, Bool.false_eq_true, if_false, List.foldl_cons, List.foldl_nil, oAdd_i, oSub_i, oInt_i, oNeg_i, eq_int, ne_int, ixT0, ixT1, ixT2, ixT3, sAugM, D_imm_i, D_imm_b, bInt_i, bInt_b, bAbs_i, bTuple_L, bLen_l, bLen_t, bLen_scr, bLen_d, D_imm_s, D_imm_n, ltSz, key_i, key_s]
    refine loop_gv (fun i : Nat => D.int (0 + (i : Int))) (fun pre en S' => HqOk S' ∧ ∃ x y, en = [.va (.scr ns), .va (.obj 1), x, y, .no, .no]) _ ⟨h1, .no, .no, rfl⟩ ?_ ?_
    · rintro pre i post en S2 _ ⟨h2, x, y, rfl⟩
      refine ⟨_, rfl, ?_⟩
      refine seq_g (keys_g h2 fun ks S3 hk nd h3 => ?_)
      exact runs_g h3 hk nd fun S4 h4 => ⟨h4, _, _, rfl⟩
    · rintro en S2 ⟨h2, x, y, rfl⟩
      refine seq_g (law3_g ?_)
      refine seq_g (law4_g (by simp) fun S3 h3 => ?_)
      refine seq_g (law5_g h3 fun S4 h4 => ?_)
      exact law6_g h4 fun S5 => rfl
  obtain ⟨d, S', e, rfl⟩ := g.get
  exact ⟨S', e⟩
end Fw

namespace Fw
open PySem PySem.Spec PyProof.Rows L2
section
variable {P : Program} {w : World} {K : PySem.W.Frag} {mg : Str → Option Value} {base : Heap}
theorem bo_u_law_heap (c : Fx K mg) : BodyOk P w K mg base N_u_law_heap "_law_heap" s_u_law_heap (He.ga K "_law_heap") 0 b_u_law_heap := fun cdv A outer s H E hg hr =>
  ⟨_, (jss_cons (js_par (i := 1) (j := 2) sc_u_law_heap.nd (jm_fn (LcP.jo (LcP.mk (own := [(("_law_cell" : Str), 3)]) (ji_any (je_cut (je_var (i := 0)) jp_none (jp_some je_int))) (show BlkOk N_u_law_heap (defScope s_u_law_heap) _ _ from ⟨rfl, by decide +kernel, by decide +kernel, by decide +kernel, by decide +kernel⟩) (fun _ _ _ _ _ => (jv_name (i := 3) sc_u_law_heap.nd)) (fun _ _ _ _ _ => ⟨_, jts_nil⟩) (fun _ _ _ _ _ => ⟨_, (je_op op_addAny sim_add (je_op op_mul sim_mul je_int (je_cb cr_abs sim_abs (by rfl) c.b_abs (ja_cons (je_var (i := 3)) ja_nil'))) (je_ct cr_int1 sim_int1 (by rfl) c.b_int (ja_cons (je_cmp op_lt (sim_int (p := fun i j => decide (i < j))) (je_var (i := 3)) je_int) ja_nil')))⟩) (by decide) (fun _ => rfl)) sc_u_law_heap.nd)) (jm_n je_int))
    (jss_cons (js_for bhp (ji_any (je_var (i := 1))) (jg_name (i := 3) sc_u_law_heap.nd)
    (jss_one (js_set (i := 2) sc_u_law_heap.nd (jm_n (je_op op_modN sim_mod (je_ct cr_int1 sim_int1 (by rfl) c.b_int (ja_cons (je_op op_addAny sim_add (je_op op_addAny sim_add (je_op op_mul sim_mul (je_var (i := 2)) je_int) (je_op op_modN sim_mod (je_ct cr_int1 sim_int1 (by rfl) c.b_int (ja_cons (je_var (i := 3)) ja_nil')) je_int)) je_int) ja_nil')) je_int)))))
    (jss_one (js_ret (jm_n (JO.sto (jo_lst (ja_cons (JO.sto (jo_rev (JO.je (LcP.jo (LcP.mk (own := [(("_law_cell" : Str), 3)]) (ji_any (je_var (i := 1))) (show BlkOk N_u_law_heap (defScope s_u_law_heap) _ _ from ⟨rfl, by decide +kernel, by decide +kernel, by decide +kernel, by decide +kernel⟩) (fun _ _ _ _ _ => (jv_name (i := 3) sc_u_law_heap.nd)) (fun _ _ _ _ _ => ⟨_, (jts_one (jt_cmp op_ge (sim_int (p := fun i j => decide (j ≤ i))) (je_var (i := 3)) (je_op op_pow sim_pow je_int je_int)))⟩) (fun _ _ _ _ _ => ⟨_, (je_var (i := 3))⟩) (by decide) (fun _ => rfl)) sc_u_law_heap.nd)))) (ja_cons (je_var (i := 2)) ja_nil')))))))))⟩
theorem ok_u_law_heap (c : Fx K mg) : CalG P w K mg base 1 "_law_heap" s_u_law_heap [] P_u_law_heap (FnSp ⟨P, w, K, mg⟩ m_u_law_heap) := cal_of c.d_u_law_heap c.g_u_law_heap sc_u_law_heap (bo_u_law_heap c)
theorem bo_ulabel_in (c : Fx K mg) : BodyOk P w K mg base N_ulabel_in "label_in" s_ulabel_in (He.ga K "label_in") 0 b_ulabel_in := fun cdv A outer s H E hg hr =>
  ⟨_, (jss_cons (js_for bhp (ji_any (je_var (i := 0))) (jg_tup (jgs_cons (jg_name (i := 2) sc_ulabel_in.nd) (jgs_cons (jg_name (i := 3) sc_ulabel_in.nd) jgs_nil)))
    (jss_one (js_if (jt_cmp (op_eqD (u64 hr)) sim_eq (je_var (i := 2)) (je_var (i := 1)))
    (jss_one (js_ret (jm_n (je_var (i := 3)))))
    jss_nil)))
    (jss_one (js_ret (jm_n je_non))))⟩
theorem ok_ulabel_in (c : Fx K mg) : CalG P w K mg base 1 "label_in" s_ulabel_in [] P_ulabel_in (FnSp ⟨P, w, K, mg⟩ m_ulabel_in) := cal_of c.d_ulabel_in c.g_ulabel_in sc_ulabel_in (bo_ulabel_in c)
theorem bo_ulets_by (c : Fx K mg) (rm : List D → M D) (k : Nat) (hk : 1 ≤ k) (ih : CalG P w K mg base k "lets_by" s_ulets_by [] P_ulets_by (FnSp ⟨P, w, K, mg⟩ rm)) : BodyOk P w K mg base N_ulets_by "lets_by" s_ulets_by (He.ga K "lets_by") k (b_ulets_by rm) := fun cdv A outer s H E hg hr =>
  ⟨_, (jss_cons (js_if (jt_cmp (op_eqD (u64 hr)) sim_eq (je_ix (u1 hr) (je_var (i := 0)) je_int) je_str)
    (jss_one (js_ret (jm_n je_bl)))
    jss_nil)
    (jss_cons (js_if (jt_cmp (op_eqD (u64 hr)) sim_eq (je_ix (u1 hr) (je_var (i := 0)) je_int) je_str)
    (jss_one (js_ret (jm_n (je_not (je_c (ix := [(0, 0), (0, 1)]) (ih) (Nat.le_refl _) hg hr (fun _ _ _ _ _ _ us ws h1 h2 => match us, h1, ws, h2 with | [_, _], _, [], _ => rfl) bhx (jc_10 (ja_cons (je_ix (u1 hr) (je_var (i := 0)) je_int) (ja_cons (je_var (i := 1)) ja_nil'))))))))
    jss_nil)
    (jss_cons (js_if (jt_cmp (op_eqD (u64 hr)) sim_eq (je_ix (u1 hr) (je_var (i := 0)) je_int) je_str)
    (jss_one (js_ret (jm_n (je_cb (cr_all rfl) sim_all (by rfl) c.b_all (ja_cons (JO.je (LcP.jo (LcP.mk (own := [(("part" : Str), 3)]) (ji_any (je_cut (je_var (i := 0)) (jp_some je_int) jp_none)) (show BlkOk N_ulets_by (defScope s_ulets_by) _ _ from ⟨rfl, by decide +kernel, by decide +kernel, by decide +kernel, by decide +kernel⟩) (fun _ _ _ _ _ => (jv_name (i := 3) sc_ulets_by.nd)) (fun _ _ _ _ _ => ⟨_, jts_nil⟩) (fun _ _ _ _ _ => ⟨_, (je_c (ix := [(0, 0), (0, 1)]) (ih) (Nat.le_refl _) hg hr (fun _ _ _ _ _ _ us ws h1 h2 => match us, h1, ws, h2 with | [_, _], _, [], _ => rfl) (h0 _) (jc_10 (ja_cons (je_var (i := 3)) (ja_cons (je_var (i := 1)) ja_nil'))))⟩) (by decide) (fun _ => rfl)) sc_ulets_by.nd)) ja_nil')))))
    jss_nil)
    (jss_cons (js_if (jt_cmp (op_eqD (u64 hr)) sim_eq (je_ix (u1 hr) (je_var (i := 0)) je_int) je_str)
    (jss_one (js_ret (jm_n (je_cb (cr_any rfl) sim_any (by rfl) c.b_any (ja_cons (JO.je (LcP.jo (LcP.mk (own := [(("part" : Str), 3)]) (ji_any (je_cut (je_var (i := 0)) (jp_some je_int) jp_none)) (show BlkOk N_ulets_by (defScope s_ulets_by) _ _ from ⟨rfl, by decide +kernel, by decide +kernel, by decide +kernel, by decide +kernel⟩) (fun _ _ _ _ _ => (jv_name (i := 3) sc_ulets_by.nd)) (fun _ _ _ _ _ => ⟨_, jts_nil⟩) (fun _ _ _ _ _ => ⟨_, (je_c (ix := [(0, 0), (0, 1)]) (ih) (Nat.le_refl _) hg hr (fun _ _ _ _ _ _ us ws h1 h2 => match us, h1, ws, h2 with | [_, _], _, [], _ => rfl) (h0 _) (jc_10 (ja_cons (je_var (i := 3)) (ja_cons (je_var (i := 1)) ja_nil'))))⟩) (by decide) (fun _ => rfl)) sc_ulets_by.nd)) ja_nil')))))
    jss_nil)
    (jss_cons (js_set (i := 2) sc_ulets_by.nd (jm_n (je_c (ix := [(0, 0), (0, 1)]) (ok_ulabel_in (base := base) c) (by omega) hg hr (fun _ _ _ _ _ _ us ws h1 h2 => match us, h1, ws, h2 with | [_, _], _, [], _ => rfl) bhx (jc_10 (ja_cons (je_var (i := 1)) (ja_cons (je_ix (u1 hr) (je_var (i := 0)) je_int) ja_nil'))))))
    (jss_one (js_ret (jm_n (je_and (je_cmp op_notN sim_notN (je_var (i := 2)) je_non) (je_one (je_or (je_cmp (op_eqD (u64 hr)) sim_eq (je_ix (u1 hr) (je_var (i := 0)) je_int) je_str) (je_one (je_chain op_le op_le (sim_int (p := fun i j => decide (i ≤ j))) (sim_int (p := fun i j => decide (i ≤ j))) (je_ix (u1 hr) (je_var (i := 0)) je_int) (je_var (i := 2)) (je_ix (u1 hr) (je_var (i := 0)) je_int))))))))))))))⟩
theorem ok_ulets_by (c : Fx K mg) : ∀ n : Nat, CalG P w K mg base (2 + n) "lets_by" s_ulets_by [] P_ulets_by (FnSp ⟨P, w, K, mg⟩ (m_ulets_by n))
  | 0 => cal_stk c.d_ulets_by c.g_ulets_by
  | n + 1 => cal_of c.d_ulets_by c.g_ulets_by sc_ulets_by (bo_ulets_by c (m_ulets_by n) (2 + n) (by omega) (ok_ulets_by c n))
theorem bo_upasses (c : Fx K mg) : BodyOk P w K mg base N_upasses "passes" s_upasses (He.ga K "passes") 7 b_upasses := fun cdv A outer s H E hg hr =>
  ⟨_, (jss_one (js_ret (jm_n (je_c (ix := [(0, 0), (0, 1)]) (ok_ulets_by (base := base) c 5) (by decide) hg hr (fun _ _ _ _ _ _ us ws h1 h2 => match us, h1, ws, h2 with | [_, _], _, [], _ => rfl) bhx (jc_10 (ja_cons (je_var (i := 0)) (ja_cons (je_ix (u1 hr) (je_var (i := 1)) je_int) ja_nil')))))))⟩
theorem ok_upasses (c : Fx K mg) : CalG P w K mg base 8 "passes" s_upasses [] P_upasses (FnSp ⟨P, w, K, mg⟩ m_upasses) := cal_of c.d_upasses c.g_upasses sc_upasses (bo_upasses c)
theorem bo_upassing_keys (c : Fx K mg) : BodyOk P w K mg base N_upassing_keys "passing_keys" s_upassing_keys (He.ga K "passing_keys") 8 b_upassing_keys := fun cdv A outer s H E hg hr =>
  ⟨_, (jss_one (js_ret (jm_n (je_ct cr_tupOf sim_tuple (by rfl) c.b_tuple (ja_cons (JO.je (jo_cb cr_sortedA sim_sorted (by rfl) c.b_sorted (ja_cons (JO.je (LcP.jo (LcP.mk (own := [(("key" : Str), 2), (("item" : Str), 3)]) (ji_items (je_var (i := 0))) (show BlkOk N_upassing_keys (defScope s_upassing_keys) _ _ from ⟨rfl, by decide +kernel, by decide +kernel, by decide +kernel, by decide +kernel⟩) (fun _ _ _ _ _ => (jv_tup (K := K) (jvs_cons (jv_name (i := 2) sc_upassing_keys.nd) (jvs_cons (jv_name (i := 3) sc_upassing_keys.nd) jvs_nil)))) (fun _ _ _ _ _ => ⟨_, (jts_one (jt_val (je_c (ix := [(0, 0), (0, 1)]) (ok_upasses (base := base) c) (by decide) hg hr (fun _ _ _ _ _ _ us ws h1 h2 => match us, h1, ws, h2 with | [_, _], _, [], _ => rfl) (h0 _) (jc_10 (ja_cons (je_var (i := 1)) (ja_cons (je_var (i := 3)) ja_nil'))))))⟩) (fun _ _ _ _ _ => ⟨_, (je_var (i := 2))⟩) (by decide) (fun _ => rfl)) sc_upassing_keys.nd)) ja_nil'))) ja_nil')))))⟩
theorem ok_upassing_keys (c : Fx K mg) : CalG P w K mg base 9 "passing_keys" s_upassing_keys [] P_upassing_keys (FnSp ⟨P, w, K, mg⟩ m_upassing_keys) := cal_of c.d_upassing_keys c.g_upassing_keys sc_upassing_keys (bo_upassing_keys c)
theorem bo_ujoined_parts (c : Fx K mg) : BodyOk P w K mg base N_ujoined_parts "joined_parts" s_ujoined_parts (He.ga K "joined_parts") 0 b_ujoined_parts := fun cdv A outer s H E hg hr =>
  ⟨_, (jss_one (js_ret (jm_n (je_if (jt_cmp (op_eqD (u64 hr)) sim_eq (je_var (i := 0)) je_str) (je_maxD rfl c.b_max (ja_cons (je_var (i := 1)) ja_nil') (jk_cons je_int jk_nil)) (je_cb (cr_sum rfl) sim_sum (by rfl) c.b_sum (ja_cons (je_var (i := 1)) ja_nil'))))))⟩
theorem ok_ujoined_parts (c : Fx K mg) : CalG P w K mg base 1 "joined_parts" s_ujoined_parts [] P_ujoined_parts (FnSp ⟨P, w, K, mg⟩ m_ujoined_parts) := cal_of c.d_ujoined_parts c.g_ujoined_parts sc_ujoined_parts (bo_ujoined_parts c)
theorem bo_upart_of (c : Fx K mg) : BodyOk P w K mg base N_upart_of "part_of" s_upart_of (He.ga K "part_of") 0 b_upart_of := fun cdv A outer s H E hg hr =>
  ⟨_, (jss_cons (js_if (jt_cmp (op_eqD (u64 hr)) sim_eq (je_var (i := 0)) je_str)
    (jss_one (js_ret (jm_n (je_op op_mul sim_mul (je_var (i := 1)) (je_var (i := 1))))))
    jss_nil)
    (jss_cons (js_if (jt_cmp (op_eqD (u64 hr)) sim_eq (je_var (i := 0)) je_str)
    (jss_one (js_ret (jm_n (je_if (jt_cmp (op_neD (u64 hr)) sim_ne (je_var (i := 1)) je_int) je_int je_int))))
    jss_nil)
    (jss_one (js_ret (jm_n (je_cb cr_abs sim_abs (by rfl) c.b_abs (ja_cons (je_var (i := 1)) ja_nil')))))))⟩
theorem ok_upart_of (c : Fx K mg) : CalG P w K mg base 1 "part_of" s_upart_of [] P_upart_of (FnSp ⟨P, w, K, mg⟩ m_upart_of) := cal_of c.d_upart_of c.g_upart_of sc_upart_of (bo_upart_of c)
theorem bo_udifferences (c : Fx K mg) : BodyOk P w K mg base N_udifferences "differences" s_udifferences (He.ga K "differences") 0 b_udifferences := fun cdv A outer s H E hg hr =>
  ⟨_, (jss_one (js_ret (jm_n (je_ct cr_tupOf sim_tuple (by rfl) c.b_tuple (ja_cons (JO.je (LcP.jo (LcP.mk (own := [(("mine" : Str), 2), (("yours" : Str), 3)]) (ji_zip c.b_zip (ja_cons (je_var (i := 0)) (ja_cons (je_var (i := 1)) ja_nil'))) (show BlkOk N_udifferences (defScope s_udifferences) _ _ from ⟨rfl, by decide +kernel, by decide +kernel, by decide +kernel, by decide +kernel⟩) (fun _ _ _ _ _ => (jv_tup (K := K) (jvs_cons (jv_name (i := 2) sc_udifferences.nd) (jvs_cons (jv_name (i := 3) sc_udifferences.nd) jvs_nil)))) (fun _ _ _ _ _ => ⟨_, jts_nil⟩) (fun _ _ _ _ _ => ⟨_, (je_op op_sub sim_sub (je_var (i := 2)) (je_var (i := 3)))⟩) (by decide) (fun _ => rfl)) sc_udifferences.nd)) ja_nil')))))⟩
theorem ok_udifferences (c : Fx K mg) : CalG P w K mg base 1 "differences" s_udifferences [] P_udifferences (FnSp ⟨P, w, K, mg⟩ m_udifferences) := cal_of c.d_udifferences c.g_udifferences sc_udifferences (bo_udifferences c)
theorem bo_udistance (c : Fx K mg) : BodyOk P w K mg base N_udistance "distance" s_udistance (He.ga K "distance") 1 b_udistance := fun cdv A outer s H E hg hr =>
  ⟨_, (jss_one (js_ret (jm_n (je_c (ix := [(0, 0), (0, 1)]) (ok_ujoined_parts (base := base) c) (by decide) hg hr (fun _ _ _ _ _ _ us ws h1 h2 => match us, h1, ws, h2 with | [_, _], _, [], _ => rfl) bhx (jc_10 (ja_cons (je_var (i := 0)) (ja_cons (JO.je (LcP.jo (LcP.mk (own := [(("difference" : Str), 3)]) (ji_any (je_c (ix := [(0, 0), (0, 1)]) (ok_udifferences (base := base) c) (by decide) hg hr (fun _ _ _ _ _ _ us ws h1 h2 => match us, h1, ws, h2 with | [_, _], _, [], _ => rfl) bhx (jc_10 (ja_cons (je_var (i := 1)) (ja_cons (je_var (i := 2)) ja_nil'))))) (show BlkOk N_udistance (defScope s_udistance) _ _ from ⟨rfl, by decide +kernel, by decide +kernel, by decide +kernel, by decide +kernel⟩) (fun _ _ _ _ _ => (jv_name (i := 3) sc_udistance.nd)) (fun _ _ _ _ _ => ⟨_, jts_nil⟩) (fun _ _ _ _ _ => ⟨_, (je_c (ix := [(0, 0), (0, 1)]) (ok_upart_of (base := base) c) (by decide) hg hr (fun _ _ _ _ _ _ us ws h1 h2 => match us, h1, ws, h2 with | [_, _], _, [], _ => rfl) (h0 _) (jc_10 (ja_cons (je_var (i := 0)) (ja_cons (je_var (i := 3)) ja_nil'))))⟩) (by decide) (fun _ => rfl)) sc_udistance.nd)) ja_nil')))))))⟩
theorem ok_udistance (c : Fx K mg) : CalG P w K mg base 2 "distance" s_udistance [] P_udistance (FnSp ⟨P, w, K, mg⟩ m_udistance) := cal_of c.d_udistance c.g_udistance sc_udistance (bo_udistance c)
theorem bo_upairs_from (c : Fx K mg) : BodyOk P w K mg base N_upairs_from "pairs_from" s_upairs_from (He.ga K "pairs_from") 9 b_upairs_from := fun cdv A outer s H E hg hr =>
  ⟨_, (jss_cons (js_set (i := 4) sc_upairs_from.nd (jm_n (je_c (ix := [(0, 0), (0, 1)]) (ok_upassing_keys (base := base) c) (by decide) hg hr (fun _ _ _ _ _ _ us ws h1 h2 => match us, h1, ws, h2 with | [_, _], _, [], _ => rfl) bhx (jc_10 (ja_cons (je_var (i := 0)) (ja_cons (je_var (i := 3)) ja_nil'))))))
    (jss_one (js_ret (jm_n (je_ct cr_tupOf sim_tuple (by rfl) c.b_tuple (ja_cons (JO.je (jo_cb cr_sortedA sim_sorted (by rfl) c.b_sorted (ja_cons (JO.je (LcP.jo (LcP.mk (own := [(("key" : Str), 5)]) (ji_any (je_var (i := 4))) (show BlkOk N_upairs_from (defScope s_upairs_from) _ _ from ⟨rfl, by decide +kernel, by decide +kernel, by decide +kernel, by decide +kernel⟩) (fun _ _ _ _ _ => (jv_name (i := 5) sc_upairs_from.nd)) (fun _ _ _ _ _ => ⟨_, jts_nil⟩) (fun _ _ _ _ _ => ⟨_, (je_tup (JAl.ja (ja_cons (je_c (ix := [(0, 0), (0, 1), (0, 2)]) (ok_udistance (base := base) c) (by decide) hg hr (fun _ _ _ _ _ _ us ws h1 h2 => match us, h1, ws, h2 with | [_, _, _], _, [], _ => rfl) (h0 _) (jc_10 (ja_cons (je_var (i := 1)) (ja_cons (je_var (i := 2)) (ja_cons (je_ix (u1 hr) (je_ix (u1 hr) (je_var (i := 0)) (je_var (i := 5))) je_int) ja_nil'))))) (ja_cons (je_var (i := 5)) ja_nil'))))⟩) (by decide) (fun _ => rfl)) sc_upairs_from.nd)) ja_nil'))) ja_nil'))))))⟩
theorem ok_upairs_from (c : Fx K mg) : CalG P w K mg base 10 "pairs_from" s_upairs_from [] P_upairs_from (FnSp ⟨P, w, K, mg⟩ m_upairs_from) := cal_of c.d_upairs_from c.g_upairs_from sc_upairs_from (bo_upairs_from c)
theorem bo_uwithin (c : Fx K mg) : BodyOk P w K mg base N_uwithin "within" s_uwithin (He.ga K "within") 10 b_uwithin := fun cdv A outer s H E hg hr =>
  ⟨_, (jss_one (js_ret (jm_n (je_ct cr_tupOf sim_tuple (by rfl) c.b_tuple (ja_cons (JO.je (LcP.jo (LcP.mk (own := [(("pair" : Str), 5)]) (ji_any (je_c (ix := [(0, 0), (0, 1), (0, 2), (0, 3)]) (ok_upairs_from (base := base) c) (by decide) hg hr (fun _ _ _ _ _ _ us ws h1 h2 => match us, h1, ws, h2 with | [_, _, _, _], _, [], _ => rfl) bhx (jc_10 (ja_cons (je_var (i := 0)) (ja_cons (je_var (i := 1)) (ja_cons (je_var (i := 2)) (ja_cons (je_var (i := 4)) ja_nil'))))))) (show BlkOk N_uwithin (defScope s_uwithin) _ _ from ⟨rfl, by decide +kernel, by decide +kernel, by decide +kernel, by decide +kernel⟩) (fun _ _ _ _ _ => (jv_name (i := 5) sc_uwithin.nd)) (fun _ _ _ _ _ => ⟨_, (jts_one (jt_cmp op_le (sim_int (p := fun i j => decide (i ≤ j))) (je_ix (u1 hr) (je_var (i := 5)) je_int) (je_var (i := 3))))⟩) (fun _ _ _ _ _ => ⟨_, (je_var (i := 5))⟩) (by decide) (fun _ => rfl)) sc_uwithin.nd)) ja_nil')))))⟩
theorem ok_uwithin (c : Fx K mg) : CalG P w K mg base 11 "within" s_uwithin [] P_uwithin (FnSp ⟨P, w, K, mg⟩ m_uwithin) := cal_of c.d_uwithin c.g_uwithin sc_uwithin (bo_uwithin c)
theorem bo_uNearby___init__ (c : Fx K mg) : BodyOk P w K mg base N_uNearby___init__ "Nearby.__init__" s_uNearby___init__ (He.ma K (He.ga K "Nearby") "__init__") 11 b_uNearby___init__ := fun cdv A outer s H E hg hr =>
  ⟨_, (jss_cons (js_fldL (E' := fun _ => E) c.g_Nearby c.cls_Nearby c.na_Nearby_kind (je_var (i := 0)) (je_var (i := 2)))
    (jss_cons (js_fldL (E' := fun _ => E) c.g_Nearby c.cls_Nearby c.na_Nearby_vector (je_var (i := 0)) (je_var (i := 3)))
    (jss_cons (js_fldL (E' := fun _ => E) c.g_Nearby c.cls_Nearby c.na_Nearby_reach (je_var (i := 0)) (je_var (i := 4)))
    (jss_cons (js_fldL (E' := fun _ => E) c.g_Nearby c.cls_Nearby c.na_Nearby_sieve (je_var (i := 0)) (je_var (i := 5)))
    (jss_one (js_fldL (E' := fun _ => E) c.g_Nearby c.cls_Nearby c.na_Nearby_all_pairs (je_var (i := 0)) (je_c (ix := [(0, 0), (0, 1), (0, 2), (0, 3), (0, 4)]) (ok_uwithin (base := base) c) (by decide) hg hr (fun _ _ _ _ _ _ us ws h1 h2 => match us, h1, ws, h2 with | [_, _, _, _, _], _, [], _ => rfl) bhx (jc_10 (ja_cons (je_var (i := 1)) (ja_cons (je_var (i := 2)) (ja_cons (je_var (i := 3)) (ja_cons (je_var (i := 4)) (ja_cons (je_var (i := 5)) ja_nil')))))))))))))⟩
theorem ok_uNearby___init__ (c : Fx K mg) : MetG P w K mg base 12 "Nearby" "__init__" "Nearby.__init__" s_uNearby___init__ [] P_uNearby___init__ (FnSp ⟨P, w, K, mg⟩ m_uNearby___init__) := met_of c.d_uNearby___init__ c.g_Nearby c.mt_uNearby___init__ c.cls_Nearby sc_uNearby___init__ (bo_uNearby___init__ c)
theorem bo_u_law_draw (c : Fx K mg) : BodyOk P w K mg base N_u_law_draw "_law_draw" s_u_law_draw (He.ga K "_law_draw") 0 b_u_law_draw := fun cdv A outer s H E hg hr =>
  ⟨_, (jss_cons (js_while (n := 70) bhp (jw_pt (jw_and (jt_cmp (op_neD (u64 hr)) sim_neS (je_ixS (u1 hr) (je_var (i := 0)) je_int) (JO.je (jo_lst ja_nil'))) (jw_and1 (jt_cmp (op_eqD (u64 hr)) sim_eqS (je_ixS (u1 hr) (je_ixS (u1 hr) (je_var (i := 0)) je_int) (je_un un_neg sim_neg je_int)) je_int))))
    (jss_one (js_expr (jm_n (je_popS (je_ixS (u1 hr) (je_var (i := 0)) je_int))))))
    (jss_cons (js_if (jt_cmp (op_neD (u64 hr)) sim_neS (je_ixS (u1 hr) (je_var (i := 0)) je_int) (JO.je (jo_lst ja_nil')))
    (jss_cons (js_set (i := 2) sc_u_law_draw.nd (jm_n (je_popS (je_ixS (u1 hr) (je_var (i := 0)) je_int))))
    (jss_cons (js_expr (jm_n (je_appS (je_ixS (u1 hr) (je_var (i := 0)) je_int) (je_op op_fdivN sim_fdiv (je_var (i := 2)) (je_var (i := 1))))))
    (jss_one (js_ret (jm_n (je_op op_modN sim_mod (je_ct cr_int1 sim_int1 (by rfl) c.b_int (ja_cons (je_var (i := 2)) ja_nil')) (je_var (i := 1))))))))
    jss_nil)
    (jss_cons (js_setS (je_var (i := 0)) je_int (je_op op_modN sim_mod (je_ct cr_int1 sim_int1 (by rfl) c.b_int (ja_cons (je_op op_addAny sim_add (je_op op_mul sim_mul (je_ixS (u1 hr) (je_var (i := 0)) je_int) je_int) je_int) ja_nil')) je_int))
    (jss_one (js_ret (jm_n (je_op op_modN sim_mod (je_ct cr_int1 sim_int1 (by rfl) c.b_int (ja_cons (je_op op_fdivN sim_fdiv (je_ixS (u1 hr) (je_var (i := 0)) je_int) je_int) ja_nil')) (je_var (i := 1)))))))))⟩
theorem ok_u_law_draw (c : Fx K mg) : CalG P w K mg base 1 "_law_draw" s_u_law_draw [] P_u_law_draw (FnSp ⟨P, w, K, mg⟩ m_u_law_draw) := cal_of c.d_u_law_draw c.g_u_law_draw sc_u_law_draw (bo_u_law_draw c)
theorem bo_u_law_pick (c : Fx K mg) : BodyOk P w K mg base N_u_law_pick "_law_pick" s_u_law_pick (He.ga K "_law_pick") 1 b_u_law_pick := fun cdv A outer s H E hg hr =>
  ⟨_, (jss_one (js_ret (jm_n (je_ix (u1 hr) (je_var (i := 1)) (je_c (ix := [(0, 0), (0, 1)]) (ok_u_law_draw (base := base) c) (by decide) hg hr (fun _ _ _ _ _ _ us ws h1 h2 => match us, h1, ws, h2 with | [_, _], _, [], _ => rfl) bhx (jc_10 (ja_cons (je_var (i := 0)) (ja_cons (je_cb cr_lenAny sim_len (by rfl) c.b_len (ja_cons (je_var (i := 1)) ja_nil')) ja_nil'))))))))⟩
theorem ok_u_law_pick (c : Fx K mg) : CalG P w K mg base 2 "_law_pick" s_u_law_pick [] P_u_law_pick (FnSp ⟨P, w, K, mg⟩ m_u_law_pick) := cal_of c.d_u_law_pick c.g_u_law_pick sc_u_law_pick (bo_u_law_pick c)
theorem bo_u_law_done (c : Fx K mg) : BodyOk P w K mg base N_u_law_done "_law_done" s_u_law_done (He.ga K "_law_done") 0 b_u_law_done := fun cdv A outer s H E hg hr =>
  ⟨_, (jss_cons (js_par (i := 2) (j := 3) sc_u_law_done.nd (jm_n (je_if (jt_cmp (op_eqD (u64 hr)) sim_eq (je_ix (u1 hr) (je_var (i := 1)) je_int) je_str) (je_ix (u1 hr) (je_ix (u1 hr) (je_var (i := 1)) je_int) je_int) (je_ix (u1 hr) (je_var (i := 1)) je_int))) (jm_on jo_dic0))
    (jss_cons (js_for bhp (ji_any (je_var (i := 0))) (jg_name (i := 4) sc_u_law_done.nd)
    (jss_one (js_if (jt_cmp (op_neD (u64 hr)) sim_ne (je_var (i := 4)) (je_var (i := 2)))
    (jss_one (js_putK (i := 3) (u1 hr) (jm_n (je_ix (u1 hr) (je_var (i := 0)) (je_var (i := 4)))) (jm_n (je_var (i := 4)))))
    jss_nil)))
    (jss_cons (js_if (jt_cmp (op_eqD (u64 hr)) sim_eq (je_ix (u1 hr) (je_var (i := 1)) je_int) je_str)
    (jss_one (js_putK (i := 3) (u1 hr) (jm_n (je_ix (u1 hr) (je_var (i := 1)) je_int)) (jm_n (je_var (i := 2)))))
    jss_nil)
    (jss_one (js_retO (i := 3))))))⟩
theorem ok_u_law_done (c : Fx K mg) : CalG P w K mg base 1 "_law_done" s_u_law_done [] P_u_law_done (FnSpO ⟨P, w, K, mg⟩ m_u_law_done) := cal_ofO c.d_u_law_done c.g_u_law_done sc_u_law_done (bo_u_law_done c)
theorem bo_u_law_vector (c : Fx K mg) : BodyOk P w K mg base N_u_law_vector "_law_vector" s_u_law_vector (He.ga K "_law_vector") 2 b_u_law_vector := fun cdv A outer s H E hg hr =>
  ⟨_, (jss_cons (js_set (i := 2) sc_u_law_vector.nd (jm_n (je_c (ix := [(0, 0), (0, 1)]) (ok_u_law_pick (base := base) c) (by decide) hg hr (fun _ _ _ _ _ _ us ws h1 h2 => match us, h1, ws, h2 with | [_, _], _, [], _ => rfl) bhx (jc_10 (ja_cons (je_var (i := 0)) (ja_cons (JO.je (jo_lst (ja_cons je_int (ja_cons je_int (ja_cons je_int (ja_cons je_int (ja_cons je_int ja_nil'))))))) ja_nil'))))))
    (jss_one (js_ret (jm_n (je_ct cr_tupOf sim_tuple (by rfl) c.b_tuple (ja_cons (JO.je (LcP.jo (LcP.mk (own := [(("_law_place" : Str), 3)]) (ji_rng1 c.b_range (ja_cons (je_var (i := 1)) ja_nil')) (show BlkOk N_u_law_vector (defScope s_u_law_vector) _ _ from ⟨rfl, by decide +kernel, by decide +kernel, by decide +kernel, by decide +kernel⟩) (fun _ _ _ _ _ => (jv_name (i := 3) sc_u_law_vector.nd)) (fun _ _ _ _ _ => ⟨_, jts_nil⟩) (fun _ _ _ _ _ => ⟨_, (je_op op_sub sim_sub (je_c (ix := [(0, 0), (0, 1)]) (ok_u_law_draw (base := base) c) (by decide) hg hr (fun _ _ _ _ _ _ us ws h1 h2 => match us, h1, ws, h2 with | [_, _], _, [], _ => rfl) (h0 _) (jc_10 (ja_cons (je_var (i := 0)) (ja_cons (je_var (i := 2)) ja_nil')))) (je_op op_fdivN sim_fdiv (je_var (i := 2)) je_int))⟩) (by decide) (fun _ => rfl)) sc_u_law_vector.nd)) ja_nil'))))))⟩
theorem ok_u_law_vector (c : Fx K mg) : CalG P w K mg base 3 "_law_vector" s_u_law_vector [] P_u_law_vector (FnSp ⟨P, w, K, mg⟩ m_u_law_vector) := cal_of c.d_u_law_vector c.g_u_law_vector sc_u_law_vector (bo_u_law_vector c)
theorem bo_u_law_item (c : Fx K mg) : BodyOk P w K mg base N_u_law_item "_law_item" s_u_law_item (He.ga K "_law_item") 3 b_u_law_item := fun cdv A outer s H E hg hr =>
  ⟨_, (jss_cons (js_set (i := 3) sc_u_law_item.nd (jm_on (jo_lst ja_nil')))
    (jss_cons (js_if (jt_cmp op_gt (sim_int (p := fun i j => decide (j < i))) (je_c (ix := [(0, 0), (0, 1)]) (ok_u_law_draw (base := base) c) (by decide) hg hr (fun _ _ _ _ _ _ us ws h1 h2 => match us, h1, ws, h2 with | [_, _], _, [], _ => rfl) bhx (jc_10 (ja_cons (je_var (i := 0)) (ja_cons je_int ja_nil')))) je_int)
    (jss_one (js_app (i := 3) (jm_n (je_tup (JAl.ja (ja_cons je_str (ja_cons (je_op op_sub sim_sub (je_c (ix := [(0, 0), (0, 1)]) (ok_u_law_draw (base := base) c) (by decide) hg hr (fun _ _ _ _ _ _ us ws h1 h2 => match us, h1, ws, h2 with | [_, _], _, [], _ => rfl) bhx (jc_10 (ja_cons (je_var (i := 0)) (ja_cons je_int ja_nil')))) je_int) ja_nil')))))))
    jss_nil)
    (jss_cons (js_if (jt_cmp (op_eqD (u64 hr)) sim_eq (je_c (ix := [(0, 0), (0, 1)]) (ok_u_law_draw (base := base) c) (by decide) hg hr (fun _ _ _ _ _ _ us ws h1 h2 => match us, h1, ws, h2 with | [_, _], _, [], _ => rfl) bhx (jc_10 (ja_cons (je_var (i := 0)) (ja_cons je_int ja_nil')))) je_int)
    (jss_one (js_app (i := 3) (jm_n (je_tup (JAl.ja (ja_cons je_str (ja_cons (je_c (ix := [(0, 0), (0, 1)]) (ok_u_law_draw (base := base) c) (by decide) hg hr (fun _ _ _ _ _ _ us ws h1 h2 => match us, h1, ws, h2 with | [_, _], _, [], _ => rfl) bhx (jc_10 (ja_cons (je_var (i := 0)) (ja_cons je_int ja_nil')))) ja_nil')))))))
    jss_nil)
    (jss_one (js_ret (jm_v (je_tup (JAl.ja (ja_cons (je_var (i := 1)) (ja_cons (je_c (ix := [(0, 0), (0, 1)]) (ok_u_law_vector (base := base) c) (by decide) hg hr (fun _ _ _ _ _ _ us ws h1 h2 => match us, h1, ws, h2 with | [_, _], _, [], _ => rfl) bhx (jc_10 (ja_cons (je_var (i := 0)) (ja_cons (je_var (i := 2)) ja_nil')))) (ja_cons (je_ct cr_tupOf sim_tuple (by rfl) c.b_tuple (ja_cons (je_var (i := 3)) ja_nil')) ja_nil')))))))))))⟩
theorem ok_u_law_item (c : Fx K mg) : CalG P w K mg base 4 "_law_item" s_u_law_item [] P_u_law_item (FnSp ⟨P, w, K, mg⟩ m_u_law_item) := cal_of c.d_u_law_item c.g_u_law_item sc_u_law_item (bo_u_law_item c)
theorem bo_u_law_start (c : Fx K mg) : BodyOk P w K mg base N_u_law_start "_law_start" s_u_law_start (He.ga K "_law_start") 4 b_u_law_start := fun cdv A outer s H E hg hr =>
  ⟨_, (jss_cons (js_set (i := 3) sc_u_law_start.nd (jm_on jo_dic0))
    (jss_cons (js_for bhp (ji_any (je_var (i := 1))) (jg_name (i := 4) sc_u_law_start.nd)
    (jss_one (js_if (jt_cmp op_gt (sim_int (p := fun i j => decide (j < i))) (je_c (ix := [(0, 0), (0, 1)]) (ok_u_law_draw (base := base) c) (by decide) hg hr (fun _ _ _ _ _ _ us ws h1 h2 => match us, h1, ws, h2 with | [_, _], _, [], _ => rfl) bhx (jc_10 (ja_cons (je_var (i := 0)) (ja_cons je_int ja_nil')))) je_int)
    (jss_one (js_putK (i := 3) (u1 hr) (jm_n (je_c (ix := [(0, 0), (0, 1), (0, 2)]) (ok_u_law_item (base := base) c) (by decide) hg hr (fun _ _ _ _ _ _ us ws h1 h2 => match us, h1, ws, h2 with | [_, _, _], _, [], _ => rfl) bhx (jc_10 (ja_cons (je_var (i := 0)) (ja_cons (je_var (i := 4)) (ja_cons (je_var (i := 2)) ja_nil')))))) (jm_n (je_var (i := 4)))))
    jss_nil)))
    (jss_one (js_frz (i := 3) (js_ret (jm_n (je_var (i := 3))))))))⟩
theorem ok_u_law_start (c : Fx K mg) : CalG P w K mg base 5 "_law_start" s_u_law_start [] P_u_law_start (FnSp ⟨P, w, K, mg⟩ m_u_law_start) := cal_of c.d_u_law_start c.g_u_law_start sc_u_law_start (bo_u_law_start c)
theorem bo_u_law_sieve (c : Fx K mg) : BodyOk P w K mg base N_u_law_sieve "_law_sieve" s_u_law_sieve (He.ga K "_law_sieve") 2 b_u_law_sieve := fun cdv A outer s H E hg hr =>
  ⟨_, (jss_cons (js_set (i := 1) sc_u_law_sieve.nd (jm_fn (jo_lst (ja_cons (je_tup (JAl.ja (ja_cons je_str ja_nil'))) (ja_cons (je_tup (JAl.ja (ja_cons je_str (ja_cons je_str ja_nil')))) (ja_cons (je_tup (JAl.ja (ja_cons je_str (ja_cons je_str ja_nil')))) (ja_cons (je_tup (JAl.ja (ja_cons je_str (ja_cons je_str (ja_cons (je_op op_sub sim_sub je_int je_int) (ja_cons je_int ja_nil')))))) (ja_cons (je_tup (JAl.ja (ja_cons je_str (ja_cons je_str (ja_cons je_int (ja_cons je_int ja_nil')))))) (ja_cons (je_tup (JAl.ja (ja_cons je_str (ja_cons (je_tup (JAl.ja (ja_cons je_str (ja_cons je_str ja_nil')))) ja_nil')))) ja_nil')))))))))
    (jss_cons (js_set (i := 2) sc_u_law_sieve.nd (jm_n (je_c (ix := [(0, 0), (0, 1)]) (ok_u_law_draw (base := base) c) (by decide) hg hr (fun _ _ _ _ _ _ us ws h1 h2 => match us, h1, ws, h2 with | [_, _], _, [], _ => rfl) bhx (jc_10 (ja_cons (je_var (i := 0)) (ja_cons je_int ja_nil'))))))
    (jss_cons (js_if (jt_cmp op_lt (sim_int (p := fun i j => decide (i < j))) (je_var (i := 2)) je_int)
    (jss_one (js_ret (jm_n (je_tup (JAl.ja (ja_cons je_str ja_nil'))))))
    jss_nil)
    (jss_cons (js_if (jt_cmp op_lt (sim_int (p := fun i j => decide (i < j))) (je_var (i := 2)) je_int)
    (jss_one (js_ret (jm_n (je_c (ix := [(0, 0), (0, 1)]) (ok_u_law_pick (base := base) c) (by decide) hg hr (fun _ _ _ _ _ _ us ws h1 h2 => match us, h1, ws, h2 with | [_, _], _, [], _ => rfl) bhx (jc_10 (ja_cons (je_var (i := 0)) (ja_cons (je_var (i := 1)) ja_nil')))))))
    jss_nil)
    (jss_one (js_ret (jm_n (je_tup (JAl.ja (ja_cons (je_c (ix := [(0, 0), (0, 1)]) (ok_u_law_pick (base := base) c) (by decide) hg hr (fun _ _ _ _ _ _ us ws h1 h2 => match us, h1, ws, h2 with | [_, _], _, [], _ => rfl) bhx (jc_10 (ja_cons (je_var (i := 0)) (ja_cons (JO.je (jo_lst (ja_cons je_str (ja_cons je_str ja_nil')))) ja_nil')))) (ja_cons (je_c (ix := [(0, 0), (0, 1)]) (ok_u_law_pick (base := base) c) (by decide) hg hr (fun _ _ _ _ _ _ us ws h1 h2 => match us, h1, ws, h2 with | [_, _], _, [], _ => rfl) bhx (jc_10 (ja_cons (je_var (i := 0)) (ja_cons (je_var (i := 1)) ja_nil')))) (ja_cons (je_c (ix := [(0, 0), (0, 1)]) (ok_u_law_pick (base := base) c) (by decide) hg hr (fun _ _ _ _ _ _ us ws h1 h2 => match us, h1, ws, h2 with | [_, _], _, [], _ => rfl) bhx (jc_10 (ja_cons (je_var (i := 0)) (ja_cons (je_var (i := 1)) ja_nil')))) ja_nil'))))))))))))⟩
theorem ok_u_law_sieve (c : Fx K mg) : CalG P w K mg base 3 "_law_sieve" s_u_law_sieve [] P_u_law_sieve (FnSp ⟨P, w, K, mg⟩ m_u_law_sieve) := cal_of c.d_u_law_sieve c.g_u_law_sieve sc_u_law_sieve (bo_u_law_sieve c)
theorem bo_u_law_question (c : Fx K mg) : BodyOk P w K mg base N_u_law_question "_law_question" s_u_law_question (He.ga K "_law_question") 3 b_u_law_question := fun cdv A outer s H E hg hr =>
  ⟨_, (jss_cons (js_set (i := 3) sc_u_law_question.nd (jm_n (je_op op_addAny sim_add je_int (je_c (ix := [(0, 0), (0, 1)]) (ok_u_law_draw (base := base) c) (by decide) hg hr (fun _ _ _ _ _ _ us ws h1 h2 => match us, h1, ws, h2 with | [_, _], _, [], _ => rfl) bhx (jc_10 (ja_cons (je_var (i := 0)) (ja_cons (je_c (ix := [(0, 0), (0, 1)]) (ok_u_law_pick (base := base) c) (by decide) hg hr (fun _ _ _ _ _ _ us ws h1 h2 => match us, h1, ws, h2 with | [_, _], _, [], _ => rfl) bhx (jc_10 (ja_cons (je_var (i := 0)) (ja_cons (JO.je (jo_lst (ja_cons (je_var (i := 2)) (ja_cons (je_var (i := 2)) (ja_cons (je_op op_addAny sim_add (je_var (i := 2)) je_int) ja_nil'))))) ja_nil')))) ja_nil')))))))
    (jss_one (js_ret (jm_n (je_tup (JAl.ja (ja_cons (je_c (ix := [(0, 0), (0, 1)]) (ok_u_law_pick (base := base) c) (by decide) hg hr (fun _ _ _ _ _ _ us ws h1 h2 => match us, h1, ws, h2 with | [_, _], _, [], _ => rfl) bhx (jc_10 (ja_cons (je_var (i := 0)) (ja_cons (JO.je (jo_lst (ja_cons je_str (ja_cons je_str (ja_cons je_str (ja_cons je_str ja_nil')))))) ja_nil')))) (ja_cons (je_c (ix := [(0, 0), (0, 1)]) (ok_u_law_vector (base := base) c) (by decide) hg hr (fun _ _ _ _ _ _ us ws h1 h2 => match us, h1, ws, h2 with | [_, _], _, [], _ => rfl) bhx (jc_10 (ja_cons (je_var (i := 0)) (ja_cons (je_var (i := 1)) ja_nil')))) (ja_cons (je_var (i := 3)) (ja_cons (je_c (ix := [(0, 0)]) (ok_u_law_sieve (base := base) c) (by decide) hg hr (fun _ _ _ _ _ _ us ws h1 h2 => match us, h1, ws, h2 with | [_], _, [], _ => rfl) bhx (jc_10 (ja_cons (je_var (i := 0)) ja_nil'))) ja_nil'))))))))))⟩
theorem ok_u_law_question (c : Fx K mg) : CalG P w K mg base 4 "_law_question" s_u_law_question [] P_u_law_question (FnSp ⟨P, w, K, mg⟩ m_u_law_question) := cal_of c.d_u_law_question c.g_u_law_question sc_u_law_question (bo_u_law_question c)
theorem bo_u_law_far (c : Fx K mg) : BodyOk P w K mg base N_u_law_far "_law_far" s_u_law_far (He.ga K "_law_far") 0 b_u_law_far := fun cdv A outer s H E hg hr =>
  ⟨_, (jss_cons (js_setLc (i := 3) (o := false) (LcP.mk (own := [(("_law_mine" : Str), 4), (("_law_yours" : Str), 5)]) (ji_zip c.b_zip (ja_cons (je_var (i := 1)) (ja_cons (je_var (i := 2)) ja_nil'))) (show BlkOk N_u_law_far (defScope s_u_law_far) _ _ from ⟨rfl, by decide +kernel, by decide +kernel, by decide +kernel, by decide +kernel⟩) (fun _ _ _ _ _ => (jv_tup (K := K) (jvs_cons (jv_name (i := 4) sc_u_law_far.nd) (jvs_cons (jv_name (i := 5) sc_u_law_far.nd) jvs_nil)))) (fun _ _ _ _ _ => ⟨_, jts_nil⟩) (fun _ _ _ _ _ => ⟨_, (je_cb cr_abs sim_abs (by rfl) c.b_abs (ja_cons (je_op op_sub sim_sub (je_var (i := 4)) (je_var (i := 5))) ja_nil'))⟩) (by decide) (fun _ => rfl)) sc_u_law_far.nd (sw_true rfl rfl rfl rfl))
    (jss_cons (js_if (jt_cmp (op_eqD (u64 hr)) sim_eq (je_var (i := 0)) je_str)
    (jss_one (js_ret (jm_n (je_cb (cr_sum rfl) sim_sum (by rfl) c.b_sum (ja_cons (JO.je (LcP.jo (LcP.mk (own := [(("_law_part" : Str), 6)]) (ji_any (je_var (i := 3))) (show BlkOk N_u_law_far (defScope s_u_law_far) _ _ from ⟨rfl, by decide +kernel, by decide +kernel, by decide +kernel, by decide +kernel⟩) (fun _ _ _ _ _ => (jv_name (i := 6) sc_u_law_far.nd)) (fun _ _ _ _ _ => ⟨_, jts_nil⟩) (fun _ _ _ _ _ => ⟨_, (je_op op_mul sim_mul (je_var (i := 6)) (je_var (i := 6)))⟩) (by decide) (fun _ => rfl)) sc_u_law_far.nd)) ja_nil')))))
    jss_nil)
    (jss_cons (js_if (jt_cmp (op_eqD (u64 hr)) sim_eq (je_var (i := 0)) je_str)
    (jss_one (js_ret (jm_n (je_cb cr_lenAny sim_len (by rfl) c.b_len (ja_cons (JO.je (LcP.jo (LcP.mk (own := [(("_law_part" : Str), 6)]) (ji_any (je_var (i := 3))) (show BlkOk N_u_law_far (defScope s_u_law_far) _ _ from ⟨rfl, by decide +kernel, by decide +kernel, by decide +kernel, by decide +kernel⟩) (fun _ _ _ _ _ => (jv_name (i := 6) sc_u_law_far.nd)) (fun _ _ _ _ _ => ⟨_, (jts_one (jt_cmp op_gt (sim_int (p := fun i j => decide (j < i))) (je_var (i := 6)) je_int))⟩) (fun _ _ _ _ _ => ⟨_, (je_var (i := 6))⟩) (by decide) (fun _ => rfl)) sc_u_law_far.nd)) ja_nil')))))
    jss_nil)
    (jss_one (js_ret (jm_n (je_if (jt_cmp (op_eqD (u64 hr)) sim_eq (je_var (i := 0)) je_str) (je_cb (cr_sum rfl) sim_sum (by rfl) c.b_sum (ja_cons (je_var (i := 3)) ja_nil')) (je_cb (cr_maxA rfl) sim_max (by rfl) c.b_max (ja_cons (je_var (i := 3)) ja_nil')))))))))⟩
theorem ok_u_law_far (c : Fx K mg) : CalG P w K mg base 1 "_law_far" s_u_law_far [] P_u_law_far (FnSp ⟨P, w, K, mg⟩ m_u_law_far) := cal_of c.d_u_law_far c.g_u_law_far sc_u_law_far (bo_u_law_far c)
theorem bo_u_law_passes (c : Fx K mg) (rm : List D → M D) (k : Nat) (hk : 0 ≤ k) (ih : CalG P w K mg base k "_law_passes" s_u_law_passes [] P_u_law_passes (FnSp ⟨P, w, K, mg⟩ rm)) : BodyOk P w K mg base N_u_law_passes "_law_passes" s_u_law_passes (He.ga K "_law_passes") k (b_u_law_passes rm) := fun cdv A outer s H E hg hr =>
  ⟨_, (jss_cons (js_set (i := 2) sc_u_law_passes.nd (jm_n (je_ix (u1 hr) (je_var (i := 0)) je_int)))
    (jss_cons (js_if (jt_cmp (op_eqD (u64 hr)) sim_eq (je_var (i := 2)) je_str)
    (jss_one (js_ret (jm_n (je_cb (cr_any rfl) sim_any (by rfl) c.b_any (ja_cons (JO.je (LcP.jo (LcP.mk (own := [(("_law_name" : Str), 3), (("_law_value" : Str), 4)]) (ji_any (je_ix (u1 hr) (je_var (i := 1)) je_int)) (show BlkOk N_u_law_passes (defScope s_u_law_passes) _ _ from ⟨rfl, by decide +kernel, by decide +kernel, by decide +kernel, by decide +kernel⟩) (fun _ _ _ _ _ => (jv_tup (K := K) (jvs_cons (jv_name (i := 3) sc_u_law_passes.nd) (jvs_cons (jv_name (i := 4) sc_u_law_passes.nd) jvs_nil)))) (fun _ _ _ _ _ => ⟨_, jts_nil⟩) (fun _ _ _ _ _ => ⟨_, (je_cmp (op_eqD (u64 hr)) sim_eq (je_var (i := 3)) (je_ix (u1 hr) (je_var (i := 0)) je_int))⟩) (by decide) (fun _ => rfl)) sc_u_law_passes.nd)) ja_nil')))))
    jss_nil)
    (jss_cons (js_if (jt_cmp (op_eqD (u64 hr)) sim_eq (je_var (i := 2)) je_str)
    (jss_one (js_ret (jm_n (je_cb (cr_any rfl) sim_any (by rfl) c.b_any (ja_cons (JO.je (LcP.jo (LcP.mk (own := [(("_law_name" : Str), 3), (("_law_value" : Str), 4)]) (ji_any (je_ix (u1 hr) (je_var (i := 1)) je_int)) (show BlkOk N_u_law_passes (defScope s_u_law_passes) _ _ from ⟨rfl, by decide +kernel, by decide +kernel, by decide +kernel, by decide +kernel⟩) (fun _ _ _ _ _ => (jv_tup (K := K) (jvs_cons (jv_name (i := 3) sc_u_law_passes.nd) (jvs_cons (jv_name (i := 4) sc_u_law_passes.nd) jvs_nil)))) (fun _ _ _ _ _ => ⟨_, jts_nil⟩) (fun _ _ _ _ _ => ⟨_, (je_and (je_cmp (op_eqD (u64 hr)) sim_eq (je_var (i := 3)) (je_ix (u1 hr) (je_var (i := 0)) je_int)) (je_one (je_chain op_le op_le (sim_int (p := fun i j => decide (i ≤ j))) (sim_int (p := fun i j => decide (i ≤ j))) (je_ix (u1 hr) (je_var (i := 0)) je_int) (je_var (i := 4)) (je_ix (u1 hr) (je_var (i := 0)) je_int))))⟩) (by decide) (fun _ => rfl)) sc_u_law_passes.nd)) ja_nil')))))
    jss_nil)
    (jss_cons (js_if (jt_cmp (op_eqD (u64 hr)) sim_eq (je_var (i := 2)) je_str)
    (jss_one (js_ret (jm_n (je_not (je_c (ix := [(0, 0), (0, 1)]) (ih) (Nat.le_refl _) hg hr (fun _ _ _ _ _ _ us ws h1 h2 => match us, h1, ws, h2 with | [_, _], _, [], _ => rfl) bhx (jc_10 (ja_cons (je_ix (u1 hr) (je_var (i := 0)) je_int) (ja_cons (je_var (i := 1)) ja_nil'))))))))
    jss_nil)
    (jss_cons (js_if (jt_cmp (op_eqD (u64 hr)) sim_eq (je_var (i := 2)) je_str)
    (jss_one (js_ret (jm_n (je_cb (cr_all rfl) sim_all (by rfl) c.b_all (ja_cons (JO.je (LcP.jo (LcP.mk (own := [(("_law_part" : Str), 5)]) (ji_any (je_cut (je_var (i := 0)) (jp_some je_int) jp_none)) (show BlkOk N_u_law_passes (defScope s_u_law_passes) _ _ from ⟨rfl, by decide +kernel, by decide +kernel, by decide +kernel, by decide +kernel⟩) (fun _ _ _ _ _ => (jv_name (i := 5) sc_u_law_passes.nd)) (fun _ _ _ _ _ => ⟨_, jts_nil⟩) (fun _ _ _ _ _ => ⟨_, (je_c (ix := [(0, 0), (0, 1)]) (ih) (Nat.le_refl _) hg hr (fun _ _ _ _ _ _ us ws h1 h2 => match us, h1, ws, h2 with | [_, _], _, [], _ => rfl) (h0 _) (jc_10 (ja_cons (je_var (i := 5)) (ja_cons (je_var (i := 1)) ja_nil'))))⟩) (by decide) (fun _ => rfl)) sc_u_law_passes.nd)) ja_nil')))))
    jss_nil)
    (jss_one (js_ret (jm_n (je_or (je_cmp (op_eqD (u64 hr)) sim_eq (je_var (i := 2)) je_str) (je_one (je_cb (cr_any rfl) sim_any (by rfl) c.b_any (ja_cons (JO.je (LcP.jo (LcP.mk (own := [(("_law_part" : Str), 5)]) (ji_any (je_cut (je_var (i := 0)) (jp_some je_int) jp_none)) (show BlkOk N_u_law_passes (defScope s_u_law_passes) _ _ from ⟨rfl, by decide +kernel, by decide +kernel, by decide +kernel, by decide +kernel⟩) (fun _ _ _ _ _ => (jv_name (i := 5) sc_u_law_passes.nd)) (fun _ _ _ _ _ => ⟨_, jts_nil⟩) (fun _ _ _ _ _ => ⟨_, (je_c (ix := [(0, 0), (0, 1)]) (ih) (Nat.le_refl _) hg hr (fun _ _ _ _ _ _ us ws h1 h2 => match us, h1, ws, h2 with | [_, _], _, [], _ => rfl) (h0 _) (jc_10 (ja_cons (je_var (i := 5)) (ja_cons (je_var (i := 1)) ja_nil'))))⟩) (by decide) (fun _ => rfl)) sc_u_law_passes.nd)) ja_nil'))))))))))))⟩
theorem ok_u_law_passes (c : Fx K mg) : ∀ n : Nat, CalG P w K mg base (1 + n) "_law_passes" s_u_law_passes [] P_u_law_passes (FnSp ⟨P, w, K, mg⟩ (m_u_law_passes n))
  | 0 => cal_stk c.d_u_law_passes c.g_u_law_passes
  | n + 1 => cal_of c.d_u_law_passes c.g_u_law_passes sc_u_law_passes (bo_u_law_passes c (m_u_law_passes n) (1 + n) (by omega) (ok_u_law_passes c n))
theorem bo_u_law_pairs (c : Fx K mg) : BodyOk P w K mg base N_u_law_pairs "_law_pairs" s_u_law_pairs (He.ga K "_law_pairs") 6 b_u_law_pairs := fun cdv A outer s H E hg hr =>
  ⟨_, (jss_cons (js_unp (jm_n (je_var (i := 1))) (jg_tup (jgs_cons (jg_name (i := 2) sc_u_law_pairs.nd) (jgs_cons (jg_name (i := 3) sc_u_law_pairs.nd) (jgs_cons (jg_name (i := 4) sc_u_law_pairs.nd) (jgs_cons (jg_name (i := 5) sc_u_law_pairs.nd) jgs_nil))))))
    (jss_one (js_ret (jm_fn (jo_cb cr_sortedA sim_sorted (by rfl) c.b_sorted (ja_cons (JO.je (LcP.jo (LcP.mk (own := [(("_law_item_here" : Str), 6)]) (ji_any (JO.je (jo_listVals rfl c.b_list (je_var (i := 0))))) (show BlkOk N_u_law_pairs (defScope s_u_law_pairs) _ _ from ⟨rfl, by decide +kernel, by decide +kernel, by decide +kernel, by decide +kernel⟩) (fun _ _ _ _ _ => (jv_name (i := 6) sc_u_law_pairs.nd)) (fun _ _ _ _ _ => ⟨_, (jts_one (jt_val (je_c (ix := [(0, 0), (0, 1)]) (ok_u_law_passes (base := base) c 5) (by decide) hg hr (fun _ _ _ _ _ _ us ws h1 h2 => match us, h1, ws, h2 with | [_, _], _, [], _ => rfl) (h0 _) (jc_10 (ja_cons (je_var (i := 5)) (ja_cons (je_var (i := 6)) ja_nil'))))))⟩) (fun _ _ _ _ _ => ⟨_, (je_tup (JAl.ja (ja_cons (je_c (ix := [(0, 0), (0, 1), (0, 2)]) (ok_u_law_far (base := base) c) (by decide) hg hr (fun _ _ _ _ _ _ us ws h1 h2 => match us, h1, ws, h2 with | [_, _, _], _, [], _ => rfl) (h0 _) (jc_10 (ja_cons (je_var (i := 2)) (ja_cons (je_var (i := 3)) (ja_cons (je_ix (u1 hr) (je_var (i := 6)) je_int) ja_nil'))))) (ja_cons (je_ix (u1 hr) (je_var (i := 6)) je_int) ja_nil'))))⟩) (by decide) (fun _ => rfl)) sc_u_law_pairs.nd)) ja_nil'))))))⟩
theorem ok_u_law_pairs (c : Fx K mg) : CalG P w K mg base 7 "_law_pairs" s_u_law_pairs [] P_u_law_pairs (FnSp ⟨P, w, K, mg⟩ m_u_law_pairs) := cal_of c.d_u_law_pairs c.g_u_law_pairs sc_u_law_pairs (bo_u_law_pairs c)
theorem bo_u_law_due (c : Fx K mg) : BodyOk P w K mg base N_u_law_due "_law_due" s_u_law_due (He.ga K "_law_due") 7 b_u_law_due := fun cdv A outer s H E hg hr =>
  ⟨_, (jss_one (js_ret (jm_n (je_ct cr_tupOf sim_tuple (by rfl) c.b_tuple (ja_cons (JO.je (LcP.jo (LcP.mk (own := [(("_law_pair" : Str), 3)]) (ji_any (je_c (ix := [(0, 0), (0, 1)]) (ok_u_law_pairs (base := base) c) (by decide) hg hr (fun _ _ _ _ _ _ us ws h1 h2 => match us, h1, ws, h2 with | [_, _], _, [], _ => rfl) bhx (jc_10 (ja_cons (je_var (i := 0)) (ja_cons (je_var (i := 1)) ja_nil'))))) (show BlkOk N_u_law_due (defScope s_u_law_due) _ _ from ⟨rfl, by decide +kernel, by decide +kernel, by decide +kernel, by decide +kernel⟩) (fun _ _ _ _ _ => (jv_name (i := 3) sc_u_law_due.nd)) (fun _ _ _ _ _ => ⟨_, (jts_one (jt_cmp op_le (sim_int (p := fun i j => decide (i ≤ j))) (je_ix (u1 hr) (je_var (i := 3)) je_int) (je_var (i := 2))))⟩) (fun _ _ _ _ _ => ⟨_, (je_var (i := 3))⟩) (by decide) (fun _ => rfl)) sc_u_law_due.nd)) ja_nil')))))⟩
theorem ok_u_law_due (c : Fx K mg) : CalG P w K mg base 8 "_law_due" s_u_law_due [] P_u_law_due (FnSp ⟨P, w, K, mg⟩ m_u_law_due) := cal_of c.d_u_law_due c.g_u_law_due sc_u_law_due (bo_u_law_due c)
theorem bo_u_law_deed (c : Fx K mg) : BodyOk P w K mg base N_u_law_deed "_law_deed" s_u_law_deed (He.ga K "_law_deed") 4 b_u_law_deed := fun cdv A outer s H E hg hr =>
  ⟨_, (jss_cons (js_par (i := 4) (j := 5) sc_u_law_deed.nd (jm_n (je_c (ix := [(0, 0), (0, 1)]) (ok_u_law_pick (base := base) c) (by decide) hg hr (fun _ _ _ _ _ _ us ws h1 h2 => match us, h1, ws, h2 with | [_, _], _, [], _ => rfl) bhx (jc_10 (ja_cons (je_var (i := 0)) (ja_cons (je_var (i := 2)) ja_nil'))))) (jm_n (je_c (ix := [(0, 0), (0, 1)]) (ok_u_law_draw (base := base) c) (by decide) hg hr (fun _ _ _ _ _ _ us ws h1 h2 => match us, h1, ws, h2 with | [_, _], _, [], _ => rfl) bhx (jc_10 (ja_cons (je_var (i := 0)) (ja_cons je_int ja_nil'))))))
    (jss_cons (js_if (jt_cmp op_lt (sim_int (p := fun i j => decide (i < j))) (je_var (i := 5)) je_int)
    (jss_one (js_ret (jm_n (je_tup (JAl.ja (ja_cons je_str (ja_cons (je_var (i := 4)) ja_nil')))))))
    jss_nil)
    (jss_cons (js_if (jw_pt (jw_and (jt_cmp (op_eqD (u64 hr)) sim_eq (je_var (i := 5)) je_int) (jw_and1 (jt_cmp (op_inAny (u65 hr)) (sim_in (neg := false)) (je_var (i := 4)) (je_var (i := 1))))))
    (jss_one (js_ret (jm_n (je_tup (JAl.ja (ja_cons je_str (ja_cons (je_ix (u1 hr) (je_var (i := 1)) (je_var (i := 4))) ja_nil')))))))
    jss_nil)
    (jss_cons (js_if (jw_pt (jw_and (jt_cmp (op_eqD (u64 hr)) sim_eq (je_var (i := 5)) je_int) (jw_and1 (jt_cmp (op_inAny (u65 hr)) (sim_in (neg := false)) (je_var (i := 4)) (je_var (i := 1))))))
    (jss_one (js_ret (jm_n (je_tup (JAl.ja (ja_cons je_str (ja_cons (je_tup (JAl.ja (ja_cons (je_var (i := 4)) (ja_cons (je_c (ix := [(0, 0), (0, 1)]) (ok_u_law_vector (base := base) c) (by decide) hg hr (fun _ _ _ _ _ _ us ws h1 h2 => match us, h1, ws, h2 with | [_, _], _, [], _ => rfl) bhx (jc_10 (ja_cons (je_var (i := 0)) (ja_cons (je_var (i := 3)) ja_nil')))) (ja_cons (je_ix (u1 hr) (je_ix (u1 hr) (je_var (i := 1)) (je_var (i := 4))) je_int) ja_nil'))))) ja_nil')))))))
    jss_nil)
    (jss_one (js_ret (jm_n (je_tup (JAl.ja (ja_cons je_str (ja_cons (je_c (ix := [(0, 0), (0, 1), (0, 2)]) (ok_u_law_item (base := base) c) (by decide) hg hr (fun _ _ _ _ _ _ us ws h1 h2 => match us, h1, ws, h2 with | [_, _, _], _, [], _ => rfl) bhx (jc_10 (ja_cons (je_var (i := 0)) (ja_cons (je_var (i := 4)) (ja_cons (je_var (i := 3)) ja_nil'))))) ja_nil')))))))))))⟩
theorem ok_u_law_deed (c : Fx K mg) : CalG P w K mg base 5 "_law_deed" s_u_law_deed [] P_u_law_deed (FnSp ⟨P, w, K, mg⟩ m_u_law_deed) := cal_of c.d_u_law_deed c.g_u_law_deed sc_u_law_deed (bo_u_law_deed c)
theorem bo_unews_of (c : Fx K mg) : BodyOk P w K mg base N_unews_of "news_of" s_unews_of (He.ga K "news_of") 0 b_unews_of := fun cdv A outer s H E hg hr =>
  ⟨_, (jss_one (js_ret (jm_n (je_tup (JAl.ja (ja_cons (je_ct cr_tupOf sim_tuple (by rfl) c.b_tuple (ja_cons (JO.je (LcP.jo (LcP.mk (own := [(("pair" : Str), 2)]) (ji_any (je_var (i := 0))) (show BlkOk N_unews_of (defScope s_unews_of) _ _ from ⟨rfl, by decide +kernel, by decide +kernel, by decide +kernel, by decide +kernel⟩) (fun _ _ _ _ _ => (jv_name (i := 2) sc_unews_of.nd)) (fun _ _ _ _ _ => ⟨_, (jts_one (jt_cmp (op_notInAny (u65 hr)) (sim_in (neg := true)) (je_var (i := 2)) (je_var (i := 1))))⟩) (fun _ _ _ _ _ => ⟨_, (je_var (i := 2))⟩) (by decide) (fun _ => rfl)) sc_unews_of.nd)) ja_nil')) (ja_cons (je_ct cr_tupOf sim_tuple (by rfl) c.b_tuple (ja_cons (JO.je (LcP.jo (LcP.mk (own := [(("pair" : Str), 2)]) (ji_any (je_var (i := 1))) (show BlkOk N_unews_of (defScope s_unews_of) _ _ from ⟨rfl, by decide +kernel, by decide +kernel, by decide +kernel, by decide +kernel⟩) (fun _ _ _ _ _ => (jv_name (i := 2) sc_unews_of.nd)) (fun _ _ _ _ _ => ⟨_, (jts_one (jt_cmp (op_notInAny (u65 hr)) (sim_in (neg := true)) (je_var (i := 2)) (je_var (i := 0))))⟩) (fun _ _ _ _ _ => ⟨_, (je_var (i := 2))⟩) (by decide) (fun _ => rfl)) sc_unews_of.nd)) ja_nil')) ja_nil')))))))⟩
theorem ok_unews_of (c : Fx K mg) : CalG P w K mg base 1 "news_of" s_unews_of [] P_unews_of (FnSp ⟨P, w, K, mg⟩ m_unews_of) := cal_of c.d_unews_of c.g_unews_of sc_unews_of (bo_unews_of c)
theorem bo_udeed_key (c : Fx K mg) : BodyOk P w K mg base N_udeed_key "deed_key" s_udeed_key (He.ga K "deed_key") 0 b_udeed_key := fun cdv A outer s H E hg hr =>
  ⟨_, (jss_one (js_ret (jm_n (je_if (jt_cmp (op_eqD (u64 hr)) sim_eq (je_ix (u1 hr) (je_var (i := 0)) je_int) je_str) (je_ix (u1 hr) (je_ix (u1 hr) (je_var (i := 0)) je_int) je_int) (je_ix (u1 hr) (je_var (i := 0)) je_int)))))⟩
theorem ok_udeed_key (c : Fx K mg) : CalG P w K mg base 1 "deed_key" s_udeed_key [] P_udeed_key (FnSp ⟨P, w, K, mg⟩ m_udeed_key) := cal_of c.d_udeed_key c.g_udeed_key sc_udeed_key (bo_udeed_key c)
theorem bo_uis_within (c : Fx K mg) : BodyOk P w K mg base N_uis_within "is_within" s_uis_within (He.ga K "is_within") 1 b_uis_within := fun cdv A outer s H E hg hr =>
  ⟨_, (jss_cons (js_set (i := 4) sc_uis_within.nd (jm_n je_int))
    (jss_cons (js_for bhp (ji_any (je_c (ix := [(0, 0), (0, 1)]) (ok_udifferences (base := base) c) (by decide) hg hr (fun _ _ _ _ _ _ us ws h1 h2 => match us, h1, ws, h2 with | [_, _], _, [], _ => rfl) bhx (jc_10 (ja_cons (je_var (i := 1)) (ja_cons (je_var (i := 2)) ja_nil'))))) (jg_name (i := 5) sc_uis_within.nd)
    (jss_cons (js_set (i := 4) sc_uis_within.nd (jm_n (je_c (ix := [(0, 0), (0, 1)]) (ok_ujoined_parts (base := base) c) (by decide) hg hr (fun _ _ _ _ _ _ us ws h1 h2 => match us, h1, ws, h2 with | [_, _], _, [], _ => rfl) bhx (jc_10 (ja_cons (je_var (i := 0)) (ja_cons (JO.je (jo_lst (ja_cons (je_var (i := 4)) (ja_cons (je_c (ix := [(0, 0), (0, 1)]) (ok_upart_of (base := base) c) (by decide) hg hr (fun _ _ _ _ _ _ us ws h1 h2 => match us, h1, ws, h2 with | [_, _], _, [], _ => rfl) bhx (jc_10 (ja_cons (je_var (i := 0)) (ja_cons (je_var (i := 5)) ja_nil')))) ja_nil')))) ja_nil'))))))
    (jss_one (js_if (jt_cmp op_gt (sim_int (p := fun i j => decide (j < i))) (je_var (i := 4)) (je_var (i := 3)))
    (jss_one (js_ret (jm_n je_bl)))
    jss_nil))))
    (jss_one (js_ret (jm_n (je_cmp op_le (sim_int (p := fun i j => decide (i ≤ j))) (je_var (i := 4)) (je_var (i := 3))))))))⟩
theorem ok_uis_within (c : Fx K mg) : CalG P w K mg base 2 "is_within" s_uis_within [] P_uis_within (FnSp ⟨P, w, K, mg⟩ m_uis_within) := cal_of c.d_uis_within c.g_uis_within sc_uis_within (bo_uis_within c)
theorem bo_uput_pair (c : Fx K mg) : BodyOk P w K mg base N_uput_pair "put_pair" s_uput_pair (He.ga K "put_pair") 8 b_uput_pair := fun cdv A outer s H E hg hr =>
  ⟨_, (jss_cons (js_if (jw_pt (jw_or (jt_cmp (op_neD (u64 hr)) sim_ne (je_ix (u1 hr) (je_var (i := 3)) je_int) je_str) (jw_or1 (jt_not (jt_val (je_c (ix := [(0, 0), (0, 1)]) (ok_upasses (base := base) c) (by decide) hg hr (fun _ _ _ _ _ _ us ws h1 h2 => match us, h1, ws, h2 with | [_, _], _, [], _ => rfl) bhx (jc_10 (ja_cons (je_var (i := 2)) (ja_cons (je_ix (u1 hr) (je_var (i := 3)) je_int) ja_nil')))))))))
    (jss_one (js_ret (jm_n je_non)))
    jss_nil)
    (jss_one (js_ret (jm_n (je_tup (JAl.ja (ja_cons (je_c (ix := [(0, 0), (0, 1), (0, 2)]) (ok_udistance (base := base) c) (by decide) hg hr (fun _ _ _ _ _ _ us ws h1 h2 => match us, h1, ws, h2 with | [_, _, _], _, [], _ => rfl) bhx (jc_10 (ja_cons (je_var (i := 0)) (ja_cons (je_var (i := 1)) (ja_cons (je_ix (u1 hr) (je_ix (u1 hr) (je_var (i := 3)) je_int) je_int) ja_nil'))))) (ja_cons (je_ix (u1 hr) (je_ix (u1 hr) (je_var (i := 3)) je_int) je_int) ja_nil'))))))))⟩
theorem ok_uput_pair (c : Fx K mg) : CalG P w K mg base 9 "put_pair" s_uput_pair [] P_uput_pair (FnSp ⟨P, w, K, mg⟩ m_uput_pair) := cal_of c.d_uput_pair c.g_uput_pair sc_uput_pair (bo_uput_pair c)
theorem bo_uNearby_told (c : Fx K mg) : BodyOk P w K mg base N_uNearby_told "Nearby.told" s_uNearby_told (He.ma K (He.ga K "Nearby") "told") 9 b_uNearby_told := fun cdv A outer s H E hg hr =>
  ⟨_, (jss_cons (js_unp (jm_n (je_tup (JAl.ja (ja_cons (je_fld c.g_Nearby c.cls_Nearby c.na_Nearby_all_pairs (je_var (i := 0))) (ja_cons (je_c (ix := [(0, 0)]) (ok_udeed_key (base := base) c) (by decide) hg hr (fun _ _ _ _ _ _ us ws h1 h2 => match us, h1, ws, h2 with | [_], _, [], _ => rfl) bhx (jc_10 (ja_cons (je_var (i := 1)) ja_nil'))) ja_nil'))))) (jg_tup (jgs_cons (jg_name (i := 2) sc_uNearby_told.nd) (jgs_cons (jg_name (i := 3) sc_uNearby_told.nd) jgs_nil))))
    (jss_cons (js_setLc (i := 4) (o := false) (LcP.mk (own := [(("pair" : Str), 5)]) (ji_any (je_var (i := 2))) (show BlkOk N_uNearby_told (defScope s_uNearby_told) _ _ from ⟨rfl, by decide +kernel, by decide +kernel, by decide +kernel, by decide +kernel⟩) (fun _ _ _ _ _ => (jv_name (i := 5) sc_uNearby_told.nd)) (fun _ _ _ _ _ => ⟨_, (jts_one (jt_cmp (op_neD (u64 hr)) sim_ne (je_ix (u1 hr) (je_var (i := 5)) je_int) (je_var (i := 3))))⟩) (fun _ _ _ _ _ => ⟨_, (je_var (i := 5))⟩) (by decide) (fun _ => rfl)) sc_uNearby_told.nd (sw_true rfl rfl rfl rfl))
    (jss_cons (js_if (jw_pt (jw_and (jt_cmp (op_eqD (u64 hr)) sim_eq (je_ix (u1 hr) (je_var (i := 1)) je_int) je_str) (jw_and1 (jt_val (je_c (ix := [(0, 0), (0, 1), (0, 2), (0, 3)]) (ok_uis_within (base := base) c) (by decide) hg hr (fun _ _ _ _ _ _ us ws h1 h2 => match us, h1, ws, h2 with | [_, _, _, _], _, [], _ => rfl) bhx (jc_10 (ja_cons (je_fld c.g_Nearby c.cls_Nearby c.na_Nearby_kind (je_var (i := 0))) (ja_cons (je_fld c.g_Nearby c.cls_Nearby c.na_Nearby_vector (je_var (i := 0))) (ja_cons (je_ix (u1 hr) (je_ix (u1 hr) (je_var (i := 1)) je_int) je_int) (ja_cons (je_fld c.g_Nearby c.cls_Nearby c.na_Nearby_reach (je_var (i := 0))) ja_nil'))))))))))
    (jss_cons (js_set (i := 5) sc_uNearby_told.nd (jm_n (je_c (ix := [(0, 0), (0, 1), (0, 2), (0, 3)]) (ok_uput_pair (base := base) c) (by decide) hg hr (fun _ _ _ _ _ _ us ws h1 h2 => match us, h1, ws, h2 with | [_, _, _, _], _, [], _ => rfl) bhx (jc_10 (ja_cons (je_fld c.g_Nearby c.cls_Nearby c.na_Nearby_kind (je_var (i := 0))) (ja_cons (je_fld c.g_Nearby c.cls_Nearby c.na_Nearby_vector (je_var (i := 0))) (ja_cons (je_fld c.g_Nearby c.cls_Nearby c.na_Nearby_sieve (je_var (i := 0))) (ja_cons (je_var (i := 1)) ja_nil'))))))))
    (jss_one (js_set (i := 4) sc_uNearby_told.nd (jm_n (je_if (jt_cmp op_isN sim_isN (je_var (i := 5)) je_non) (je_var (i := 4)) (je_op op_addAny sim_add (je_var (i := 4)) (JO.je (jo_lst (ja_cons (je_var (i := 5)) ja_nil')))))))))
    jss_nil)
    (jss_cons (js_fldL (E' := fun _ => E) c.g_Nearby c.cls_Nearby c.na_Nearby_all_pairs (je_var (i := 0)) (je_ct cr_tupOf sim_tuple (by rfl) c.b_tuple (ja_cons (JO.je (jo_cb cr_sortedA sim_sorted (by rfl) c.b_sorted (ja_cons (je_var (i := 4)) ja_nil'))) ja_nil')))
    (jss_one (js_ret (jm_n (je_c (ix := [(0, 0), (0, 1)]) (ok_unews_of (base := base) c) (by decide) hg hr (fun _ _ _ _ _ _ us ws h1 h2 => match us, h1, ws, h2 with | [_, _], _, [], _ => rfl) bhx (jc_10 (ja_cons (je_var (i := 2)) (ja_cons (je_fld c.g_Nearby c.cls_Nearby c.na_Nearby_all_pairs (je_var (i := 0))) ja_nil')))))))))))⟩
theorem ok_uNearby_told (c : Fx K mg) : MetG P w K mg base 10 "Nearby" "told" "Nearby.told" s_uNearby_told [] P_uNearby_told (FnSp ⟨P, w, K, mg⟩ m_uNearby_told) := met_of c.d_uNearby_told c.g_Nearby c.mt_uNearby_told c.cls_Nearby sc_uNearby_told (bo_uNearby_told c)
theorem bo_u_law_news (c : Fx K mg) : BodyOk P w K mg base N_u_law_news "_law_news" s_u_law_news (He.ga K "_law_news") 0 b_u_law_news := fun cdv A outer s H E hg hr =>
  ⟨_, (jss_one (js_ret (jm_n (je_tup (JAl.ja (ja_cons (je_ct cr_tupOf sim_tuple (by rfl) c.b_tuple (ja_cons (JO.je (LcP.jo (LcP.mk (own := [(("_law_pair" : Str), 2)]) (ji_any (je_var (i := 0))) (show BlkOk N_u_law_news (defScope s_u_law_news) _ _ from ⟨rfl, by decide +kernel, by decide +kernel, by decide +kernel, by decide +kernel⟩) (fun _ _ _ _ _ => (jv_name (i := 2) sc_u_law_news.nd)) (fun _ _ _ _ _ => ⟨_, (jts_one (jt_cmp (op_notInAny (u65 hr)) (sim_in (neg := true)) (je_var (i := 2)) (je_var (i := 1))))⟩) (fun _ _ _ _ _ => ⟨_, (je_var (i := 2))⟩) (by decide) (fun _ => rfl)) sc_u_law_news.nd)) ja_nil')) (ja_cons (je_ct cr_tupOf sim_tuple (by rfl) c.b_tuple (ja_cons (JO.je (LcP.jo (LcP.mk (own := [(("_law_pair" : Str), 2)]) (ji_any (je_var (i := 1))) (show BlkOk N_u_law_news (defScope s_u_law_news) _ _ from ⟨rfl, by decide +kernel, by decide +kernel, by decide +kernel, by decide +kernel⟩) (fun _ _ _ _ _ => (jv_name (i := 2) sc_u_law_news.nd)) (fun _ _ _ _ _ => ⟨_, (jts_one (jt_cmp (op_notInAny (u65 hr)) (sim_in (neg := true)) (je_var (i := 2)) (je_var (i := 0))))⟩) (fun _ _ _ _ _ => ⟨_, (je_var (i := 2))⟩) (by decide) (fun _ => rfl)) sc_u_law_news.nd)) ja_nil')) ja_nil')))))))⟩
theorem ok_u_law_news (c : Fx K mg) : CalG P w K mg base 1 "_law_news" s_u_law_news [] P_u_law_news (FnSp ⟨P, w, K, mg⟩ m_u_law_news) := cal_of c.d_u_law_news c.g_u_law_news sc_u_law_news (bo_u_law_news c)
theorem bo_uNearby_kept (c : Fx K mg) : BodyOk P w K mg base N_uNearby_kept "Nearby.kept" s_uNearby_kept (He.ma K (He.ga K "Nearby") "kept") 0 b_uNearby_kept := fun cdv A outer s H E hg hr =>
  ⟨_, (jss_one (js_ret (jm_n (je_fld c.g_Nearby c.cls_Nearby c.na_Nearby_all_pairs (je_var (i := 0))))))⟩
theorem ok_uNearby_kept (c : Fx K mg) : MetG P w K mg base 1 "Nearby" "kept" "Nearby.kept" s_uNearby_kept [] P_uNearby_kept (FnSp ⟨P, w, K, mg⟩ m_uNearby_kept) := met_of c.d_uNearby_kept c.g_Nearby c.mt_uNearby_kept c.cls_Nearby sc_uNearby_kept (bo_uNearby_kept c)
theorem bo_u_law_run (c : Fx K mg) : BodyOk P w K mg base N_u_law_run "_law_run" s_u_law_run (He.ga K "_law_run") 13 b_u_law_run := fun cdv A outer s H E hg hr =>
  ⟨_, (jss_cons (js_par (i := 4) (j := 5) sc_u_law_run.nd (jm_n (je_c (ix := [(0, 0), (0, 1), (0, 2)]) (ok_u_law_start (base := base) c) (by decide) hg hr (fun _ _ _ _ _ _ us ws h1 h2 => match us, h1, ws, h2 with | [_, _, _], _, [], _ => rfl) bhx (jc_10 (ja_cons (je_var (i := 0)) (ja_cons (je_var (i := 2)) (ja_cons (je_var (i := 1)) ja_nil')))))) (jm_n (je_c (ix := [(0, 0), (0, 1), (0, 2)]) (ok_u_law_question (base := base) c) (by decide) hg hr (fun _ _ _ _ _ _ us ws h1 h2 => match us, h1, ws, h2 with | [_, _, _], _, [], _ => rfl) bhx (jc_10 (ja_cons (je_var (i := 0)) (ja_cons (je_var (i := 1)) (ja_cons je_int ja_nil')))))))
    (jss_cons (js_unp (jm_n (je_var (i := 5))) (jg_tup (jgs_cons (jg_name (i := 6) sc_u_law_run.nd) (jgs_cons (jg_name (i := 7) sc_u_law_run.nd) (jgs_cons (jg_name (i := 8) sc_u_law_run.nd) (jgs_cons (jg_name (i := 9) sc_u_law_run.nd) jgs_nil))))))
    (jss_cons (js_set (i := 10) sc_u_law_run.nd (jm_n (je_c (ix := [(0, 0), (0, 1)]) (ok_u_law_pick (base := base) c) (by decide) hg hr (fun _ _ _ _ _ _ us ws h1 h2 => match us, h1, ws, h2 with | [_, _], _, [], _ => rfl) bhx (jc_10 (ja_cons (je_var (i := 0)) (ja_cons (JO.je (jo_lst (ja_cons (je_op op_sub sim_sub je_int je_int) (ja_cons je_int (ja_cons je_int (ja_cons je_int (ja_cons je_int (ja_cons je_int (ja_cons je_int (ja_cons (je_c (ix := [(0, 0), (0, 1)]) (ok_u_law_draw (base := base) c) (by decide) hg hr (fun _ _ _ _ _ _ us ws h1 h2 => match us, h1, ws, h2 with | [_, _], _, [], _ => rfl) bhx (jc_10 (ja_cons (je_var (i := 0)) (ja_cons je_int ja_nil')))) (ja_cons (je_op op_pow sim_pow je_int je_int) ja_nil'))))))))))) ja_nil'))))))
    (jss_cons (js_set (i := 11) sc_u_law_run.nd (jm_on (jo_c (ix := [(0, 0), (0, 1)]) (ok_u_law_done (base := base) c) (by decide) hg hr (fun _ _ _ _ _ _ us ws h1 h2 => match us, h1, ws, h2 with | [_, _], _, [], _ => rfl) bhx (jc_10 (ja_cons (je_var (i := 4)) (ja_cons (je_tup (JAl.ja (ja_cons je_str (ja_cons (je_op op_sub sim_sub je_int je_int) ja_nil')))) ja_nil'))))))
    (jss_cons (js_set (i := 12) sc_u_law_run.nd (jm_vL (je_k (ix := [(0, 0), (2, 4), (2, 3), (2, 2), (2, 1), (2, 0)]) (ok_uNearby___init__ (base := base) c) c.mk_Nearby (by decide) hg hr (fun _ _ _ _ _ _ us ws h1 h2 => match us, h1, ws, h2 with | [_], _, [_, _, _, _, _], _ => rfl) bhx (jc_01 (ks := [("sieve" : Str), ("reach" : Str), ("vector" : Str), ("kind" : Str), ("state" : Str)]) (jk_cons (je_var (i := 9)) (jk_cons (je_var (i := 10)) (jk_cons (je_var (i := 7)) (jk_cons (je_var (i := 6)) (jk_cons (je_var (i := 11)) jk_nil)))))))))
    (jss_cons (js_par (i := 13) (j := 14) sc_u_law_run.nd (jm_n (je_k (ix := [(0, 0), (0, 1), (0, 2), (0, 3), (0, 4), (0, 5)]) (ok_uNearby___init__ (base := base) c) c.mk_Nearby (by decide) hg hr (fun _ _ _ _ _ _ us ws h1 h2 => match us, h1, ws, h2 with | [_, _, _, _, _, _], _, [], _ => rfl) bhx (jc_10 (ja_cons (je_var (i := 4)) (ja_cons (je_var (i := 6)) (ja_cons (je_var (i := 7)) (ja_cons (je_var (i := 10)) (ja_cons (je_var (i := 9)) ja_nil')))))))) (jm_n (je_c (ix := [(0, 0), (0, 1), (0, 2)]) (ok_u_law_due (base := base) c) (by decide) hg hr (fun _ _ _ _ _ _ us ws h1 h2 => match us, h1, ws, h2 with | [_, _, _], _, [], _ => rfl) bhx (jc_10 (ja_cons (je_var (i := 4)) (ja_cons (je_var (i := 5)) (ja_cons (je_var (i := 10)) ja_nil')))))))
    (jss_cons (js_putK (i := 11) (u1 hr) (jm_n (je_tup (JAl.ja (ja_cons je_int (ja_cons (je_var (i := 7)) (ja_cons (je_tup (JAl.ja ja_nil')) ja_nil')))))) (jm_n je_int))
    (jss_cons (js_set (i := 15) sc_u_law_run.nd (jm_n (je_cb (cr_repr hg (u100 hr)) sim_repr (by rfl) c.b_repr (ja_cons (je_var (i := 14)) ja_nil'))))
    (jss_cons (js_for bhp (ji_rng1 c.b_range (ja_cons (je_var (i := 3)) ja_nil')) (jg_name (i := 16) sc_u_law_run.nd)
    (jss_cons (js_if (jw_pt (jw_or (jt_cmp (op_neD (u64 hr)) sim_ne (je_cb (cr_repr hg (u100 hr)) sim_repr (by rfl) c.b_repr (ja_cons (je_m (ix := [(0, 0)]) (ok_uNearby_kept (base := base) c) (by decide) hg hr (fun _ _ _ _ _ _ us ws h1 h2 => match us, h1, ws, h2 with | [_], _, [], _ => rfl) bhx (je_var (i := 12)) jc_00) ja_nil')) (je_cb (cr_repr hg (u100 hr)) sim_repr (by rfl) c.b_repr (ja_cons (je_var (i := 14)) ja_nil'))) (jw_or1 (jt_cmp (op_neD (u64 hr)) sim_ne (je_tup (JAl.ja (ja_cons (je_fld c.g_Nearby c.cls_Nearby c.na_Nearby_kind (je_var (i := 12))) (ja_cons (je_fld c.g_Nearby c.cls_Nearby c.na_Nearby_vector (je_var (i := 12))) (ja_cons (je_fld c.g_Nearby c.cls_Nearby c.na_Nearby_reach (je_var (i := 12))) (ja_cons (je_fld c.g_Nearby c.cls_Nearby c.na_Nearby_sieve (je_var (i := 12))) ja_nil')))))) (je_tup (JAl.ja (ja_cons (je_var (i := 6)) (ja_cons (je_var (i := 7)) (ja_cons (je_var (i := 10)) (ja_cons (je_var (i := 9)) ja_nil'))))))))))
    (jss_one (js_ret (jm_n je_bl)))
    jss_nil)
    (jss_cons (js_set (i := 17) sc_u_law_run.nd (jm_n (je_c (ix := [(0, 0), (0, 1), (0, 2), (0, 3)]) (ok_u_law_deed (base := base) c) (by decide) hg hr (fun _ _ _ _ _ _ us ws h1 h2 => match us, h1, ws, h2 with | [_, _, _, _], _, [], _ => rfl) bhx (jc_10 (ja_cons (je_var (i := 0)) (ja_cons (je_var (i := 4)) (ja_cons (je_var (i := 2)) (ja_cons (je_var (i := 1)) ja_nil'))))))))
    (jss_cons (js_set (i := 4) sc_u_law_run.nd (jm_fn (jo_c (ix := [(0, 0), (0, 1)]) (ok_u_law_done (base := base) c) (by decide) hg hr (fun _ _ _ _ _ _ us ws h1 h2 => match us, h1, ws, h2 with | [_, _], _, [], _ => rfl) bhx (jc_10 (ja_cons (je_var (i := 4)) (ja_cons (je_var (i := 17)) ja_nil'))))))
    (jss_cons (js_set (i := 18) sc_u_law_run.nd (jm_n (je_c (ix := [(0, 0), (0, 1), (0, 2)]) (ok_u_law_due (base := base) c) (by decide) hg hr (fun _ _ _ _ _ _ us ws h1 h2 => match us, h1, ws, h2 with | [_, _, _], _, [], _ => rfl) bhx (jc_10 (ja_cons (je_var (i := 4)) (ja_cons (je_var (i := 5)) (ja_cons (je_var (i := 10)) ja_nil')))))))
    (jss_cons (js_if (jt_cmp (op_neD (u64 hr)) sim_ne (je_cb (cr_repr hg (u100 hr)) sim_repr (by rfl) c.b_repr (ja_cons (je_m (ix := [(0, 0), (2, 0)]) (ok_uNearby_told (base := base) c) (by decide) hg hr (fun _ _ _ _ _ _ us ws h1 h2 => match us, h1, ws, h2 with | [_], _, [_], _ => rfl) bhx (je_var (i := 12)) (jc_01 (ks := [("deed" : Str)]) (jk_cons (je_var (i := 17)) jk_nil))) ja_nil')) (je_cb (cr_repr hg (u100 hr)) sim_repr (by rfl) c.b_repr (ja_cons (je_c (ix := [(0, 0), (0, 1)]) (ok_u_law_news (base := base) c) (by decide) hg hr (fun _ _ _ _ _ _ us ws h1 h2 => match us, h1, ws, h2 with | [_, _], _, [], _ => rfl) bhx (jc_10 (ja_cons (je_var (i := 14)) (ja_cons (je_var (i := 18)) ja_nil')))) ja_nil')))
    (jss_one (js_ret (jm_n je_bl)))
    jss_nil)
    (jss_one (js_set (i := 14) sc_u_law_run.nd (jm_n (je_var (i := 18)))))))))))
    (jss_one (js_ret (jm_n (je_and (je_cmp (op_eqD (u64 hr)) sim_eq (je_cb (cr_repr hg (u100 hr)) sim_repr (by rfl) c.b_repr (ja_cons (je_m (ix := [(0, 0)]) (ok_uNearby_kept (base := base) c) (by decide) hg hr (fun _ _ _ _ _ _ us ws h1 h2 => match us, h1, ws, h2 with | [_], _, [], _ => rfl) bhx (je_var (i := 12)) jc_00) ja_nil')) (je_cb (cr_repr hg (u100 hr)) sim_repr (by rfl) c.b_repr (ja_cons (je_var (i := 14)) ja_nil'))) (je_one (je_cmp (op_eqD (u64 hr)) sim_eq (je_cb (cr_repr hg (u100 hr)) sim_repr (by rfl) c.b_repr (ja_cons (je_m (ix := [(0, 0)]) (ok_uNearby_kept (base := base) c) (by decide) hg hr (fun _ _ _ _ _ _ us ws h1 h2 => match us, h1, ws, h2 with | [_], _, [], _ => rfl) bhx (je_var (i := 13)) jc_00) ja_nil')) (je_var (i := 15)))))))))))))))))⟩
theorem ok_u_law_run (c : Fx K mg) : CalG P w K mg base 14 "_law_run" s_u_law_run [] P_u_law_run (FnSp ⟨P, w, K, mg⟩ m_u_law_run) := cal_of c.d_u_law_run c.g_u_law_run sc_u_law_run (bo_u_law_run c)
theorem bo_ulaw (c : Fx K mg) : BodyOk P w K mg base N_ulaw "law" s_ulaw (He.ga K "law") 14 b_ulaw := fun cdv A outer s H E hg hr =>
  ⟨_, (jss_cons (js_set (i := 1) sc_ulaw.nd (jm_n (je_c (ix := [(0, 0)]) (ok_u_law_heap (base := base) c) (by decide) hg hr (fun _ _ _ _ _ _ us ws h1 h2 => match us, h1, ws, h2 with | [_], _, [], _ => rfl) bhx (jc_10 (ja_cons (je_var (i := 0)) ja_nil')))))
    (jss_cons (js_for bhp (ji_rng1 c.b_range (ja_cons (je_op op_addAny sim_add je_int (je_op op_mul sim_mul je_int (je_ct cr_int1 sim_int1 (by rfl) c.b_int (ja_cons (je_cmp op_gt (sim_int (p := fun i j => decide (j < i))) (je_cb cr_lenAny sim_len (by rfl) c.b_len (ja_cons (je_var (i := 0)) ja_nil')) je_int) ja_nil')))) ja_nil')) (jg_name (i := 2) sc_ulaw.nd)
    (jss_cons (js_setLc (i := 3) (o := false) (LcP.mk (own := [(("_law_at" : Str), 5)]) (ji_rng1 c.b_range (ja_cons (je_op op_addAny sim_add je_int (je_c (ix := [(0, 0), (0, 1)]) (ok_u_law_draw (base := base) c) (by decide) hg hr (fun _ _ _ _ _ _ us ws h1 h2 => match us, h1, ws, h2 with | [_, _], _, [], _ => rfl) bhx (jc_10 (ja_cons (je_var (i := 1)) (ja_cons je_int ja_nil'))))) ja_nil')) (show BlkOk N_ulaw (defScope s_ulaw) _ _ from ⟨rfl, by decide +kernel, by decide +kernel, by decide +kernel, by decide +kernel⟩) (fun _ _ _ _ _ => (jv_name (i := 5) sc_ulaw.nd)) (fun _ _ _ _ _ => ⟨_, jts_nil⟩) (fun _ _ _ _ _ => ⟨_, (je_op op_addAny sim_add (je_op op_mul sim_mul je_int (je_var (i := 5))) (je_c (ix := [(0, 0), (0, 1)]) (ok_u_law_draw (base := base) c) (by decide) hg hr (fun _ _ _ _ _ _ us ws h1 h2 => match us, h1, ws, h2 with | [_, _], _, [], _ => rfl) (h0 _) (jc_10 (ja_cons (je_var (i := 1)) (ja_cons je_int ja_nil')))))⟩) (by decide) (fun _ => rfl)) sc_ulaw.nd (sw_true rfl rfl rfl rfl))
    (jss_one (js_if (jt_not (jt_val (je_c (ix := [(0, 0), (0, 1), (0, 2), (0, 3)]) (ok_u_law_run (base := base) c) (by decide) hg hr (fun _ _ _ _ _ _ us ws h1 h2 => match us, h1, ws, h2 with | [_, _, _, _], _, [], _ => rfl) bhx (jc_10 (ja_cons (je_var (i := 1)) (ja_cons (je_c (ix := [(0, 0), (0, 1)]) (ok_u_law_pick (base := base) c) (by decide) hg hr (fun _ _ _ _ _ _ us ws h1 h2 => match us, h1, ws, h2 with | [_, _], _, [], _ => rfl) bhx (jc_10 (ja_cons (je_var (i := 1)) (ja_cons (JO.je (jo_lst (ja_cons je_int (ja_cons je_int (ja_cons je_int (ja_cons je_int (ja_cons je_int ja_nil'))))))) ja_nil')))) (ja_cons (je_var (i := 3)) (ja_cons (je_op op_addAny sim_add je_int (je_c (ix := [(0, 0), (0, 1)]) (ok_u_law_draw (base := base) c) (by decide) hg hr (fun _ _ _ _ _ _ us ws h1 h2 => match us, h1, ws, h2 with | [_, _], _, [], _ => rfl) bhx (jc_10 (ja_cons (je_var (i := 1)) (ja_cons je_int ja_nil'))))) ja_nil'))))))))
    (jss_one (js_ret (jm_n je_bl)))
    jss_nil))))
    (jss_cons (js_set (i := 4) sc_ulaw.nd (jm_n (je_k (ix := [(0, 0), (0, 1), (0, 2), (0, 3), (0, 4), (0, 5)]) (ok_uNearby___init__ (base := base) c) c.mk_Nearby (by decide) hg hr (fun _ _ _ _ _ _ us ws h1 h2 => match us, h1, ws, h2 with | [_, _, _, _, _, _], _, [], _ => rfl) bhx (jc_10 (ja_cons (JO.je jo_dic0) (ja_cons je_str (ja_cons (je_tup (JAl.ja (ja_cons je_int (ja_cons je_int ja_nil')))) (ja_cons je_int (ja_cons (je_tup (JAl.ja (ja_cons je_str (ja_cons (je_tup (JAl.ja (ja_cons je_str (ja_cons je_str ja_nil')))) ja_nil')))) ja_nil')))))))))
    (jss_cons (js_if (jw_pt (jw_or (jt_cmp (op_neD (u64 hr)) sim_ne (je_m (ix := [(0, 0)]) (ok_uNearby_kept (base := base) c) (by decide) hg hr (fun _ _ _ _ _ _ us ws h1 h2 => match us, h1, ws, h2 with | [_], _, [], _ => rfl) bhx (je_var (i := 4)) jc_00) (je_tup (JAl.ja ja_nil'))) (jw_or (jt_cmp (op_neD (u64 hr)) sim_ne (je_m (ix := [(0, 0), (0, 1)]) (ok_uNearby_told (base := base) c) (by decide) hg hr (fun _ _ _ _ _ _ us ws h1 h2 => match us, h1, ws, h2 with | [_, _], _, [], _ => rfl) bhx (je_var (i := 4)) (jc_10 (ja_cons (je_tup (JAl.ja (ja_cons je_str (ja_cons (je_tup (JAl.ja (ja_cons je_int (ja_cons (je_tup (JAl.ja (ja_cons je_int (ja_cons je_int ja_nil')))) (ja_cons (je_tup (JAl.ja ja_nil')) ja_nil'))))) ja_nil')))) ja_nil'))) (je_tup (JAl.ja (ja_cons (je_tup (JAl.ja ja_nil')) (ja_cons (je_tup (JAl.ja (ja_cons (je_tup (JAl.ja (ja_cons je_int (ja_cons je_int ja_nil')))) ja_nil'))) ja_nil'))))) (jw_or1 (jt_cmp (op_neD (u64 hr)) sim_ne (je_m (ix := [(0, 0), (0, 1)]) (ok_uNearby_told (base := base) c) (by decide) hg hr (fun _ _ _ _ _ _ us ws h1 h2 => match us, h1, ws, h2 with | [_, _], _, [], _ => rfl) bhx (je_var (i := 4)) (jc_10 (ja_cons (je_tup (JAl.ja (ja_cons je_str (ja_cons (je_tup (JAl.ja (ja_cons je_int (ja_cons (je_tup (JAl.ja (ja_cons je_int (ja_cons je_int ja_nil')))) (ja_cons (je_tup (JAl.ja ja_nil')) ja_nil'))))) ja_nil')))) ja_nil'))) (je_tup (JAl.ja (ja_cons (je_tup (JAl.ja ja_nil')) (ja_cons (je_tup (JAl.ja ja_nil')) ja_nil')))))))))
    (jss_one (js_ret (jm_n je_bl)))
    jss_nil)
    (jss_cons (js_if (jw_pt (jw_or (jt_cmp (op_neD (u64 hr)) sim_ne (je_m (ix := [(0, 0), (0, 1)]) (ok_uNearby_told (base := base) c) (by decide) hg hr (fun _ _ _ _ _ _ us ws h1 h2 => match us, h1, ws, h2 with | [_, _], _, [], _ => rfl) bhx (je_var (i := 4)) (jc_10 (ja_cons (je_tup (JAl.ja (ja_cons je_str (ja_cons (je_tup (JAl.ja (ja_cons je_int (ja_cons (je_tup (JAl.ja (ja_cons je_int (ja_cons je_int ja_nil')))) (ja_cons (je_tup (JAl.ja (ja_cons (je_tup (JAl.ja (ja_cons je_str (ja_cons je_int ja_nil')))) ja_nil'))) ja_nil'))))) ja_nil')))) ja_nil'))) (je_tup (JAl.ja (ja_cons (je_tup (JAl.ja (ja_cons (je_tup (JAl.ja (ja_cons je_int (ja_cons je_int ja_nil')))) ja_nil'))) (ja_cons (je_tup (JAl.ja ja_nil')) ja_nil'))))) (jw_or1 (jt_cmp (op_neD (u64 hr)) sim_ne (je_m (ix := [(0, 0), (0, 1)]) (ok_uNearby_told (base := base) c) (by decide) hg hr (fun _ _ _ _ _ _ us ws h1 h2 => match us, h1, ws, h2 with | [_, _], _, [], _ => rfl) bhx (je_var (i := 4)) (jc_10 (ja_cons (je_tup (JAl.ja (ja_cons je_str (ja_cons je_int ja_nil')))) ja_nil'))) (je_tup (JAl.ja (ja_cons (je_tup (JAl.ja ja_nil')) (ja_cons (je_tup (JAl.ja ja_nil')) ja_nil'))))))))
    (jss_one (js_ret (jm_n je_bl)))
    jss_nil)
    (jss_one (js_ret (jm_n (je_and (je_cmp (op_eqD (u64 hr)) sim_eq (je_m (ix := [(0, 0), (0, 1)]) (ok_uNearby_told (base := base) c) (by decide) hg hr (fun _ _ _ _ _ _ us ws h1 h2 => match us, h1, ws, h2 with | [_, _], _, [], _ => rfl) bhx (je_var (i := 4)) (jc_10 (ja_cons (je_tup (JAl.ja (ja_cons je_str (ja_cons (je_tup (JAl.ja (ja_cons je_int (ja_cons (je_tup (JAl.ja (ja_cons je_int (ja_cons (je_op op_sub sim_sub je_int je_int) ja_nil')))) (ja_cons (je_tup (JAl.ja ja_nil')) ja_nil'))))) ja_nil')))) ja_nil'))) (je_tup (JAl.ja (ja_cons (je_tup (JAl.ja ja_nil')) (ja_cons (je_tup (JAl.ja (ja_cons (je_tup (JAl.ja (ja_cons je_int (ja_cons je_int ja_nil')))) ja_nil'))) ja_nil'))))) (je_one (je_cmp (op_eqD (u64 hr)) sim_eq (je_m (ix := [(0, 0), (0, 1)]) (ok_uNearby_told (base := base) c) (by decide) hg hr (fun _ _ _ _ _ _ us ws h1 h2 => match us, h1, ws, h2 with | [_, _], _, [], _ => rfl) bhx (je_var (i := 4)) (jc_10 (ja_cons (je_tup (JAl.ja (ja_cons je_str (ja_cons (je_tup (JAl.ja (ja_cons je_int (ja_cons (je_tup (JAl.ja (ja_cons je_int (ja_cons je_int ja_nil')))) (ja_cons (je_tup (JAl.ja ja_nil')) ja_nil'))))) ja_nil')))) ja_nil'))) (je_tup (JAl.ja (ja_cons (je_tup (JAl.ja (ja_cons (je_tup (JAl.ja (ja_cons je_int (ja_cons je_int ja_nil')))) ja_nil'))) (ja_cons (je_tup (JAl.ja (ja_cons (je_tup (JAl.ja (ja_cons je_int (ja_cons je_int ja_nil')))) ja_nil'))) ja_nil')))))))))))))))⟩
theorem ok_ulaw (c : Fx K mg) : CalG P w K mg base 15 "law" s_ulaw [] P_ulaw (FnSp ⟨P, w, K, mg⟩ m_ulaw) := cal_of c.d_ulaw c.g_ulaw sc_ulaw (bo_ulaw c)
end
end Fw

namespace Fw
open PySem PySem.Spec PyProof.Rows L2
/-! ### the head -/
def df_u_law_heap : He.DefD := ⟨("_law_heap", none), "_law_heap", "_law_heap", defArgs (top 23), defBody (top 23), defScope (top 23), [], []⟩
def df_ulabel_in : He.DefD := ⟨("label_in", none), "label_in", "label_in", defArgs (top 8), defBody (top 8), defScope (top 8), [], []⟩
def df_ulets_by : He.DefD := ⟨("lets_by", none), "lets_by", "lets_by", defArgs (top 10), defBody (top 10), defScope (top 10), [], []⟩
def df_upasses : He.DefD := ⟨("passes", none), "passes", "passes", defArgs (top 11), defBody (top 11), defScope (top 11), [], []⟩
def df_upassing_keys : He.DefD := ⟨("passing_keys", none), "passing_keys", "passing_keys", defArgs (top 15), defBody (top 15), defScope (top 15), [], []⟩
def df_ujoined_parts : He.DefD := ⟨("joined_parts", none), "joined_parts", "joined_parts", defArgs (top 4), defBody (top 4), defScope (top 4), [], []⟩
def df_upart_of : He.DefD := ⟨("part_of", none), "part_of", "part_of", defArgs (top 3), defBody (top 3), defScope (top 3), [], []⟩
def df_udifferences : He.DefD := ⟨("differences", none), "differences", "differences", defArgs (top 1), defBody (top 1), defScope (top 1), [], []⟩
def df_udistance : He.DefD := ⟨("distance", none), "distance", "distance", defArgs (top 5), defBody (top 5), defScope (top 5), [], []⟩
def df_upairs_from : He.DefD := ⟨("pairs_from", none), "pairs_from", "pairs_from", defArgs (top 16), defBody (top 16), defScope (top 16), [], []⟩
def df_uwithin : He.DefD := ⟨("within", none), "within", "within", defArgs (top 17), defBody (top 17), defScope (top 17), [], []⟩
def df_uNearby___init__ : He.DefD := ⟨("Nearby", some "__init__"), "__init__", "Nearby.__init__", defArgs (mth (top 21) 0), defBody (mth (top 21) 0), defScope (mth (top 21) 0), [], []⟩
def df_u_law_draw : He.DefD := ⟨("_law_draw", none), "_law_draw", "_law_draw", defArgs (top 24), defBody (top 24), defScope (top 24), [], []⟩
def df_u_law_pick : He.DefD := ⟨("_law_pick", none), "_law_pick", "_law_pick", defArgs (top 25), defBody (top 25), defScope (top 25), [], []⟩
def df_u_law_done : He.DefD := ⟨("_law_done", none), "_law_done", "_law_done", defArgs (top 35), defBody (top 35), defScope (top 35), [], []⟩
def df_u_law_vector : He.DefD := ⟨("_law_vector", none), "_law_vector", "_law_vector", defArgs (top 30), defBody (top 30), defScope (top 30), [], []⟩
def df_u_law_item : He.DefD := ⟨("_law_item", none), "_law_item", "_law_item", defArgs (top 31), defBody (top 31), defScope (top 31), [], []⟩
def df_u_law_start : He.DefD := ⟨("_law_start", none), "_law_start", "_law_start", defArgs (top 33), defBody (top 33), defScope (top 33), [], []⟩
def df_u_law_sieve : He.DefD := ⟨("_law_sieve", none), "_law_sieve", "_law_sieve", defArgs (top 29), defBody (top 29), defScope (top 29), [], []⟩
def df_u_law_question : He.DefD := ⟨("_law_question", none), "_law_question", "_law_question", defArgs (top 32), defBody (top 32), defScope (top 32), [], []⟩
def df_u_law_far : He.DefD := ⟨("_law_far", none), "_law_far", "_law_far", defArgs (top 26), defBody (top 26), defScope (top 26), [], []⟩
def df_u_law_passes : He.DefD := ⟨("_law_passes", none), "_law_passes", "_law_passes", defArgs (top 27), defBody (top 27), defScope (top 27), [], []⟩
def df_u_law_pairs : He.DefD := ⟨("_law_pairs", none), "_law_pairs", "_law_pairs", defArgs (top 28), defBody (top 28), defScope (top 28), [], []⟩
def df_u_law_due : He.DefD := ⟨("_law_due", none), "_law_due", "_law_due", defArgs (top 37), defBody (top 37), defScope (top 37), [], []⟩
def df_u_law_deed : He.DefD := ⟨("_law_deed", none), "_law_deed", "_law_deed", defArgs (top 34), defBody (top 34), defScope (top 34), [], []⟩
def df_unews_of : He.DefD := ⟨("news_of", none), "news_of", "news_of", defArgs (top 20), defBody (top 20), defScope (top 20), [], []⟩
def df_udeed_key : He.DefD := ⟨("deed_key", none), "deed_key", "deed_key", defArgs (top 13), defBody (top 13), defScope (top 13), [], []⟩
def df_uis_within : He.DefD := ⟨("is_within", none), "is_within", "is_within", defArgs (top 6), defBody (top 6), defScope (top 6), [], []⟩
def df_uput_pair : He.DefD := ⟨("put_pair", none), "put_pair", "put_pair", defArgs (top 19), defBody (top 19), defScope (top 19), [], []⟩
def df_uNearby_told : He.DefD := ⟨("Nearby", some "told"), "told", "Nearby.told", defArgs (mth (top 21) 2), defBody (mth (top 21) 2), defScope (mth (top 21) 2), [], []⟩
def df_u_law_news : He.DefD := ⟨("_law_news", none), "_law_news", "_law_news", defArgs (top 36), defBody (top 36), defScope (top 36), [], []⟩
def df_uNearby_kept : He.DefD := ⟨("Nearby", some "kept"), "kept", "Nearby.kept", defArgs (mth (top 21) 1), defBody (mth (top 21) 1), defScope (mth (top 21) 1), [], []⟩
def df_u_law_run : He.DefD := ⟨("_law_run", none), "_law_run", "_law_run", defArgs (top 38), defBody (top 38), defScope (top 38), [], []⟩
def df_ulaw : He.DefD := ⟨("law", none), "law", "law", defArgs (top 39), defBody (top 39), defScope (top 39), [], []⟩
def hfn : List He.DefD := [df_u_law_heap, df_ulabel_in, df_ulets_by, df_upasses, df_upassing_keys, df_ujoined_parts, df_upart_of, df_udifferences, df_udistance, df_upairs_from, df_uwithin, df_uNearby___init__, df_u_law_draw, df_u_law_pick, df_u_law_done, df_u_law_vector, df_u_law_item, df_u_law_start, df_u_law_sieve, df_u_law_question, df_u_law_far, df_u_law_passes, df_u_law_pairs, df_u_law_due, df_u_law_deed, df_unews_of, df_udeed_key, df_uis_within, df_uput_pair, df_uNearby_told, df_u_law_news, df_uNearby_kept, df_u_law_run, df_ulaw]
def hfa : List He.Fa := [.glo "_law_heap", .glo "label_in", .glo "lets_by", .glo "passes", .glo "passing_keys", .glo "joined_parts", .glo "part_of", .glo "differences", .glo "distance", .glo "pairs_from", .glo "within", .glo "_law_draw", .glo "_law_pick", .glo "_law_done", .glo "_law_vector", .glo "_law_item", .glo "_law_start", .glo "_law_sieve", .glo "_law_question", .glo "_law_far", .glo "_law_passes", .glo "_law_pairs", .glo "_law_due", .glo "_law_deed", .glo "news_of", .glo "deed_key", .glo "is_within", .glo "put_pair", .glo "_law_news", .glo "_law_run", .glo "law", .glo "Nearby", .cls "Nearby", .noat "Nearby" "all_pairs", .noat "Nearby" "kind", .noat "Nearby" "reach", .noat "Nearby" "sieve", .noat "Nearby" "vector", .meth "Nearby" "__init__", .meth "Nearby" "told", .meth "Nearby" "kept", .mkr "Nearby", .free "abs", .free "all", .free "any", .free "int", .free "len", .free "list", .free "max", .free "range", .free "repr", .free "sorted", .free "sum", .free "tuple", .free "zip"]
theorem facts {K : PySem.W.Frag} {h : Heap} {mg : Str → Option Value} (X : K.In h) (G : h.Ns mainGlobals mg) (c : He.SaysD hfa hfn K) : Fx K mg := ⟨c.def_ 0 (d := df_u_law_heap) rfl, c.def_ 1 (d := df_ulabel_in) rfl, c.def_ 2 (d := df_ulets_by) rfl, c.def_ 3 (d := df_upasses) rfl, c.def_ 4 (d := df_upassing_keys) rfl, c.def_ 5 (d := df_ujoined_parts) rfl, c.def_ 6 (d := df_upart_of) rfl, c.def_ 7 (d := df_udifferences) rfl, c.def_ 8 (d := df_udistance) rfl, c.def_ 9 (d := df_upairs_from) rfl, c.def_ 10 (d := df_uwithin) rfl, c.def_ 11 (d := df_uNearby___init__) rfl, c.def_ 12 (d := df_u_law_draw) rfl, c.def_ 13 (d := df_u_law_pick) rfl, c.def_ 14 (d := df_u_law_done) rfl, c.def_ 15 (d := df_u_law_vector) rfl, c.def_ 16 (d := df_u_law_item) rfl, c.def_ 17 (d := df_u_law_start) rfl, c.def_ 18 (d := df_u_law_sieve) rfl, c.def_ 19 (d := df_u_law_question) rfl, c.def_ 20 (d := df_u_law_far) rfl, c.def_ 21 (d := df_u_law_passes) rfl, c.def_ 22 (d := df_u_law_pairs) rfl, c.def_ 23 (d := df_u_law_due) rfl, c.def_ 24 (d := df_u_law_deed) rfl, c.def_ 25 (d := df_unews_of) rfl, c.def_ 26 (d := df_udeed_key) rfl, c.def_ 27 (d := df_uis_within) rfl, c.def_ 28 (d := df_uput_pair) rfl, c.def_ 29 (d := df_uNearby_told) rfl, c.def_ 30 (d := df_u_law_news) rfl, c.def_ 31 (d := df_uNearby_kept) rfl, c.def_ 32 (d := df_u_law_run) rfl, c.def_ 33 (d := df_ulaw) rfl, He.glo_ok X G (c.fact 0 rfl), He.glo_ok X G (c.fact 1 rfl), He.glo_ok X G (c.fact 2 rfl), He.glo_ok X G (c.fact 3 rfl), He.glo_ok X G (c.fact 4 rfl), He.glo_ok X G (c.fact 5 rfl), He.glo_ok X G (c.fact 6 rfl), He.glo_ok X G (c.fact 7 rfl), He.glo_ok X G (c.fact 8 rfl), He.glo_ok X G (c.fact 9 rfl), He.glo_ok X G (c.fact 10 rfl), He.glo_ok X G (c.fact 11 rfl), He.glo_ok X G (c.fact 12 rfl), He.glo_ok X G (c.fact 13 rfl), He.glo_ok X G (c.fact 14 rfl), He.glo_ok X G (c.fact 15 rfl), He.glo_ok X G (c.fact 16 rfl), He.glo_ok X G (c.fact 17 rfl), He.glo_ok X G (c.fact 18 rfl), He.glo_ok X G (c.fact 19 rfl), He.glo_ok X G (c.fact 20 rfl), He.glo_ok X G (c.fact 21 rfl), He.glo_ok X G (c.fact 22 rfl), He.glo_ok X G (c.fact 23 rfl), He.glo_ok X G (c.fact 24 rfl), He.glo_ok X G (c.fact 25 rfl), He.glo_ok X G (c.fact 26 rfl), He.glo_ok X G (c.fact 27 rfl), He.glo_ok X G (c.fact 28 rfl), He.glo_ok X G (c.fact 29 rfl), He.glo_ok X G (c.fact 30 rfl), He.glo_ok X G (c.fact 31 rfl), He.cls_ok (c.fact 32 rfl), He.noat_ok (c.fact 33 rfl), He.noat_ok (c.fact 34 rfl), He.noat_ok (c.fact 35 rfl), He.noat_ok (c.fact 36 rfl), He.noat_ok (c.fact 37 rfl), He.meth_ok (c.fact 38 rfl), He.meth_ok (c.fact 39 rfl), He.meth_ok (c.fact 40 rfl), He.mkr_ok (c.fact 41 rfl), He.free_ok X G (c.fact 42 rfl), He.free_ok X G (c.fact 43 rfl), He.free_ok X G (c.fact 44 rfl), He.free_ok X G (c.fact 45 rfl), He.free_ok X G (c.fact 46 rfl), He.free_ok X G (c.fact 47 rfl), He.free_ok X G (c.fact 48 rfl), He.free_ok X G (c.fact 49 rfl), He.free_ok X G (c.fact 50 rfl), He.free_ok X G (c.fact 51 rfl), He.free_ok X G (c.fact 52 rfl), He.free_ok X G (c.fact 53 rfl), He.free_ok X G (c.fact 54 rfl)⟩
abbrev Rw : PySem.W.OpenRow := PySem.W.OpenLaw.row PySem.Challenge.rw_nonearer_k77_whole_everything_near
abbrev hk : PySem.W.Hook := He.hookD 6 hfa hfn
def hob (s : PySem.W.SharedT) : He.AlD := He.obsDG 6 hfa hfn (HandSHeadRun.getT s)
theorem hob_eq (s : PySem.W.SharedT) : hob s = hk.obs s.abs := He.obsDG_eq (HandSHeadRun.getT_eq s)
def loose : List Str := ["__name__", "differences", "part_of", "joined_parts", "distance", "is_within", "label_in", "lets_by", "passes", "deed_key", "passing_keys", "pairs_from", "within", "put_pair", "news_of", "Nearby", "_law_heap", "_law_draw", "_law_pick", "_law_far", "_law_passes", "_law_pairs", "_law_sieve", "_law_vector", "_law_item", "_law_question", "_law_start", "_law_deed", "_law_done", "_law_news", "_law_due", "_law_run"]
theorem hrun (w : World) : HandSHeadRun.RunEq Rw (PySem.W.view Rw.prog [39]) hk hob 4000 loose w := by
  intro os
  kernel_rfl
theorem hlaw (w : World) (mg : Str → Option Value) (fa : Addr) (h : Heap) (Y : hk.says w h) (G : h.Ns mainGlobals mg) (hf : mg ("law" : Str) = some (.ref fa)) : ∃ (K : PySem.W.Frag) (fd : FuncData), K.In h ∧ (∀ (s : Shared) (u : Value), BindsTo s fd ⟨[u], []⟩ [("_law_script", u)]) ∧
    ∀ base : Heap, K.In base → base.Ns mainGlobals mg → FnG (PySem.Challenge.rw_nonearer_k77_whole_everything_near).prog w K mg base 15 fa fd ["_law_script"] (FnSp ⟨(PySem.Challenge.rw_nonearer_k77_whole_everything_near).prog, w, K, mg⟩ m_ulaw) := by
  obtain ⟨K, KX, c⟩ := Y
  have F := facts KX G c
  have e := hf.symm.trans F.g_ulaw
  cases e
  obtain ⟨fd, D⟩ := F.d_ulaw
  have b := FunD.bindsA (ps := ["_law_script"]) D fun _ _ _ _ _ _ us hl => match us, hl with | [_], _ => rfl
  exact ⟨K, fd, KX, fun s v => b s [v] rfl, fun base _ _ => fn_body D sc_ulaw (bo_ulaw F)⟩
end Fw
open PySem PySem.W PySem.Calls PyProof.Rows
section
open Fw
theorem PySem.Challenge.cw_nonearer_k77_whole_everything_near_holds : PySem.Challenge.rw_nonearer_k77_whole_everything_near.Holds := by
  w_on; o_law
  refine HandSHeadRun.head_any (r := Rw) (q := view Rw.prog [39]) (H := hk) (ob := hob) (M := 4000) (loose := loose) (d := HandSHeadRun.topDef Rw.prog 39) (kwd := []) hob_eq
    (by kernel_rfl) (fun s => by kernel_rfl) hrun (by kernel_rfl) (by kernel_rfl) (by kernel_rfl) (by rfl) (by first | assumption | decide +kernel) (by decide +kernel) ⟨rfl, rfl, rfl, rfl, rfl, by decide +kernel⟩ ?hw ?hc
  case hw => w_witness2
  case hc =>
    refine walk_ofG (l := PySem.Challenge.rw_nonearer_k77_whole_everything_near) (n := 63) (k := 15) (x := "_law_script") rfl (by decide) (by kernel_rfl) ⟨rfl, by decide, by decide⟩ (fun w mg fa h Y G hf => hlaw w mg fa h Y G ?_) main_holds
    have e : (HandSHeadRun.topDef Rw.prog 39).name = ("law" : PySem.Str) := by kernel_rfl
    rw [← e]
    exact hf
end
