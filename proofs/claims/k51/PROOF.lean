import PyProof.Rows.All
import Wide.All
import OpenK.AllK
import Wide.FinOn
import PyProof.EqAt
import PyProof.EqKinds
import PyProof.TupleCall
import HandS.ForMost
import HandS.Walk
import HandS.Slots
import HandS.SlotsOwn
import HandS.Star
import HandS.Zip
import HandS.IsInst
import HandS.Flow
import HandS.Style
import HandS.Conv
import HandS.Wide
import HandS.Defaults
import HandS.TupAny
import HandS.Codes
import HandS.TryOnly
import HandS.More
import HandS.Strs
import HandS.ListItems
import KE.KDictZip
import KE.GoesEnum
import KE.KeyNested
import KE.KDictKeyed
import HandS.TupLen
import HandS.SortRule
import HandS.SortInts
import HandS.TupSets
import HandS.Deep
import HandS.WideBits
import KE.KStateDown
import HandS.Ends
import HandS.Head0
import HandS.Head1
import HandS.Head2
import HandS.HeadEnd
import HandS.HeadHook1
import HandS.HeadHook2
import HandS.Text
import HandS.Words
import PySem.Challenge.RW_looksonlythere_k51_whole_numbers_of_plan
set_option Elab.async false
set_option linter.all false
set_option maxRecDepth 100000
set_option maxHeartbeats 2000000
/-! D layer, part A: deep values, the memory of mutable cells, states, steps. -/
namespace DL
open PySem PySem.Spec PyProof.Rows L2 SlX

/-- a deep value: a scalar or a bare reference; frozen tuples, lists, dicts with int and text keys, slotted instances (class number, fields); a field that is not set; anything else by what is true of its object -/
inductive Dat where
  | v (x : V)
  | tup (ds : List Dat)
  | lst (ds : List Dat)
  | dic (ks : List Key) (ds : List Dat)
  | obj (c : Nat) (ds : List Dat)
  | unset
  | ext (φ : Hp → Addr → HO → Prop)

abbrev Env := List (Option Dat)
abbrev Mem := Addr → Option Dat
def Mem.put (M : Mem) (a : Addr) (c : Dat) : Mem := fun b => if b = a then some c else M b
def Mem.del (M : Mem) (a : Addr) : Mem := fun b => if b = a then none else M b
def Mem.le (M2 M : Mem) : Prop := ∀ a c, M2 a = some c → M a = some c
theorem put_same {M : Mem} {a : Addr} {c : Dat} : M.put a c a = some c := if_pos rfl
theorem put_ne {M : Mem} {a b : Addr} {c : Dat} (h : b ≠ a) : M.put a c b = M b := if_neg h
theorem del_same {M : Mem} {a : Addr} : M.del a a = none := if_pos rfl
theorem del_ne {M : Mem} {a b : Addr} (h : b ≠ a) : M.del a b = M b := if_neg h
theorem put_put {M : Mem} {a : Addr} {c d : Dat} : (M.put a c).put a d = M.put a d := by
  funext b; unfold Mem.put; split <;> rfl
theorem del_put {M : Mem} {a : Addr} {c : Dat} (h : M a = none) : (M.put a c).del a = M := by
  funext b; unfold Mem.put Mem.del; split
  · rename_i e; rw [e, h]
  · rename_i e; exact if_neg e
theorem put_comm {M : Mem} {a b : Addr} {c d : Dat} (h : a ≠ b) : (M.put a c).put b d = (M.put b d).put a c := by
  funext x; unfold Mem.put
  by_cases h1 : x = b
  · rw [if_pos h1, if_neg (fun e => h (e.symm.trans h1)), if_pos h1]
  · rw [if_neg h1]
    by_cases h2 : x = a
    · rw [if_pos h2, if_pos h2]
    · rw [if_neg h2, if_neg h2, if_neg h1]
theorem put_id {M : Mem} {a : Addr} {c : Dat} (h : M a = some c) : M.put a c = M := by
  funext b; unfold Mem.put; split
  · rename_i e; rw [e, h]
  · rfl
theorem mem_ne {M : Mem} {a b : Addr} {c : Dat} (h : M a = some c) (h' : M b = none) : a ≠ b := fun e => by rw [e, h'] at h; cases h
theorem Mem.le_refl (M : Mem) : M.le M := fun _ _ h => h
theorem Mem.le_trans {A B C : Mem} (h : A.le B) (k : B.le C) : A.le C := fun a c e => k a c (h a c e)
theorem Mem.le_put {M : Mem} {a : Addr} {c : Dat} (h : M a = none) : M.le (M.put a c) := fun b d e => by
  rw [put_ne (mem_ne e h)]; exact e
theorem Mem.del_le {M : Mem} {a : Addr} : (M.del a).le M := fun b d e => by
  unfold Mem.del at e; split at e
  · cases e
  · exact e
theorem Mem.put_mono {M N : Mem} {a : Addr} {c : Dat} (h : M.le N) : (M.put a c).le (N.put a c) := fun b d e => by
  unfold Mem.put at e ⊢; split at e
  · rename_i q; rw [if_pos q]; exact e
  · rename_i q; rw [if_neg q]; exact h b d e

def Exh (H H' : Hp) : Prop := ∀ a o, H a = some o → H' a = some o
theorem Exh.refl (H : Hp) : Exh H H := fun _ _ h => h
theorem Exh.trans {H H1 H2 : Hp} (a : Exh H H1) (b : Exh H1 H2) : Exh H H2 := fun x o h => b x o (a x o h)
theorem Exh.new {H : Hp} {p : Addr} {o : HO} (h : H p = none) : Exh H (upd H p o) := fun a u e => by
  rw [upd_ne (ne_of_none e h)]; exact e
theorem Exh.gone {G H : Hp} (e : Exh G H) {p : Addr} (h : H p = Option.none) : G p = Option.none := by
  cases q : G p with
  | none => rfl
  | some o => rw [e p o q] at h; cases h

section
variable (cl : Nat → Addr)
mutual
/-- in the frozen heap G the value x bears d -/
def Den (G : Hp) : Dat → V → Prop
  | .v y, x => x = y
  | .tup ds, x => ∃ p xs, x = .ref p ∧ G p = some (.tup xs) ∧ DenL G ds xs
  | .lst ds, x => ∃ p xs, x = .ref p ∧ G p = some (.lst xs) ∧ DenL G ds xs
  | .dic ks ds, x => ∃ p ws, x = .ref p ∧ G p = some (.dK ws) ∧ ws.map (·.1) = ks ∧ DenL G ds (ws.map (·.2))
  | .obj c ds, x => ∃ a dx vs, x = .ref a ∧ G a = some (SlO a (cl c) dx vs) ∧ G dx = some (.xd []) ∧ DenF G ds vs
  | .unset, _ => False
  | .ext φ, x => ∃ a o G0, x = .ref a ∧ Exh G0 G ∧ G a = some o ∧ φ G0 a o
def DenL (G : Hp) : List Dat → List V → Prop
  | [], xs => xs = []
  | d :: ds, xs => ∃ y ys, xs = y :: ys ∧ Den G d y ∧ DenL G ds ys
def DenF (G : Hp) : List Dat → List (Option V) → Prop
  | [], _ => True
  | d :: ds, vs => (d = .unset ∨ ∃ y, vs.head? = some (some y) ∧ Den G d y) ∧ DenF G ds vs.tail
end
end

section
variable {cl : Nat → Addr} {G G' H H' : Hp}
mutual
theorem Den.mono (e : Exh G G') : ∀ {d : Dat} {x : V}, Den cl G d x → Den cl G' d x
  | .v _, _, h => by unfold Den at h ⊢; exact h
  | .tup ds, _, h => by
    unfold Den at h ⊢
    obtain ⟨p, xs, h1, h2, h3⟩ := h
    exact ⟨p, xs, h1, e _ _ h2, DenL.mono e h3⟩
  | .lst ds, _, h => by
    unfold Den at h ⊢
    obtain ⟨p, xs, h1, h2, h3⟩ := h
    exact ⟨p, xs, h1, e _ _ h2, DenL.mono e h3⟩
  | .dic ks ds, _, h => by
    unfold Den at h ⊢
    obtain ⟨p, xs, h1, h2, h4, h3⟩ := h
    exact ⟨p, xs, h1, e _ _ h2, h4, DenL.mono e h3⟩
  | .obj c ds, _, h => by
    unfold Den at h ⊢
    obtain ⟨a, dx, vs, h1, h2, h4, h3⟩ := h
    exact ⟨a, dx, vs, h1, e _ _ h2, e _ _ h4, DenF.mono e h3⟩
  | .unset, _, h => by unfold Den at h; exact h.elim
  | .ext φ, _, h => by
    unfold Den at h ⊢
    obtain ⟨a, o, G0, h1, h2, h3, h4⟩ := h
    exact ⟨a, o, G0, h1, h2.trans e, e _ _ h3, h4⟩
theorem DenL.mono (e : Exh G G') : ∀ {ds : List Dat} {xs : List V}, DenL cl G ds xs → DenL cl G' ds xs
  | [], _, h => by unfold DenL at h ⊢; exact h
  | d :: ds, _, h => by
    unfold DenL at h ⊢
    obtain ⟨y, ys, h1, h2, h3⟩ := h
    exact ⟨y, ys, h1, Den.mono e h2, DenL.mono e h3⟩
theorem DenF.mono (e : Exh G G') : ∀ {ds : List Dat} {xs : List (Option V)}, DenF cl G ds xs → DenF cl G' ds xs
  | [], _, h => by unfold DenF at h ⊢; exact h
  | d :: ds, _, h => by
    unfold DenF at h ⊢
    obtain ⟨h1, h3⟩ := h
    refine ⟨?_, DenF.mono e h3⟩
    rcases h1 with h1 | ⟨y, h1, h2⟩
    · exact .inl h1
    · exact .inr ⟨y, h1, Den.mono e h2⟩
end
theorem den_v {y x : V} : Den cl G (.v y) x ↔ x = y := by unfold Den; exact Iff.rfl
theorem den_tup {ds : List Dat} {x : V} : Den cl G (.tup ds) x ↔ ∃ p xs, x = .ref p ∧ G p = some (.tup xs) ∧ DenL cl G ds xs := by
  constructor <;> intro h
  · unfold Den at h; exact h
  · unfold Den; exact h
theorem den_lst {ds : List Dat} {x : V} : Den cl G (.lst ds) x ↔ ∃ p xs, x = .ref p ∧ G p = some (.lst xs) ∧ DenL cl G ds xs := by
  constructor <;> intro h
  · unfold Den at h; exact h
  · unfold Den; exact h
theorem den_dic {ks : List Key} {ds : List Dat} {x : V} : Den cl G (.dic ks ds) x ↔ ∃ p ws, x = .ref p ∧ G p = some (.dK ws) ∧ ws.map (·.1) = ks ∧ DenL cl G ds (ws.map (·.2)) := by
  constructor <;> intro h
  · unfold Den at h; exact h
  · unfold Den; exact h
theorem den_obj {c : Nat} {ds : List Dat} {x : V} : Den cl G (.obj c ds) x ↔ ∃ a dx vs, x = .ref a ∧ G a = some (SlO a (cl c) dx vs) ∧ G dx = some (.xd []) ∧ DenF cl G ds vs := by
  constructor <;> intro h
  · unfold Den at h; exact h
  · unfold Den; exact h
theorem den_ext {φ : Hp → Addr → HO → Prop} {x : V} : Den cl G (.ext φ) x ↔ ∃ a o G0, x = .ref a ∧ Exh G0 G ∧ G a = some o ∧ φ G0 a o := by
  constructor <;> intro h
  · unfold Den at h; exact h
  · unfold Den; exact h
theorem den_unset {x : V} : ¬ Den cl G .unset x := fun h => by unfold Den at h; exact h
theorem denL_nil {xs : List V} : DenL cl G [] xs ↔ xs = [] := by unfold DenL; exact Iff.rfl
theorem denL_cons {d : Dat} {ds : List Dat} {xs : List V} : DenL cl G (d :: ds) xs ↔ ∃ y ys, xs = y :: ys ∧ Den cl G d y ∧ DenL cl G ds ys := by
  constructor <;> intro h
  · unfold DenL at h; exact h
  · unfold DenL; exact h
theorem denF_nil {xs : List (Option V)} : DenF cl G [] xs := by unfold DenF; trivial
theorem denF_cons {d : Dat} {ds : List Dat} {vs : List (Option V)} : DenF cl G (d :: ds) vs ↔ (d = .unset ∨ ∃ y, vs.head? = some (some y) ∧ Den cl G d y) ∧ DenF cl G ds vs.tail := by
  constructor <;> intro h
  · unfold DenF at h; exact h
  · unfold DenF; exact h
theorem DenL.length : ∀ {ds : List Dat} {xs : List V}, DenL cl G ds xs → xs.length = ds.length
  | [], _, h => by rw [denL_nil.mp h]; rfl
  | d :: ds, _, h => by
    obtain ⟨y, ys, rfl, _, h3⟩ := denL_cons.mp h
    simp [DenL.length h3]
theorem DenL.get : ∀ {ds : List Dat} {xs : List V} {i : Nat} {d : Dat}, DenL cl G ds xs → ds[i]? = some d → ∃ x, xs[i]? = some x ∧ Den cl G d x
  | [], _, _, _, _, e => by simp at e
  | d :: ds, _, 0, _, h, e => by
    obtain ⟨y, ys, rfl, h2, _⟩ := denL_cons.mp h
    simp at e; subst e
    exact ⟨y, rfl, h2⟩
  | d :: ds, _, i + 1, _, h, e => by
    obtain ⟨y, ys, rfl, _, h3⟩ := denL_cons.mp h
    exact DenL.get (i := i) h3 (by simpa using e)
theorem DenL.back : ∀ {ds : List Dat} {xs : List V} {i : Nat} {x : V}, DenL cl G ds xs → xs[i]? = some x → ∃ d, ds[i]? = some d ∧ Den cl G d x
  | [], _, _, _, h, e => by rw [denL_nil.mp h] at e; simp at e
  | d :: ds, _, 0, _, h, e => by
    obtain ⟨y, ys, rfl, h2, _⟩ := denL_cons.mp h
    simp at e; subst e
    exact ⟨d, rfl, h2⟩
  | d :: ds, _, i + 1, _, h, e => by
    obtain ⟨y, ys, rfl, _, h3⟩ := denL_cons.mp h
    exact DenL.back (i := i) h3 (by simpa using e)
theorem DenL.append : ∀ {ds es : List Dat} {xs ys : List V}, DenL cl G ds xs → DenL cl G es ys → DenL cl G (ds ++ es) (xs ++ ys)
  | [], _, _, _, h, k => by rw [denL_nil.mp h]; exact k
  | d :: ds, _, _, _, h, k => by
    obtain ⟨y, ys, rfl, h2, h3⟩ := denL_cons.mp h
    exact denL_cons.mpr ⟨y, _, rfl, h2, DenL.append h3 k⟩
theorem DenL.one {d : Dat} {x : V} (h : Den cl G d x) : DenL cl G [d] [x] := denL_cons.mpr ⟨x, [], rfl, h, denL_nil.mpr rfl⟩
theorem DenL.take : ∀ (n : Nat) {ds : List Dat} {xs : List V}, DenL cl G ds xs → DenL cl G (ds.take n) (xs.take n)
  | 0, _, _, _ => denL_nil.mpr rfl
  | _ + 1, [], _, h => by rw [denL_nil.mp h]; exact denL_nil.mpr rfl
  | n + 1, d :: ds, _, h => by
    obtain ⟨y, ys, rfl, h2, h3⟩ := denL_cons.mp h
    exact denL_cons.mpr ⟨y, _, rfl, h2, DenL.take n h3⟩
theorem DenL.drop : ∀ (n : Nat) {ds : List Dat} {xs : List V}, DenL cl G ds xs → DenL cl G (ds.drop n) (xs.drop n)
  | 0, _, _, h => h
  | _ + 1, [], _, h => by rw [denL_nil.mp h]; exact denL_nil.mpr rfl
  | n + 1, d :: ds, _, h => by
    obtain ⟨y, ys, rfl, h2, h3⟩ := denL_cons.mp h
    exact DenL.drop n h3
theorem DenL.set : ∀ (i : Nat) {ds : List Dat} {xs : List V} {d : Dat} {x : V}, DenL cl G ds xs → Den cl G d x → DenL cl G (ds.set i d) (xs.set i x)
  | _, [], _, _, _, h, _ => by rw [denL_nil.mp h]; exact denL_nil.mpr rfl
  | 0, d :: ds, _, _, _, h, k => by
    obtain ⟨y, ys, rfl, h2, h3⟩ := denL_cons.mp h
    exact denL_cons.mpr ⟨_, _, rfl, k, h3⟩
  | n + 1, d :: ds, _, _, _, h, k => by
    obtain ⟨y, ys, rfl, h2, h3⟩ := denL_cons.mp h
    exact denL_cons.mpr ⟨y, _, rfl, h2, DenL.set n h3 k⟩
theorem DenL.eraseIdx : ∀ (i : Nat) {ds : List Dat} {xs : List V}, DenL cl G ds xs → DenL cl G (ds.eraseIdx i) (xs.eraseIdx i)
  | _, [], _, h => by rw [denL_nil.mp h]; exact denL_nil.mpr rfl
  | 0, d :: ds, _, h => by
    obtain ⟨y, ys, rfl, h2, h3⟩ := denL_cons.mp h
    exact h3
  | n + 1, d :: ds, _, h => by
    obtain ⟨y, ys, rfl, h2, h3⟩ := denL_cons.mp h
    exact denL_cons.mpr ⟨y, _, rfl, h2, DenL.eraseIdx n h3⟩
theorem DenL.reverse : ∀ {ds : List Dat} {xs : List V}, DenL cl G ds xs → DenL cl G ds.reverse xs.reverse
  | [], _, h => by rw [denL_nil.mp h]; exact denL_nil.mpr rfl
  | d :: ds, _, h => by
    obtain ⟨y, ys, rfl, h2, h3⟩ := denL_cons.mp h
    rw [List.reverse_cons, List.reverse_cons]
    exact (DenL.reverse h3).append (.one h2)
theorem DenL.vs : ∀ (xs : List V), DenL cl G (xs.map Dat.v) xs
  | [] => denL_nil.mpr rfl
  | x :: xs => denL_cons.mpr ⟨x, xs, rfl, den_v.mpr rfl, DenL.vs xs⟩
theorem DenL.of_vs : ∀ {ys xs : List V}, DenL cl G (ys.map Dat.v) xs → xs = ys
  | [], _, h => denL_nil.mp h
  | y :: ys, _, h => by
    obtain ⟨z, zs, rfl, h2, h3⟩ := denL_cons.mp h
    rw [den_v.mp h2, DenL.of_vs h3]
theorem DenF.get : ∀ {ds : List Dat} {vs : List (Option V)} {i : Nat} {d : Dat}, DenF cl G ds vs → ds[i]? = some d → d ≠ .unset → ∃ x, vs[i]? = some (some x) ∧ Den cl G d x
  | [], _, _, _, _, e, _ => by simp at e
  | d :: ds, vs, 0, _, h, e, n => by
    obtain ⟨h1, _⟩ := denF_cons.mp h
    simp at e; subst e
    rcases h1 with h1 | ⟨y, h1, h2⟩
    · exact (n h1).elim
    · refine ⟨y, ?_, h2⟩
      cases vs with
      | nil => simp at h1
      | cons a l => simpa using h1
  | d :: ds, vs, i + 1, _, h, e, n => by
    obtain ⟨_, h3⟩ := denF_cons.mp h
    obtain ⟨x, hx, k⟩ := DenF.get (i := i) h3 (by simpa using e) n
    refine ⟨x, ?_, k⟩
    cases vs with
    | nil => simp at hx
    | cons a l => simpa using hx
theorem DenF.unsets : ∀ (n : Nat) (vs : List (Option V)), DenF cl G (List.replicate n .unset) vs
  | 0, _ => denF_nil
  | n + 1, vs => denF_cons.mpr ⟨.inl rfl, DenF.unsets n _⟩
theorem DenF.of : ∀ {ds : List Dat} {vs : List (Option V)}, (∀ (i : Nat) (d : Dat), ds[i]? = some d → d = .unset ∨ ∃ y, vs[i]? = some (some y) ∧ Den cl G d y) → DenF cl G ds vs
  | [], _, _ => denF_nil
  | d :: ds, vs, h => by
    refine denF_cons.mpr ⟨?_, DenF.of fun i e he => ?_⟩
    · rcases h 0 d rfl with k | ⟨y, k, l⟩
      · exact .inl k
      · refine .inr ⟨y, ?_, l⟩
        cases vs with
        | nil => simp at k
        | cons a l => simpa using k
    · rcases h (i + 1) e (by simpa using he) with k | ⟨y, k, l⟩
      · exact .inl k
      · refine .inr ⟨y, ?_, l⟩
        cases vs with
        | nil => simp at k
        | cons a l => simpa using k
theorem DenF.put {ds : List Dat} {vs : List (Option V)} {i : Nat} {d : Dat} {x : V} (h : DenF cl G ds vs) (k : Den cl G d x) : DenF cl G (ds.set i d) (putS i x vs) := by
  refine DenF.of fun j e he => ?_
  by_cases hj : j = i
  · subst hj
    by_cases hl : j < ds.length
    · rw [List.getElem?_set_self hl] at he
      cases he
      exact .inr ⟨x, putS_get _ _ _, k⟩
    · rw [List.getElem?_eq_none (by simp; omega)] at he
      cases he
  · rw [List.getElem?_set_ne (Ne.symm hj)] at he
    by_cases hu : e = .unset
    · exact .inl hu
    · obtain ⟨y, hy, l⟩ := h.get he hu
      exact .inr ⟨y, (putS_ne hj).mpr hy, l⟩
end

/-! ### cells, states, steps -/
def MutO : HO → Bool
  | .lst _ => true
  | .dK _ => true
  | .dT _ => true
  | .set _ _ => true
  | .ins _ _ _ => true
  | .ext _ => true
  | _ => false
def Solid (o : HO) : Prop := (∀ y, o ≠ .own y) ∧ ∀ fs, o ≠ .xd fs
theorem MutO.solid {o : HO} (h : MutO o = true) : Solid o := by
  refine ⟨fun y z => ?_, fun y z => ?_⟩ <;> (subst z; cases h)
theorem MutO.own {y : Addr} : MutO (.own y) = false := rfl
theorem MutO.xd {fs : List (Str × V)} : MutO (.xd fs) = false := rfl
theorem MutO.slo {a C dx : Addr} {vs : List (Option V)} : MutO (SlO a C dx vs) = true := rfl
section
variable (cl : Nat → Addr)
/-- the mutable cell at a holds c -/
def Cell (G H : Hp) (a : Addr) : Dat → Prop
  | .lst ds => ∃ xs, H a = some (.lst xs) ∧ DenL cl G ds xs
  | .dic ks ds => ∃ ws, H a = some (.dK ws) ∧ ws.map (·.1) = ks ∧ DenL cl G ds (ws.map (·.2))
  | .obj c ds => ∃ dx vs, dx ≠ a ∧ ((H a = some (.ins (cl c) dx []) ∧ vs = [] ∧ H dx = some (.own a) ∧ G dx = none) ∨ (H a = some (SlO a (cl c) dx vs) ∧ H dx = some (.xd []))) ∧ DenF cl G ds vs
  | .ext φ => ∃ o G0, H a = some o ∧ MutO o = true ∧ Exh G0 G ∧ φ G0 a o
  | _ => False
structure StOk (G H : Hp) (ρ : Env) (M : Mem) (σ : L2.St) : Prop where
  ex : Exh G H
  mem : ∀ a c, M a = some c → G a = none ∧ Cell cl G H a c
  len : ρ.length = σ.length
  env : ∀ (i : Nat) d, ρ[i]? = some (some d) → ∃ x, σ[i]? = some (some x) ∧ Den cl G d x
end
structure Step (G H : Hp) (M : Mem) (G' H' : Hp) (M' : Mem) : Prop where
  ex : Exh G G'
  keep : ∀ b o, H b = some o → Solid o → M b = none → H' b = some o
  dom : ∀ b, H b ≠ none → H' b ≠ none
  fresh : ∀ b, M' b ≠ none → M b ≠ none ∨ H b = none
  gnew : ∀ b, G' b ≠ none → G b ≠ none ∨ H b = none ∨ M b ≠ none ∨ ∃ o, H b = some o ∧ ¬ Solid o
section
variable {cl : Nat → Addr} {G G' H H' G1 H1 G2 H2 : Hp} {M M' M1 M2 : Mem} {ρ ρ' : Env} {σ σ' : L2.St} {a p : Addr} {c d : Dat} {o : HO}
theorem Cell.mut (h : Cell cl G H a c) : ∃ o, H a = some o ∧ MutO o = true := by
  cases c with
  | lst ds => obtain ⟨xs, h, _⟩ := h; exact ⟨_, h, rfl⟩
  | dic ks ds => obtain ⟨ws, h, _⟩ := h; exact ⟨_, h, rfl⟩
  | obj c ds =>
    obtain ⟨dx, vs, _, h | h, _⟩ := h
    · exact ⟨_, h.1, rfl⟩
    · exact ⟨_, h.1, MutO.slo⟩
  | ext φ => obtain ⟨o, G0, h, m, _⟩ := h; exact ⟨_, h, m⟩
  | _ => exact False.elim h
theorem Step.refl : Step G H M G H M := ⟨Exh.refl _, fun _ _ h _ _ => h, fun _ h => h, fun _ h => .inl h, fun _ h => .inl h⟩
theorem Step.trans (s : Step G H M G1 H1 M1) (t : Step G1 H1 M1 G2 H2 M2) : Step G H M G2 H2 M2 := by
  have key : ∀ b, M b = none → H b ≠ none → M1 b = none := fun b hm hb => by
    cases q : M1 b with
    | none => rfl
    | some c =>
      rcases s.fresh b (by rw [q]; exact fun z => nomatch z) with z | z
      · exact (z hm).elim
      · exact (hb z).elim
  refine ⟨s.ex.trans t.ex, fun b o h so hm => t.keep b o (s.keep b o h so hm) so (key b hm (by rw [h]; exact fun z => nomatch z)), fun b h => t.dom b (s.dom b h), fun b h => ?_, fun b h => ?_⟩
  · rcases t.fresh b h with z | z
    · exact s.fresh b z
    · by_cases hb : H b = none
      · exact .inr hb
      · exact (s.dom b hb z).elim
  · have hs : ∀ b, H b = none ∨ M b ≠ none ∨ (∃ o, H b = some o ∧ ¬ Solid o) ∨ (M b = none ∧ ∃ o, H b = some o ∧ Solid o) := fun b => by
      cases q : H b with
      | none => exact .inl rfl
      | some o =>
        by_cases so : Solid o
        · by_cases hm : M b = none
          · exact .inr (.inr (.inr ⟨hm, o, rfl, so⟩))
          · exact .inr (.inl hm)
        · exact .inr (.inr (.inl ⟨o, rfl, so⟩))
    rcases hs b with z | z | z | ⟨hm, o, ho, so⟩
    · exact .inr (.inl z)
    · exact .inr (.inr (.inl z))
    · exact .inr (.inr (.inr z))
    · rcases t.gnew b h with z | z | z | ⟨o', z, n⟩
      · exact s.gnew b z
      · rw [s.keep b o ho so hm] at z; cases z
      · exact (z (key b hm (by rw [ho]; exact fun z => nomatch z))).elim
      · rw [s.keep b o ho so hm] at z; cases z; exact (n so).elim
end
end DL
set_option maxRecDepth 100000
set_option maxHeartbeats 2000000
/-! D layer, part B: moves of a state. -/
namespace DL
open PySem PySem.Spec PyProof.Rows L2 SlX
section
variable {cl : Nat → Addr} {G G' H H' G1 H1 G2 H2 : Hp} {M M' M1 M2 : Mem} {ρ ρ' : Env} {σ σ' : L2.St} {a b p : Addr} {c d : Dat} {o : HO} {x : V}
theorem Cell.frame (h : Cell cl G H a c) (e : Exh G G') (ha : H' a = H a) (hd : ∀ y, H y = some (.own a) → H' y = H y ∧ (G y = none → G' y = none)) (hx : ∀ y, H y = some (.xd []) → H' y = some (.xd [])) : Cell cl G' H' a c := by
  cases c with
  | lst ds => obtain ⟨xs, h, k⟩ := h; exact ⟨xs, ha.trans h, k.mono e⟩
  | dic ks ds => obtain ⟨ws, h, k, l⟩ := h; exact ⟨ws, ha.trans h, k, l.mono e⟩
  | obj c ds =>
    obtain ⟨dx, vs, n, h, k⟩ := h
    refine ⟨dx, vs, n, ?_, k.mono e⟩
    rcases h with ⟨h1, h2, h3, h4⟩ | ⟨h1, h2⟩
    · exact .inl ⟨ha.trans h1, h2, (hd dx h3).1.trans h3, (hd dx h3).2 h4⟩
    · exact .inr ⟨ha.trans h1, hx dx h2⟩
  | ext φ => obtain ⟨o, G0, h, m, e0, k⟩ := h; exact ⟨o, G0, ha.trans h, m, e0.trans e, k⟩
  | _ => exact False.elim h
theorem StOk.gnone (st : StOk cl G H ρ M σ) (hp : H p = none) : G p = none := st.ex.gone hp
theorem StOk.mnone (st : StOk cl G H ρ M σ) (hp : H p = none) : M p = none := by
  cases q : M p with
  | none => rfl
  | some c =>
    obtain ⟨o, ho, _⟩ := (st.mem p c q).2.mut
    rw [hp] at ho; cases ho
theorem StOk.mut (st : StOk cl G H ρ M σ) (h : M a = some c) : ∃ o, H a = some o ∧ MutO o = true := (st.mem a c h).2.mut
theorem Exh.upd2 (e : Exh G H) : Exh (upd G p o) (upd H p o) := fun b u h => by
  by_cases hb : b = p
  · subst hb; rw [upd_same] at h ⊢; exact h
  · rw [upd_ne hb] at h ⊢; exact e b u h
theorem Exh.upd1 (e : Exh G H) (h : G p = none) : Exh G (upd H p o) := fun b u hb => by
  rw [upd_ne (ne_of_none hb h)]; exact e b u hb
theorem env_mono {e : Exh G G'} (h : ∀ (i : Nat) d, ρ[i]? = some (some d) → ∃ x, σ[i]? = some (some x) ∧ Den cl G d x) : ∀ (i : Nat) d, ρ[i]? = some (some d) → ∃ x, σ[i]? = some (some x) ∧ Den cl G' d x := fun i d hd => by
  obtain ⟨x, h1, h2⟩ := h i d hd
  exact ⟨x, h1, h2.mono e⟩
/-- the slots of another frame over the same heap -/
theorem StOk.swap (st : StOk cl G H [] M []) (e : Exh G1 G) (s1 : StOk cl G1 H1 ρ M1 σ) : StOk cl G H ρ M σ := ⟨st.ex, st.mem, s1.len, env_mono (e := e) s1.env⟩
theorem StOk.bare (st : StOk cl G H ρ M σ) : StOk cl G H [] M [] := ⟨st.ex, st.mem, rfl, fun i d h => by simp at h⟩
/-- a frozen object is laid -/
theorem StOk.newF (st : StOk cl G H ρ M σ) (hp : H p = none) : StOk cl (upd G p o) (upd H p o) ρ M σ := by
  refine ⟨st.ex.upd2, fun a c h => ?_, st.len, env_mono (e := Exh.new (st.gnone hp)) st.env⟩
  obtain ⟨g, k⟩ := st.mem a c h
  have ne : a ≠ p := mem_ne h (st.mnone hp)
  refine ⟨by rw [upd_ne ne]; exact g, k.frame (Exh.new (st.gnone hp)) (upd_ne ne) (fun y hy => ?_) (fun y hy => ?_)⟩
  · have := ne_of_none hy hp
    exact ⟨upd_ne this, fun q => by rw [upd_ne this]; exact q⟩
  · rw [upd_ne (ne_of_none hy hp)]; exact hy
theorem StOk.newF_step (st : StOk cl G H ρ M σ) (hp : H p = none) : Step G H M (upd G p o) (upd H p o) M := by
  refine ⟨Exh.new (st.gnone hp), fun b u h _ _ => by rw [upd_ne (ne_of_none h hp)]; exact h, fun b h => ?_, fun b h => .inl h, fun b h => ?_⟩
  · by_cases hb : b = p
    · subst hb; exact (h hp).elim
    · rw [upd_ne hb]; exact h
  · by_cases hb : b = p
    · subst hb; exact .inr (.inl hp)
    · rw [upd_ne hb] at h; exact .inl h
/-- a mutable object is laid -/
theorem StOk.newM (st : StOk cl G H ρ M σ) (hp : H p = none) (k : Cell cl G (upd H p o) p c) : StOk cl G (upd H p o) ρ (M.put p c) σ := by
  refine ⟨st.ex.upd1 (st.gnone hp), fun a d h => ?_, st.len, st.env⟩
  by_cases ha : a = p
  · subst ha; rw [put_same] at h; cases h; exact ⟨st.gnone hp, k⟩
  · rw [put_ne ha] at h
    obtain ⟨g, l⟩ := st.mem a d h
    refine ⟨g, l.frame (Exh.refl _) (upd_ne ha) (fun y hy => ⟨upd_ne (ne_of_none hy hp), id⟩) (fun y hy => ?_)⟩
    rw [upd_ne (ne_of_none hy hp)]; exact hy
theorem StOk.newM_step (st : StOk cl G H ρ M σ) (hp : H p = none) : Step G H M G (upd H p o) (M.put p c) := by
  refine ⟨Exh.refl _, fun b u h _ _ => by rw [upd_ne (ne_of_none h hp)]; exact h, fun b h => ?_, fun b h => ?_, fun b h => .inl h⟩
  · by_cases hb : b = p
    · subst hb; exact (h hp).elim
    · rw [upd_ne hb]; exact h
  · by_cases hb : b = p
    · subst hb; exact .inr hp
    · rw [put_ne hb] at h; exact .inl h
/-- a mutable list, dict, .. is changed -/
theorem StOk.write (st : StOk cl G H ρ M σ) (ha : M a = some d) (k : Cell cl G (upd H a o) a c) : StOk cl G (upd H a o) ρ (M.put a c) σ := by
  obtain ⟨g, l⟩ := st.mem a d ha
  obtain ⟨o1, h1, m1⟩ := l.mut
  have own : ∀ y z, H y = some (.own z) → y ≠ a := fun y z hy e => by rw [e, h1] at hy; cases hy; cases m1
  have xd : ∀ y fs, H y = some (.xd fs) → y ≠ a := fun y z hy e => by rw [e, h1] at hy; cases hy; cases m1
  refine ⟨st.ex.upd1 g, fun b e h => ?_, st.len, st.env⟩
  by_cases hb : b = a
  · subst hb; rw [put_same] at h; cases h; exact ⟨g, k⟩
  · rw [put_ne hb] at h
    obtain ⟨g2, l2⟩ := st.mem b e h
    exact ⟨g2, l2.frame (Exh.refl _) (upd_ne hb) (fun y hy => ⟨upd_ne (own y b hy), id⟩) (fun y hy => by rw [upd_ne (xd y _ hy)]; exact hy)⟩
theorem StOk.write_step (st : StOk cl G H ρ M σ) (ha : M a = some d) : Step G H M G (upd H a o) (M.put a c) := by
  obtain ⟨o1, h1, m1⟩ := st.mut ha
  have nm : M a ≠ none := by rw [ha]; exact fun z => nomatch z
  refine ⟨Exh.refl _, fun b u h _ hm => ?_, fun b h => ?_, fun b h => ?_, fun b h => .inl h⟩
  · rw [upd_ne (fun e => nm (by rw [← e]; exact hm))]; exact h
  · by_cases hb : b = a
    · subst hb; rw [upd_same]; exact fun z => nomatch z
    · rw [upd_ne hb]; exact h
  · by_cases hb : b = a
    · subst hb; exact .inl nm
    · rw [put_ne hb] at h; exact .inl h
/-- a slotted instance's field is stored -/
theorem StOk.slt (st : StOk cl G H ρ M σ) {n : Nat} {ds : List Dat} (ha : M a = some (.obj n ds)) : ∃ dx vs, dx ≠ a ∧ Slt H a (cl n) dx vs ∧ DenF cl G ds vs := by
  obtain ⟨g, dx, vs, ne, h, k⟩ := st.mem a _ ha
  refine ⟨dx, vs, ne, ?_, k⟩
  rcases h with ⟨h1, h2, _⟩ | h
  · exact .inl ⟨h1, h2⟩
  · exact .inr h
theorem slt_uniq {C C' dx dx' : Addr} {vs vs' : List (Option V)} (h : Slt H a C dx vs) (h1 : H a = some (.ins C' dx' []) ∨ H a = some (SlO a C' dx' vs')) : (∀ fs, H a = some (.ins C' dx' fs) → C = C' ∧ dx = dx') := fun fs hf => by
  rcases h with ⟨h, _⟩ | ⟨h, _⟩
  · rw [hf] at h; cases h; exact ⟨rfl, rfl⟩
  · rw [hf] at h; unfold SlO at h; cases h
/-- the dict's place of a cell, whatever slots are told of it -/
theorem StOk.obj_at (st : StOk cl G H ρ M σ) {n : Nat} {ds : List Dat} (ha : M a = some (.obj n ds)) : G a = none ∧ ∃ dx vs, dx ≠ a ∧ Slt H a (cl n) dx vs ∧ DenF cl G ds vs ∧ ((H dx = some (.own a) ∧ G dx = none) ∨ H dx = some (.xd [])) := by
  obtain ⟨g, dx, vs, ne, h, k⟩ := st.mem a _ ha
  rcases h with ⟨h1, h2, h3, h4⟩ | ⟨h1, h2⟩
  · exact ⟨g, dx, vs, ne, .inl ⟨h1, h2⟩, k, .inl ⟨h3, h4⟩⟩
  · exact ⟨g, dx, vs, ne, .inr ⟨h1, h2⟩, k, .inr h2⟩
theorem StOk.put_slot (st : StOk cl G H ρ M σ) {n : Nat} {ds : List Dat} {dx : Addr} {vs vs' : List (Option V)} {es : List Dat} (ha : M a = some (.obj n ds)) (ne : dx ≠ a) (hx : (H dx = some (.own a) ∧ G dx = none) ∨ H dx = some (.xd []))
    (k : DenF cl G es vs') : StOk cl G (slH H a (cl n) dx vs') ρ (M.put a (.obj n es)) σ := by
  obtain ⟨g, _⟩ := st.mem a _ ha
  obtain ⟨o1, h1, m1⟩ := st.mut ha
  have own : ∀ y z, H y = some (.own z) → y ≠ a := fun y z hy e => by rw [e, h1] at hy; cases hy; cases m1
  have xd : ∀ y fs, H y = some (.xd fs) → y ≠ a := fun y z hy e => by rw [e, h1] at hy; cases hy; cases m1
  refine ⟨fun b o hb => ?_, fun b e h => ?_, st.len, st.env⟩
  · have hba : b ≠ a := fun e => by rw [e, g] at hb; cases hb
    by_cases hd : b = dx
    · subst hd
      rcases hx with ⟨_, z⟩ | z
      · rw [z] at hb; cases hb
      · have := st.ex _ _ hb
        rw [z] at this; cases this
        unfold slH; rw [upd_ne hba, upd_same]
    · rw [slH_ne hba hd]; exact st.ex b o hb
  · by_cases hb : b = a
    · subst hb; rw [put_same] at h; cases h
      exact ⟨g, dx, vs', ne, .inr ⟨upd_same, by unfold slH; rw [upd_ne ne, upd_same]⟩, k⟩
    · rw [put_ne hb] at h
      obtain ⟨g2, l2⟩ := st.mem b e h
      obtain ⟨o2, h2, m2⟩ := l2.mut
      have hbd : b ≠ dx := fun e => by
        subst e
        rcases hx with ⟨z, _⟩ | z <;> (rw [z] at h2; cases h2; cases m2)
      refine ⟨g2, l2.frame (Exh.refl _) (slH_ne hb hbd) (fun y hy => ?_) (fun y hy => ?_)⟩
      · have h3 : y ≠ dx := fun e => by
          subst e
          rcases hx with ⟨z, _⟩ | z
          · rw [hy] at z; cases z; exact hb rfl
          · rw [hy] at z; cases z
        exact ⟨slH_ne (own y b hy) h3, id⟩
      · by_cases hd : y = dx
        · subst hd; unfold slH; rw [upd_ne ne, upd_same]
        · rw [slH_ne (xd y _ hy) hd]; exact hy
theorem StOk.put_slot_step (st : StOk cl G H ρ M σ) {n : Nat} {ds : List Dat} {dx : Addr} {vs' : List (Option V)} {es : List Dat} (ha : M a = some (.obj n ds)) (ne : dx ≠ a) (hx : (H dx = some (.own a) ∧ G dx = none) ∨ H dx = some (.xd [])) :
    Step G H M G (slH H a (cl n) dx vs') (M.put a (.obj n es)) := by
  obtain ⟨o1, h1, m1⟩ := st.mut ha
  have nm : M a ≠ none := by rw [ha]; exact fun z => nomatch z
  refine ⟨Exh.refl _, fun b u h so hm => ?_, fun b h => ?_, fun b h => ?_, fun b h => .inl h⟩
  · have hb : b ≠ a := fun e => nm (by rw [← e]; exact hm)
    have hd : b ≠ dx := fun e => by
      subst e
      rcases hx with ⟨z, _⟩ | z
      · rw [h] at z; cases z; exact so.1 _ rfl
      · rw [h] at z; cases z; exact so.2 _ rfl
    rw [slH_ne hb hd]; exact h
  · unfold slH
    by_cases hb : b = a
    · subst hb; rw [upd_same]; exact fun z => nomatch z
    · rw [upd_ne hb]
      by_cases hd : b = dx
      · subst hd; rw [upd_same]; exact fun z => nomatch z
      · rw [upd_ne hd]; exact h
  · by_cases hb : b = a
    · subst hb; exact .inl nm
    · rw [put_ne hb] at h; exact .inl h
/-- cells are forgotten -/
theorem StOk.forget (st : StOk cl G H ρ M σ) (h : M2.le M) : StOk cl G H ρ M2 σ := ⟨st.ex, fun a c k => st.mem a c (h a c k), st.len, st.env⟩
theorem Step.forget (h : M2.le M) : Step G H M G H M2 := by
  refine ⟨Exh.refl _, fun _ _ h _ _ => h, fun _ h => h, fun b k => .inl fun z => ?_, fun _ h => .inl h⟩
  cases q : M2 b with
  | none => exact k q
  | some c => rw [h b c q] at z; cases z
/-- a slot is set -/
theorem StOk.set (st : StOk cl G H ρ M σ) {i : Nat} (k : Den cl G d x) : StOk cl G H (ρ.set i (some d)) M (σ.set i (some x)) := by
  refine ⟨st.ex, st.mem, by simp [st.len], fun j e h => ?_⟩
  by_cases hj : j = i
  · subst hj
    by_cases hl : j < ρ.length
    · rw [List.getElem?_set_self hl] at h
      cases h
      exact ⟨x, List.getElem?_set_self (st.len ▸ hl), k⟩
    · rw [List.getElem?_eq_none (by simp; omega)] at h
      cases h
  · rw [List.getElem?_set_ne (Ne.symm hj)] at h ⊢
    exact st.env j e h
/-- what is at a frozen place may be read in H -/
theorem StOk.rd (st : StOk cl G H ρ M σ) (h : G p = some o) : H p = some o := st.ex p o h
/-- a cell becomes frozen -/
def Fzb : Dat → Bool
  | .lst _ => true
  | .dic _ _ => true
  | .obj _ _ => true
  | .ext _ => true
  | _ => false
theorem StOk.freeze (st : StOk cl G H ρ M σ) (ha : M a = some c) (hf : ∀ n ds, c = .obj n ds → ∃ d, d ∈ ds ∧ d ≠ .unset) : ∃ G', Step G H M G' H (M.del a) ∧ StOk cl G' H ρ (M.del a) σ ∧ Den cl G' c (.ref a) := by
  obtain ⟨g, k⟩ := st.mem a c ha
  have nm : M a ≠ none := by rw [ha]; exact fun z => nomatch z
  have plain : ∀ o, H a = some o → MutO o = true → Step G H M (upd G a o) H (M.del a) ∧ StOk cl (upd G a o) H ρ (M.del a) σ := fun o ho mo => by
    have e : Exh (upd G a o) H := fun b u h => by
      by_cases hb : b = a
      · subst hb; rw [upd_same] at h; cases h; exact ho
      · rw [upd_ne hb] at h; exact st.ex b u h
    refine ⟨⟨Exh.new g, fun _ _ h _ _ => h, fun _ h => h, fun b h => ?_, fun b h => ?_⟩, ⟨e, fun b e h => ?_, st.len, env_mono (e := Exh.new g) st.env⟩⟩
    · by_cases hb : b = a
      · subst hb; exact .inl nm
      · rw [del_ne hb] at h; exact .inl h
    · by_cases hb : b = a
      · subst hb; exact .inr (.inr (.inl nm))
      · rw [upd_ne hb] at h; exact .inl h
    · by_cases hb : b = a
      · subst hb; rw [del_same] at h; cases h
      · rw [del_ne hb] at h
        obtain ⟨g2, l2⟩ := st.mem b e h
        refine ⟨by rw [upd_ne hb]; exact g2, l2.frame (Exh.new g) rfl (fun y hy => ⟨rfl, fun q => ?_⟩) (fun y hy => hy)⟩
        rw [upd_ne (fun e => by rw [e, ho] at hy; cases hy; cases mo)]; exact q
  cases c with
  | lst ds =>
    obtain ⟨xs, h, l⟩ := k
    obtain ⟨s1, s2⟩ := plain _ h rfl
    exact ⟨_, s1, s2, den_lst.mpr ⟨a, xs, rfl, upd_same, l.mono s1.ex⟩⟩
  | dic ks ds =>
    obtain ⟨xs, h, l1, l⟩ := k
    obtain ⟨s1, s2⟩ := plain _ h rfl
    exact ⟨_, s1, s2, den_dic.mpr ⟨a, xs, rfl, upd_same, l1, l.mono s1.ex⟩⟩
  | ext φ =>
    obtain ⟨o, G0, h, m, e0, l⟩ := k
    obtain ⟨s1, s2⟩ := plain _ h m
    exact ⟨_, s1, s2, den_ext.mpr ⟨a, o, G0, rfl, e0.trans s1.ex, upd_same, l⟩⟩
  | obj n ds =>
    obtain ⟨dx, vs, ne, h, l⟩ := k
    have h2 : H a = some (SlO a (cl n) dx vs) ∧ H dx = some (.xd []) := by
      rcases h with ⟨_, h2, _⟩ | h
      · obtain ⟨d, hd, hu⟩ := hf n ds rfl
        obtain ⟨i, hi, e⟩ := List.mem_iff_getElem.mp hd
        obtain ⟨x, hx, _⟩ := l.get (i := i) (d := d) (by rw [List.getElem?_eq_getElem hi, e]) hu
        rw [h2] at hx; simp at hx
      · exact h
    obtain ⟨s1, s2⟩ := plain _ h2.1 MutO.slo
    have hdn : ∀ b e, (M.del a) b = some e → b ≠ dx := fun b e hbe q => by
      obtain ⟨o, ho, mo⟩ := s2.mut hbe
      rw [q, h2.2] at ho; cases ho; cases mo
    -- dx, too, becomes frozen
    have gdx : ∀ o, (upd G a (SlO a (cl n) dx vs)) dx = some o → o = .xd [] := fun o ho => by
      have := s2.ex _ _ ho
      rw [h2.2] at this; cases this; rfl
    have e3 : Exh (upd G a (SlO a (cl n) dx vs)) (upd (upd G a (SlO a (cl n) dx vs)) dx (.xd [])) := fun b u hb => by
      by_cases q : b = dx
      · subst q; rw [gdx u hb, upd_same]
      · rw [upd_ne q]; exact hb
    have e4 : Exh (upd (upd G a (SlO a (cl n) dx vs)) dx (.xd [])) H := fun b u hb => by
      by_cases q : b = dx
      · subst q; rw [upd_same] at hb; cases hb; exact h2.2
      · rw [upd_ne q] at hb; exact s2.ex b u hb
    refine ⟨upd (upd G a (SlO a (cl n) dx vs)) dx (.xd []), ⟨s1.ex.trans e3, s1.keep, s1.dom, s1.fresh, fun b hb => ?_⟩, ⟨e4, fun b e hb => ?_, s2.len, env_mono (e := e3) s2.env⟩, ?_⟩
    · by_cases q : b = dx
      · subst q; exact .inr (.inr (.inr ⟨_, h2.2, fun so => so.2 _ rfl⟩))
      · rw [upd_ne q] at hb; exact s1.gnew b hb
    · obtain ⟨g2, l2⟩ := s2.mem b e hb
      refine ⟨by rw [upd_ne (hdn b e hb)]; exact g2, l2.frame e3 rfl (fun y hy => ⟨rfl, fun q => ?_⟩) (fun y hy => hy)⟩
      rw [upd_ne (fun z => by rw [z, h2.2] at hy; cases hy)]; exact q
    · refine den_obj.mpr ⟨a, dx, vs, rfl, ?_, upd_same, l.mono (s1.ex.trans e3)⟩
      rw [upd_ne (Ne.symm ne), upd_same]
  | _ => exact False.elim k
end
end DL
set_option maxRecDepth 100000
set_option maxHeartbeats 2000000
/-! D layer, part C: expressions. -/
namespace DL
open PySem PySem.Spec PyProof.Rows L2 SlX

abbrev WE := Env → Mem → (Dat → Mem → Prop) → Prop
abbrev WT := Env → Mem → (Bool → Mem → Prop) → Prop
abbrev WA := Env → Mem → (List Dat → Mem → Prop) → Prop
abbrev WO := Env → Mem → (Option Int → Mem → Prop) → Prop
abbrev DO2 := Dat → Dat → Mem → (Dat → Mem → Prop) → Prop
abbrev DOs := List Dat → Mem → (Dat → Mem → Prop) → Prop
/-- a new list, frozen or mutable as one likes -/
def newL (ds : List Dat) (M : Mem) (Φ : Dat → Mem → Prop) : Prop := Φ (.lst ds) M ∨ ∀ p, M p = none → Φ (.v (.ref p)) (M.put p (.lst ds))
def newD (ks : List Key) (ds : List Dat) (M : Mem) (Φ : Dat → Mem → Prop) : Prop := Φ (.dic ks ds) M ∨ ∀ p, M p = none → Φ (.v (.ref p)) (M.put p (.dic ks ds))
/-- the list that a value is: frozen, or a cell -/
def lstV (M : Mem) : Dat → Option (List Dat)
  | .lst ds => some ds
  | .v (.ref p) => match M p with
    | some (.lst ds) => some ds
    | _ => none
  | _ => none
def seqV (M : Mem) : Dat → Option (List Dat)
  | .tup ds => some ds
  | .lst ds => some ds
  | .v (.ref p) => match M p with
    | some (.lst ds) => some ds
    | _ => none
  | _ => none
def dicV (M : Mem) : Dat → Option (List Key × List Dat)
  | .dic ks ds => some (ks, ds)
  | .v (.ref p) => match M p with
    | some (.dic ks ds) => some (ks, ds)
    | _ => none
  | _ => none
def objV (M : Mem) : Dat → Option (Nat × List Dat)
  | .obj c ds => some (c, ds)
  | .v (.ref p) => match M p with
    | some (.obj c ds) => some (c, ds)
    | _ => none
  | _ => none

theorem PE.imp {X : Cx} {e : Expr} {t t' : TE} (h : PE X e t) (i : ∀ σ H Q, t' σ H Q → t σ H Q) : PE X e t' := ⟨fun pins s σ H Q I q => h.run pins s σ H Q I (i σ H Q q)⟩
theorem PT.imp {X : Cx} {e : Expr} {t t' : TT} (h : PT X e t) (i : ∀ σ H Q, t' σ H Q → t σ H Q) : PT X e t' := ⟨fun pins s σ H Q I q => h.run pins s σ H Q I (i σ H Q q)⟩
theorem PA.imp {X : Cx} {e : List Expr} {t t' : TA} (h : PA X e t) (i : ∀ σ H Q, t' σ H Q → t σ H Q) : PA X e t' := ⟨fun pos pins s σ H Q I q => h.run pos pins s σ H Q I (i σ H Q q)⟩
theorem PE.or {X : Cx} {e : Expr} {t t' : TE} (h : PE X e t) (h' : PE X e t') : PE X e (fun σ H Q => t σ H Q ∨ t' σ H Q) := ⟨fun pins s σ H Q I q => q.elim (h.run pins s σ H Q I) (h'.run pins s σ H Q I)⟩
/-- what is never evaluated -/
theorem pe_never {X : Cx} {e : Expr} : PE X e (fun _ _ _ => False) := ⟨fun _ _ _ _ _ _ h => h.elim⟩
theorem pt_never {X : Cx} {e : Expr} : PT X e (fun _ _ _ => False) := ⟨fun _ _ _ _ _ _ h => h.elim⟩

section
variable (cl : Nat → Addr)
def KE (σ : L2.St) (ρ : Env) (G H : Hp) (M : Mem) (Φ : Dat → Mem → Prop) (Q : VK) : Prop :=
  ∀ d x M' G' H', Step G H M G' H' M' → StOk cl G' H' ρ M' σ → Den cl G' d x → Φ d M' → Q x H'
def liftE (W : WE) : TE := fun σ H Q => ∃ G ρ M Φ, StOk cl G H ρ M σ ∧ W ρ M Φ ∧ KE cl σ ρ G H M Φ Q
def liftT (W : WT) : TT := fun σ H Q => ∃ G ρ M Φ, StOk cl G H ρ M σ ∧ W ρ M Φ ∧ ∀ b M' G' H', Step G H M G' H' M' → StOk cl G' H' ρ M' σ → Φ b M' → Q b H'
def liftA (W : WA) : TA := fun σ H Q => ∃ G ρ M Φ, StOk cl G H ρ M σ ∧ W ρ M Φ ∧ ∀ ds xs M' G' H', Step G H M G' H' M' → StOk cl G' H' ρ M' σ → DenL cl G' ds xs → Φ ds M' → Q xs H'
def liftO (W : WO) : TO := fun σ H Q => ∃ G ρ M Φ, StOk cl G H ρ M σ ∧ W ρ M Φ ∧ ∀ b M' G' H', Step G H M G' H' M' → StOk cl G' H' ρ M' σ → Φ b M' → Q b H'
def DE (X : Cx) (e : Expr) (W : WE) : Prop := PE X e (liftE cl W)
def DT (X : Cx) (e : Expr) (W : WT) : Prop := PT X e (liftT cl W)
def DW (X : Cx) (e : Expr) (W : WT) : Prop := PW X e (liftT cl W)
def DA (X : Cx) (es : List Expr) (W : WA) : Prop := PA X es (liftA cl W)
def DOpt (X : Cx) (e : Option Expr) (W : WO) : Prop := PO X e (liftO cl W)
/-- an operation by values -/
def OpD (r : R2) (o : DO2) : Prop := ∀ G H ρ M σ d1 d2 x y Φ Q, StOk cl G H ρ M σ → Den cl G d1 x → Den cl G d2 y → o d1 d2 M Φ → KE cl σ ρ G H M Φ Q → r x y H Q
def CalD (r : List V → Hp → VK → Prop) (o : DOs) : Prop := ∀ G H ρ M σ ds xs Φ Q, StOk cl G H ρ M σ → DenL cl G ds xs → o ds M Φ → KE cl σ ρ G H M Φ Q → r xs H Q
end
section
variable {cl : Nat → Addr} {X : Cx} {G G' H H' G1 H1 : Hp} {M M' M1 : Mem} {ρ : Env} {σ : L2.St} {d d1 d2 : Dat} {x y : V} {Φ : Dat → Mem → Prop} {Q : VK} {a b c : Expr} {pos : Pos}
theorem KE.pre (s : Step G H M G1 H1 M1) (k : KE cl σ ρ G H M Φ Q) : KE cl σ ρ G1 H1 M1 Φ Q := fun d x M' G' H' t st dn h => k d x M' G' H' (s.trans t) st dn h
theorem KE.val (k : KE cl σ ρ G H M Φ Q) (st : StOk cl G H ρ M σ) (dn : Den cl G d x) (h : Φ d M) : Q x H := k d x M G H .refl st dn h
theorem KE.v (k : KE cl σ ρ G H M Φ Q) (st : StOk cl G H ρ M σ) (h : Φ (.v x) M) : Q x H := k.val st (den_v.mpr rfl) h
theorem KE.newT {ds : List Dat} {xs : List V} (k : KE cl σ ρ G H M Φ Q) (st : StOk cl G H ρ M σ) (dn : DenL cl G ds xs) (h : Φ (.tup ds) M) {p : Addr} (hp : H p = none) : Q (.ref p) (upd H p (.tup xs)) :=
  k _ _ _ _ _ (st.newF_step hp) (st.newF hp) (den_tup.mpr ⟨p, xs, rfl, upd_same, dn.mono (Exh.new (st.gnone hp))⟩) h
theorem KE.newL {ds : List Dat} {xs : List V} (k : KE cl σ ρ G H M Φ Q) (st : StOk cl G H ρ M σ) (dn : DenL cl G ds xs) (h : DL.newL ds M Φ) {p : Addr} (hp : H p = none) : Q (.ref p) (upd H p (.lst xs)) := by
  rcases h with h | h
  · exact k _ _ _ _ _ (st.newF_step hp) (st.newF hp) (den_lst.mpr ⟨p, xs, rfl, upd_same, dn.mono (Exh.new (st.gnone hp))⟩) h
  · exact k _ _ _ _ _ (st.newM_step hp) (st.newM (c := .lst ds) hp ⟨xs, upd_same, dn⟩) (den_v.mpr rfl) (h p (st.mnone hp))
theorem KE.newD {ks : List Key} {ds : List Dat} {ws : List (Key × V)} (k : KE cl σ ρ G H M Φ Q) (st : StOk cl G H ρ M σ) (hk : ws.map (·.1) = ks) (dn : DenL cl G ds (ws.map (·.2))) (h : DL.newD ks ds M Φ) {p : Addr} (hp : H p = none) : Q (.ref p) (upd H p (.dK ws)) := by
  rcases h with h | h
  · exact k _ _ _ _ _ (st.newF_step hp) (st.newF hp) (den_dic.mpr ⟨p, ws, rfl, upd_same, hk, dn.mono (Exh.new (st.gnone hp))⟩) h
  · exact k _ _ _ _ _ (st.newM_step hp) (st.newM (c := .dic ks ds) hp ⟨ws, upd_same, hk, dn⟩) (den_v.mpr rfl) (h p (st.mnone hp))
theorem StOk.lstV (st : StOk cl G H ρ M σ) (dn : Den cl G d x) {ds : List Dat} (h : DL.lstV M d = some ds) : ∃ p xs, x = .ref p ∧ H p = some (.lst xs) ∧ DenL cl G ds xs := by
  cases d with
  | lst es =>
    cases h
    obtain ⟨p, xs, e, hp, l⟩ := den_lst.mp dn
    exact ⟨p, xs, e, st.rd hp, l⟩
  | v z =>
    cases z with
    | ref p =>
      have e := den_v.mp dn
      change (match M p with | some (.lst ds) => some ds | _ => none) = _ at h
      split at h
      · rename_i es q; cases h
        obtain ⟨xs, hp, l⟩ := (st.mem p _ q).2
        exact ⟨p, xs, e, hp, l⟩
      · cases h
    | _ => cases h
  | _ => cases h
theorem StOk.seqV (st : StOk cl G H ρ M σ) (dn : Den cl G d x) {ds : List Dat} (h : DL.seqV M d = some ds) : ∃ p xs, x = .ref p ∧ (H p = some (.lst xs) ∨ H p = some (.tup xs)) ∧ DenL cl G ds xs := by
  cases d with
  | lst es =>
    cases h
    obtain ⟨p, xs, e, hp, l⟩ := den_lst.mp dn
    exact ⟨p, xs, e, .inl (st.rd hp), l⟩
  | tup es =>
    cases h
    obtain ⟨p, xs, e, hp, l⟩ := den_tup.mp dn
    exact ⟨p, xs, e, .inr (st.rd hp), l⟩
  | v z =>
    cases z with
    | ref p =>
      have e := den_v.mp dn
      change (match M p with | some (.lst ds) => some ds | _ => none) = _ at h
      split at h
      · rename_i es q; cases h
        obtain ⟨xs, hp, l⟩ := (st.mem p _ q).2
        exact ⟨p, xs, e, .inl hp, l⟩
      · cases h
    | _ => cases h
  | _ => cases h
theorem sq_or {K : PySem.W.Frag} {p : Addr} {xs : List V} (h : H p = some (.lst xs) ∨ H p = some (.tup xs)) : SqL K H p xs ∨ SqT K H p xs := h.elim (fun h => .inl (SqL.of h)) fun h => .inr (SqT.of h)
theorem StOk.dicV (st : StOk cl G H ρ M σ) (dn : Den cl G d x) {ks : List Key} {ds : List Dat} (h : DL.dicV M d = some (ks, ds)) : ∃ p ws, x = .ref p ∧ H p = some (.dK ws) ∧ ws.map (·.1) = ks ∧ DenL cl G ds (ws.map (·.2)) := by
  cases d with
  | dic es fs =>
    cases h
    obtain ⟨p, xs, e, hp, l⟩ := den_dic.mp dn
    exact ⟨p, xs, e, st.rd hp, l⟩
  | v z =>
    cases z with
    | ref p =>
      have e := den_v.mp dn
      change (match M p with | some (.dic ks ds) => some (ks, ds) | _ => none) = _ at h
      split at h
      · rename_i es fs q; cases h
        obtain ⟨xs, hp, l⟩ := (st.mem p _ q).2
        exact ⟨p, xs, e, hp, l⟩
      · cases h
    | _ => cases h
  | _ => cases h
theorem StOk.objV (st : StOk cl G H ρ M σ) (dn : Den cl G d x) {n : Nat} {ds : List Dat} (h : DL.objV M d = some (n, ds)) : ∃ p dx vs, x = .ref p ∧ Slt H p (cl n) dx vs ∧ DenF cl G ds vs := by
  cases d with
  | obj es fs =>
    cases h
    obtain ⟨a, dx, vs, e, h1, h2, l⟩ := den_obj.mp dn
    exact ⟨a, dx, vs, e, .inr ⟨st.rd h1, st.rd h2⟩, l⟩
  | v z =>
    cases z with
    | ref p =>
      have e := den_v.mp dn
      change (match M p with | some (.obj c ds) => some (c, ds) | _ => none) = _ at h
      split at h
      · rename_i es fs q; cases h
        obtain ⟨dx, vs, _, h1, h2⟩ := st.slt q
        exact ⟨p, dx, vs, e, h1, h2⟩
      · cases h
    | _ => cases h
  | _ => cases h

/-! ### names, constants -/
def wVar (i : Nat) : WE := fun ρ M Φ => ∃ d, ρ[i]? = some (some d) ∧ Φ d M
def wC (v : V) : WE := fun _ M Φ => Φ (.v v) M
def wNever : WE := fun _ _ _ => False
theorem de_name (i : Nat) {e : Expr} (h : PE X e (tVar i)) : DE cl X e (wVar i) := PE.imp h fun σ H Q ⟨G, ρ, M, Φ, st, ⟨d, hd, hΦ⟩, k⟩ => by
  obtain ⟨x, hx, dn⟩ := st.env i d hd
  exact ⟨x, hx, k.val st dn hΦ⟩
theorem dv (i : Nat) {x : Str} {pos : Pos} (hN : X.N[i]? = some x := by rfl) (hv : Vis X.env.scope x := by first | exact Or.inl rfl | exact Or.inr (Or.inl rfl) | exact Or.inr (Or.inr rfl)) (hd : (x == ("__debug__" : Str)) = false := by decide)
    (hcd : (x == ("__classdict__" : Str)) = false := by decide) : DE cl X (.Name x pos) (wVar i) := de_name i (pe_var hN hv hd hcd)
theorem de_c {e : Expr} {v : V} (h : PE X e (tC v)) : DE cl X e (wC v) := PE.imp h fun σ H Q ⟨G, ρ, M, Φ, st, hΦ, k⟩ => k.v st hΦ
theorem de_int {i j pos} : DE cl X (.Constant (.int i) j pos) (wC (.int i)) := de_c pe_int
theorem de_bl {i j pos} : DE cl X (.Constant (.bool i) j pos) (wC (.bl i)) := de_c pe_bl
theorem de_non {j pos} : DE cl X (.Constant .none j pos) (wC .non) := de_c pe_non
theorem de_str {i j pos} : DE cl X (.Constant (.str i) j pos) (wC (.str i)) := de_c pe_str
theorem de_never {e : Expr} : DE cl X e wNever := PE.imp pe_never fun σ H Q ⟨_, _, _, _, _, h, _⟩ => h
theorem de_glob {x : Str} {v : V} {u : Value} {pos : Pos} (hg : Gl X x) (hm : X.mg x = some u) (r : RelV v u) (hd : (x == ("__debug__" : Str)) = false := by decide) : DE cl X (.Name x pos) (wC v) := de_c (pe_glob hg hm r hd)
/-- a constant of the module, its token unknown -/
theorem de_gint {x : Str} {i : Int} {pos : Pos} (hm : ∃ t, X.mg x = some (.int i t)) (hg : Gl X x := by rfl) (hd : (x == ("__debug__" : Str)) = false := by decide) : DE cl X (.Name x pos) (wC (.int i)) := by
  obtain ⟨t, hm⟩ := hm
  exact de_glob hg hm ⟨t, rfl⟩ hd
theorem de_gstr {x : Str} {i : Str} {pos : Pos} (hm : ∃ t, X.mg x = some (.str i t)) (hg : Gl X x := by rfl) (hd : (x == ("__debug__" : Str)) = false := by decide) : DE cl X (.Name x pos) (wC (.str i)) := by
  obtain ⟨t, hm⟩ := hm
  exact de_glob hg hm ⟨t, rfl⟩ hd
theorem de_bltn {x : Str} {v : V} {u : Value} {pos : Pos} (hg : Gl X x) (hm : X.mg x = none) (hv : bootBuiltins x = some u) (r : RelV v u) (hn : x ≠ "__name__" := by decide) (hd : (x == ("__debug__" : Str)) = false := by decide) : DE cl X (.Name x pos) (wC v) :=
  de_c (pe_bltn hg hm hv r hn hd)

/-! ### two-place operations -/
def wOp (o : DO2) (Wa Wb : WE) : WE := fun ρ M Φ => Wa ρ M fun d1 M1 => Wb ρ M1 fun d2 M2 => o d1 d2 M2 Φ
theorem lift_op {r : R2} {o : DO2} {Wa Wb : WE} (hd : OpD cl r o) (σ : L2.St) (H : Hp) (Q : VK) (h : liftE cl (wOp o Wa Wb) σ H Q) : tOp r (liftE cl Wa) (liftE cl Wb) σ H Q := by
  obtain ⟨G, ρ, M, Φ, st, h, k⟩ := h
  exact ⟨G, ρ, M, _, st, h, fun d1 x M1 G1 H1 s1 st1 dn1 h1 => ⟨G1, ρ, M1, _, st1, h1, fun d2 y M2 G2 H2 s2 st2 dn2 h2 => hd _ _ _ _ _ _ _ _ _ _ _ st2 (dn1.mono s2.ex) dn2 h2 (k.pre (s1.trans s2))⟩⟩
theorem de_op {op : Operator} {r : R2} {o : DO2} {Wa Wb : WE} (ho : OpR X (binaryOp op) r) (hd : OpD cl r o) (ha : DE cl X a Wa) (hb : DE cl X b Wb) : DE cl X (.BinOp a op b pos) (wOp o Wa Wb) := PE.imp (pe_op ho ha hb) (lift_op hd)
theorem de_cmp {op : CmpOp} {r : R2} {o : DO2} {Wa Wb : WE} (ho : OpR X (compareOp op) r) (hd : OpD cl r o) (hm : behindInMarks op b = false) (ha : DE cl X a Wa) (hb : DE cl X b Wb) : DE cl X (.Compare a [op] [b] pos) (wOp o Wa Wb) :=
  PE.imp (pe_cmpR ho ha hb hm) (lift_op hd)
/-- a value's outcome as a test -/
def wTest (W : WE) : WT := fun ρ M Φ => W ρ M fun d M1 => ∃ k, d = .v (.bl k) ∧ Φ k M1
theorem lift_test {W : WE} (σ : L2.St) (H : Hp) (Q : Bool → Hp → Prop) (h : liftT cl (wTest W) σ H Q) : tTest (liftE cl W) σ H Q := by
  obtain ⟨G, ρ, M, Φ, st, h, k⟩ := h
  refine ⟨G, ρ, M, _, st, h, fun d x M1 G1 H1 s1 st1 dn h1 => ?_⟩
  obtain ⟨kb, e, hΦ⟩ := h1
  subst e
  exact ⟨kb, den_v.mp dn, k kb M1 G1 H1 s1 st1 hΦ⟩
theorem tTest_imp {t t' : TE} (i : ∀ σ H Q, t' σ H Q → t σ H Q) (σ : L2.St) (H : Hp) (Q : Bool → Hp → Prop) (h : tTest t' σ H Q) : tTest t σ H Q := i _ _ _ h
theorem dt_cmp {op : CmpOp} {r : R2} {o : DO2} {Wa Wb : WE} (ho : OpR X (compareOp op) r) (hd : OpD cl r o) (hm : behindInMarks op b = false) (ha : DE cl X a Wa) (hb : DE cl X b Wb) : DT cl X (.Compare a [op] [b] pos) (wTest (wOp o Wa Wb)) :=
  PT.imp (pt_cmpR ho ha hb hm) fun σ H Q h => tTest_imp (lift_op hd) σ H Q (lift_test σ H Q h)
theorem dt_val {e : Expr} {W : WE} (h : DE cl X e W) (he : ∀ whole, isTrue e X.env whole = (do let v ← whole; standAt e.pos; holding [v] (truthy v)) := by intro _; rfl) : DT cl X e (wTest W) := PT.imp (pt_val h he) lift_test
def wChain (o o' : DO2) (Wa Wb Wc : WE) : WE := fun ρ M Φ => Wa ρ M fun d1 M1 => Wb ρ M1 fun d2 M2 => o d1 d2 M2 fun z M3 => ∃ k, z = .v (.bl k) ∧ if k = true then Wc ρ M3 fun d3 M4 => o' d2 d3 M4 Φ else Φ (.v (.bl false)) M3
theorem lift_chain {r r' : R2} {o o' : DO2} {Wa Wb Wc : WE} (hd : OpD cl r o) (hd' : OpD cl r' o') (σ : L2.St) (H : Hp) (Q : VK) (h : liftE cl (wChain o o' Wa Wb Wc) σ H Q) : tChain r r' (liftE cl Wa) (liftE cl Wb) (liftE cl Wc) σ H Q := by
  obtain ⟨G, ρ, M, Φ, st, h, k⟩ := h
  refine ⟨G, ρ, M, _, st, h, fun d1 x M1 G1 H1 s1 st1 dn1 h1 => ⟨G1, ρ, M1, _, st1, h1, fun d2 y M2 G2 H2 s2 st2 dn2 h2 => hd _ _ _ _ _ _ _ _ _ _ _ st2 (dn1.mono s2.ex) dn2 h2 fun z zx M3 G3 H3 s3 st3 dn3 h3 => ?_⟩⟩
  obtain ⟨kb, e, h3⟩ := h3
  subst e
  refine ⟨kb, den_v.mp dn3, ?_⟩
  cases kb with
  | true => exact ⟨G3, ρ, M3, _, st3, h3, fun d3 w M4 G4 H4 s4 st4 dn4 h4 => hd' _ _ _ _ _ _ _ _ _ _ _ st4 (dn2.mono (s3.trans s4).ex) dn4 h4 (k.pre (((s1.trans s2).trans s3).trans s4))⟩
  | false => exact k _ _ _ _ _ ((s1.trans s2).trans s3) st3 (den_v.mpr rfl) h3
theorem de_chain {op op' : CmpOp} {r r' : R2} {o o' : DO2} {Wa Wb Wc : WE} (ho : OpR X (compareOp op) r) (hd : OpD cl r o) (ho' : OpR X (compareOp op') r') (hd' : OpD cl r' o') (ha : DE cl X a Wa) (hb : DE cl X b Wb) (hc : DE cl X c Wc)
    (hm : lastMarks [op, op'] [b, c] = false := by with_unfolding_all rfl) : DE cl X (.Compare a [op, op'] [b, c] pos) (wChain o o' Wa Wb Wc) := PE.imp (pe_chain ho ho' ha hb hc hm) (lift_chain hd hd')
theorem dt_chain {op op' : CmpOp} {r r' : R2} {o o' : DO2} {Wa Wb Wc : WE} (ho : OpR X (compareOp op) r) (hd : OpD cl r o) (ho' : OpR X (compareOp op') r') (hd' : OpD cl r' o') (ha : DE cl X a Wa) (hb : DE cl X b Wb) (hc : DE cl X c Wc)
    (hm : lastMarks [op, op'] [b, c] = false := by with_unfolding_all rfl) : DT cl X (.Compare a [op, op'] [b, c] pos) (wTest (wChain o o' Wa Wb Wc)) := PT.imp (pt_chain ho ho' ha hb hc hm) fun σ H Q h => tTest_imp (lift_chain hd hd') σ H Q (lift_test σ H Q h)

/-! ### and, or, not, if -/
def wAnd (Wa Wb : WT) : WT := fun ρ M Φ => Wa ρ M fun k M1 => if k = true then Wb ρ M1 Φ else Φ false M1
def wOr (Wa Wb : WT) : WT := fun ρ M Φ => Wa ρ M fun k M1 => if k = true then Φ true M1 else Wb ρ M1 Φ
def wNot (Wa : WT) : WT := fun ρ M Φ => Wa ρ M fun k M1 => Φ (!k) M1
theorem lift_and {Wa Wb : WT} (σ : L2.St) (H : Hp) (Q : Bool → Hp → Prop) (h : liftT cl (wAnd Wa Wb) σ H Q) : tAnd (liftT cl Wa) (liftT cl Wb) σ H Q := by
  obtain ⟨G, ρ, M, Φ, st, h, k⟩ := h
  refine ⟨G, ρ, M, _, st, h, fun b M1 G1 H1 s1 st1 h1 => ?_⟩
  cases b with
  | true => exact ⟨G1, ρ, M1, _, st1, h1, fun b M2 G2 H2 s2 st2 h2 => k b M2 G2 H2 (s1.trans s2) st2 h2⟩
  | false => exact k _ _ _ _ s1 st1 h1
theorem lift_or {Wa Wb : WT} (σ : L2.St) (H : Hp) (Q : Bool → Hp → Prop) (h : liftT cl (wOr Wa Wb) σ H Q) : tOr (liftT cl Wa) (liftT cl Wb) σ H Q := by
  obtain ⟨G, ρ, M, Φ, st, h, k⟩ := h
  refine ⟨G, ρ, M, _, st, h, fun b M1 G1 H1 s1 st1 h1 => ?_⟩
  cases b with
  | true => exact k _ _ _ _ s1 st1 h1
  | false => exact ⟨G1, ρ, M1, _, st1, h1, fun b M2 G2 H2 s2 st2 h2 => k b M2 G2 H2 (s1.trans s2) st2 h2⟩
theorem PW.imp {X : Cx} {e : Expr} {t t' : TT} (h : PW X e t) (i : ∀ σ H Q, t' σ H Q → t σ H Q) : PW X e t' := ⟨fun wh pins s σ H Q I q => h.run wh pins s σ H Q I (i σ H Q q)⟩
variable {rest : List Expr} {Wa Wb Wc : WT}
theorem dw_and (ha : DT cl X a Wa) (hb : DW cl X (.BoolOp .And (b :: rest) pos) Wb) : DW cl X (.BoolOp .And (a :: b :: rest) pos) (wAnd Wa Wb) := PW.imp (pw_and ha hb) lift_and
theorem dw_or (ha : DT cl X a Wa) (hb : DW cl X (.BoolOp .Or (b :: rest) pos) Wb) : DW cl X (.BoolOp .Or (a :: b :: rest) pos) (wOr Wa Wb) := PW.imp (pw_or ha hb) lift_or
theorem dw_and1 (ha : DT cl X a Wa) : DW cl X (.BoolOp .And [a] pos) Wa := pw_and1 ha
theorem dw_or1 (ha : DT cl X a Wa) : DW cl X (.BoolOp .Or [a] pos) Wa := pw_or1 ha
theorem DW.dt {e : Expr} (h : DW cl X e Wa) : DT cl X e Wa := PW.pt h
theorem dt_not (ha : DT cl X a Wa) : DT cl X (.UnaryOp .Not a pos) (wNot Wa) := PT.imp (pt_not ha) fun σ H Q ⟨G, ρ, M, Φ, st, h, k⟩ => ⟨G, ρ, M, _, st, h, fun b M1 G1 H1 s1 st1 h1 => k _ _ _ _ s1 st1 h1⟩
/-- as values -/
def wAndV (Wa Wb : WE) : WE := fun ρ M Φ => Wa ρ M fun d M1 => ∃ k, d = .v (.bl k) ∧ if k = true then Wb ρ M1 Φ else Φ (.v (.bl false)) M1
def wOrV (Wa Wb : WE) : WE := fun ρ M Φ => Wa ρ M fun d M1 => ∃ k, d = .v (.bl k) ∧ if k = true then Φ (.v (.bl true)) M1 else Wb ρ M1 Φ
def wNotV (Wa : WE) : WE := fun ρ M Φ => Wa ρ M fun d M1 => ∃ k, d = .v (.bl k) ∧ Φ (.v (.bl (!k))) M1
def wIf (Wt : WT) (Wa Wb : WE) : WE := fun ρ M Φ => Wt ρ M fun k M1 => if k = true then Wa ρ M1 Φ else Wb ρ M1 Φ
variable {Va Vb : WE}
theorem de_and (ha : DE cl X a Va) (hb : DE cl X (.BoolOp .And (b :: rest) pos) Vb) : DE cl X (.BoolOp .And (a :: b :: rest) pos) (wAndV Va Vb) := PE.imp (pe_and ha hb) fun σ H Q ⟨G, ρ, M, Φ, st, h, k⟩ =>
  ⟨G, ρ, M, _, st, h, fun d x M1 G1 H1 s1 st1 dn h1 => by
    obtain ⟨kb, e, h1⟩ := h1
    subst e
    refine ⟨kb, den_v.mp dn, ?_⟩
    cases kb with
    | true => exact ⟨G1, ρ, M1, _, st1, h1, k.pre s1⟩
    | false => exact k _ _ _ _ _ s1 st1 (den_v.mpr rfl) h1⟩
theorem de_or (ha : DE cl X a Va) (hb : DE cl X (.BoolOp .Or (b :: rest) pos) Vb) : DE cl X (.BoolOp .Or (a :: b :: rest) pos) (wOrV Va Vb) := PE.imp (pe_or ha hb) fun σ H Q ⟨G, ρ, M, Φ, st, h, k⟩ =>
  ⟨G, ρ, M, _, st, h, fun d x M1 G1 H1 s1 st1 dn h1 => by
    obtain ⟨kb, e, h1⟩ := h1
    subst e
    refine ⟨kb, den_v.mp dn, ?_⟩
    cases kb with
    | true => exact k _ _ _ _ _ s1 st1 (den_v.mpr rfl) h1
    | false => exact ⟨G1, ρ, M1, _, st1, h1, k.pre s1⟩⟩
theorem de_one {op} (h : DE cl X a Va) : DE cl X (.BoolOp op [a] pos) Va := pe_one h
theorem de_not (ha : DE cl X a Va) : DE cl X (.UnaryOp .Not a pos) (wNotV Va) := PE.imp (pe_not ha) fun σ H Q ⟨G, ρ, M, Φ, st, h, k⟩ =>
  ⟨G, ρ, M, _, st, h, fun d x M1 G1 H1 s1 st1 dn h1 => by
    obtain ⟨kb, e, h1⟩ := h1
    subst e
    exact ⟨kb, den_v.mp dn, k _ _ _ _ _ s1 st1 (den_v.mpr rfl) h1⟩⟩
theorem de_if (hc : DT cl X c Wc) (ha : DE cl X a Va) (hb : DE cl X b Vb) : DE cl X (.IfExp c a b pos) (wIf Wc Va Vb) := PE.imp (pe_ifExp hc ha hb) fun σ H Q ⟨G, ρ, M, Φ, st, h, k⟩ =>
  ⟨G, ρ, M, _, st, h, fun kb M1 G1 H1 s1 st1 h1 => by
    cases kb with
    | true => exact ⟨G1, ρ, M1, _, st1, h1, k.pre s1⟩
    | false => exact ⟨G1, ρ, M1, _, st1, h1, k.pre s1⟩⟩

/-! ### arguments, tuples, lists -/
def wNil : WA := fun _ M Φ => Φ [] M
def wCons (Wa : WE) (Wr : WA) : WA := fun ρ M Φ => Wa ρ M fun d M1 => Wr ρ M1 fun ds M2 => Φ (d :: ds) M2
def wStar (Wa : WE) (Wr : WA) : WA := fun ρ M Φ => Wa ρ M fun d M1 => ∃ es, seqV M1 d = some es ∧ Wr ρ M1 fun ds M2 => Φ (es ++ ds) M2
variable {Wr : WA} {es : List Expr} {e : Expr}
theorem da_nil : DA cl X [] wNil := PA.imp pa_nil fun σ H Q ⟨G, ρ, M, Φ, st, h, k⟩ => k _ _ _ _ _ .refl st (denL_nil.mpr rfl) h
theorem da_cons (ha : DE cl X e Va) (hr : DA cl X es Wr) (hs : starEach (e :: es) X.env = (false, eval e X.env) :: starEach es X.env := by rfl) : DA cl X (e :: es) (wCons Va Wr) := PA.imp (pa_cons ha hr hs) fun σ H Q ⟨G, ρ, M, Φ, st, h, k⟩ =>
  ⟨G, ρ, M, _, st, h, fun d x M1 G1 H1 s1 st1 dn1 h1 => ⟨G1, ρ, M1, _, st1, h1, fun ds xs M2 G2 H2 s2 st2 dn2 h2 => k _ _ _ _ _ (s1.trans s2) st2 (denL_cons.mpr ⟨x, xs, rfl, dn1.mono s2.ex, dn2⟩) h2⟩⟩
theorem da_star {p : Pos} (ha : DE cl X e Va) (hr : DA cl X es Wr) (hs : starEach (.Starred e p :: es) X.env = (true, eval e X.env) :: starEach es X.env := by rfl) : DA cl X (.Starred e p :: es) (wStar Va Wr) := PA.imp (StX.pa_star ha hr hs) fun σ H Q ⟨G, ρ, M, Φ, st, h, k⟩ =>
  ⟨G, ρ, M, _, st, h, fun d x M1 G1 H1 s1 st1 dn1 h1 => by
    obtain ⟨fs, hs, h1⟩ := h1
    obtain ⟨p, xs, rfl, hp, l⟩ := st1.seqV dn1 hs
    exact ⟨p, xs, rfl, (sq_or hp).symm, ⟨G1, ρ, M1, _, st1, h1, fun ds ys M2 G2 H2 s2 st2 dn2 h2 => k _ _ _ _ _ (s1.trans s2) st2 ((l.mono s2.ex).append dn2) h2⟩⟩⟩
def wTup (Wr : WA) : WE := fun ρ M Φ => Wr ρ M fun ds M1 => ds.length ≤ sizeLine ∧ Φ (.tup ds) M1
def wLst (Wr : WA) : WE := fun ρ M Φ => Wr ρ M fun ds M1 => ds.length ≤ sizeLine ∧ newL ds M1 Φ
theorem de_tup {x1 : Nat} (ha : DA cl X es Wr) : DE cl X (.Tuple es x1 pos) (wTup Wr) := PE.imp (pe_tup ha) fun σ H Q ⟨G, ρ, M, Φ, st, h, k⟩ =>
  ⟨G, ρ, M, _, st, h, fun ds xs M1 G1 H1 s1 st1 dn1 h1 => ⟨by rw [dn1.length]; exact h1.1, fun p hp => (k.pre s1).newT st1 dn1 h1.2 hp⟩⟩
theorem de_lst (ha : DA cl X es Wr) : DE cl X (.List es pos) (wLst Wr) := PE.imp (pe_lst ha) fun σ H Q ⟨G, ρ, M, Φ, st, h, k⟩ =>
  ⟨G, ρ, M, _, st, h, fun ds xs M1 G1 H1 s1 st1 dn1 h1 => ⟨by rw [dn1.length]; exact h1.1, fun p hp => (k.pre s1).newL st1 dn1 h1.2 hp⟩⟩
end
end DL
set_option maxRecDepth 100000
set_option maxHeartbeats 2000000
/-! D layer, part D: operations, subscripts, slices, built-ins. -/
namespace DL
open PySem PySem.Spec PyProof.Rows L2 SlX
section
variable {cl : Nat → Addr} {X : Cx}

theorem OpD.or {r r' : R2} {o o' : DO2} (h : OpD cl r o) (h' : OpD cl r' o') : OpD cl (fun x y H Q => r x y H Q ∨ r' x y H Q) (fun a b M Φ => o a b M Φ ∨ o' a b M Φ) :=
  fun G H ρ M σ d1 d2 x y Φ Q st n1 n2 w k => w.elim (fun w => .inl (h _ _ _ _ _ _ _ _ _ _ _ st n1 n2 w k)) fun w => .inr (h' _ _ _ _ _ _ _ _ _ _ _ st n1 n2 w k)
/-- ints to a scalar -/
def oI (C : Int → Int → Prop) (g : Int → Int → V) : DO2 := fun a b M Φ => ∃ i j, a = .v (.int i) ∧ b = .v (.int j) ∧ C i j ∧ Φ (.v (g i j)) M
theorem od_I {C : Int → Int → Prop} {g : Int → Int → V} : OpD cl (rI C g) (oI C g) := fun G H ρ M σ d1 d2 x y Φ Q st n1 n2 ⟨i, j, e1, e2, c, h⟩ k => by
  subst e1 e2; exact ⟨i, j, den_v.mp n1, den_v.mp n2, c, k.v st h⟩
def oI0 (g : Int → Int → V) : DO2 := fun a b M Φ => ∃ i j, a = .v (.int i) ∧ b = .v (.int j) ∧ Φ (.v (g i j)) M
theorem od_I0 {g : Int → Int → V} : OpD cl (rI0 g) (oI0 g) := fun G H ρ M σ d1 d2 x y Φ Q st n1 n2 ⟨i, j, e1, e2, h⟩ k => by
  subst e1 e2; exact ⟨i, j, den_v.mp n1, den_v.mp n2, k.v st h⟩
/-! ### + -/
abbrev rAddS : R2 := fun x y H Q => ∃ i j, x = .str i ∧ y = .str j ∧ i.length + j.length ≤ sizeLine ∧ Q (.str (i ++ j)) H
abbrev rAddG (K : PySem.W.Frag) : R2 := fun x y H Q => rI0 (fun i j => .int (i + j)) x y H Q ∨ rAddS x y H Q ∨ rCat x y H Q ∨ rCatA K x y H Q
theorem op_addG : OpR X (binaryOp .Add) (rAddG X.K) := OpR.or op_add (OpR.or op_add_str (OpR.or op_cat op_catA))
/-- a + b -/
inductive OAdd : Dat → Dat → Mem → (Dat → Mem → Prop) → Prop
  | int {i j M Φ} : Φ (.v (.int (i + j))) M → OAdd (.v (.int i)) (.v (.int j)) M Φ
  | str {i j : Str} {M Φ} : i.length + j.length ≤ sizeLine → Φ (.v (.str (i ++ j))) M → OAdd (.v (.str i)) (.v (.str j)) M Φ
  | lst {a b as bs M} {Φ : Dat → Mem → Prop} : lstV M a = some as → lstV M b = some bs → as.length + bs.length ≤ sizeLine → newL (as ++ bs) M Φ → OAdd a b M Φ
  | tup {as bs M Φ} : as.length + bs.length ≤ sizeLine → Φ (.tup (as ++ bs)) M → OAdd (.tup as) (.tup bs) M Φ
theorem od_add {K : PySem.W.Frag} : OpD cl (rAddG K) OAdd := fun G H ρ M σ d1 d2 x y Φ Q st n1 n2 w k => by
  cases w with
  | int h => exact .inl ⟨_, _, den_v.mp n1, den_v.mp n2, k.v st h⟩
  | str h1 h => exact .inr (.inl ⟨_, _, den_v.mp n1, den_v.mp n2, h1, k.v st h⟩)
  | lst h1 h2 h3 h =>
    obtain ⟨p, xs, rfl, hp, l1⟩ := st.lstV n1 h1
    obtain ⟨q, ys, rfl, hq, l2⟩ := st.lstV n2 h2
    exact .inr (.inr (.inl ⟨p, q, xs, ys, rfl, rfl, hp, hq, by rw [l1.length, l2.length]; exact h3, fun l hl => k.newL st (l1.append l2) h hl⟩))
  | tup h1 h =>
    obtain ⟨p, xs, rfl, hp, l1⟩ := den_tup.mp n1
    obtain ⟨q, ys, rfl, hq, l2⟩ := den_tup.mp n2
    refine .inr (.inr (.inr ⟨p, q, xs, ys, rfl, rfl, SqT.of (st.rd hp), SqT.of (st.rd hq), by rw [l1.length, l2.length]; exact h1, fun e => ?_, fun _ e => ?_, fun _ _ l hl => k.newT st (l1.append l2) h hl⟩))
    · subst e
      have := l1.length
      have e2 := List.length_eq_zero_iff.mp this.symm
      subst e2
      rw [List.nil_append] at h
      exact k.val st n2 h
    · subst e
      have := l2.length
      have e2 := List.length_eq_zero_iff.mp this.symm
      subst e2
      rw [List.append_nil] at h
      exact k.val st n1 h
theorem OAdd.l {as bs : List Dat} {M : Mem} {Φ : Dat → Mem → Prop} (h : as.length + bs.length ≤ sizeLine) (q : Φ (.lst (as ++ bs)) M) : OAdd (.lst as) (.lst bs) M Φ := .lst rfl rfl h (.inl q)
/-! ### -, *, //, %, **, <<, ^ -/
theorem od_sub : OpD cl (rI0 fun i j => .int (i - j)) (oI0 fun i j => .int (i - j)) := od_I0
abbrev rMulG : R2 := fun x y H Q => rI CMulW (fun i j => .int (i * j)) x y H Q ∨ rRep x y H Q
theorem op_mulG : OpR X (binaryOp .Mult) rMulG := OpR.or op_mulW op_rep
inductive OMul : Dat → Dat → Mem → (Dat → Mem → Prop) → Prop
  | int {i j M Φ} : CMulW i j → Φ (.v (.int (i * j))) M → OMul (.v (.int i)) (.v (.int j)) M Φ
  | rep {a as k M} {Φ : Dat → Mem → Prop} : lstV M a = some as → 0 ≤ k → k < 2 ^ 63 → as.length * k.toNat ≤ sizeLine → newL (List.replicate k.toNat as).flatten M Φ → OMul a (.v (.int k)) M Φ
theorem denL_rep {G : Hp} {ds : List Dat} {xs : List V} (h : DenL cl G ds xs) : ∀ n : Nat, DenL cl G (List.replicate n ds).flatten (List.replicate n xs).flatten
  | 0 => denL_nil.mpr rfl
  | n + 1 => by rw [List.replicate_succ, List.replicate_succ, List.flatten_cons, List.flatten_cons]; exact h.append (denL_rep h n)
theorem od_mul : OpD cl rMulG OMul := fun G H ρ M σ d1 d2 x y Φ Q st n1 n2 w k => by
  cases w with
  | int c h => exact .inl ⟨_, _, den_v.mp n1, den_v.mp n2, c, k.v st h⟩
  | rep h1 h2 h3 h4 h =>
    obtain ⟨p, xs, rfl, hp, l1⟩ := st.lstV n1 h1
    refine .inr ⟨p, _, xs, rfl, den_v.mp n2, hp, by omega, h3, by rw [l1.length]; exact h4, fun l hl => ?_⟩
    exact k.newL st (denL_rep l1 _) h hl
/-! ### comparisons -/
theorem od_lt : OpD cl (rI0 fun i j => .bl (decide (i < j))) (oI0 fun i j => .bl (decide (i < j))) := od_I0
theorem od_le : OpD cl (rI0 fun i j => .bl (decide (i ≤ j))) (oI0 fun i j => .bl (decide (i ≤ j))) := od_I0
theorem od_gt : OpD cl (rI0 fun i j => .bl (decide (j < i))) (oI0 fun i j => .bl (decide (j < i))) := od_I0
theorem od_ge : OpD cl (rI0 fun i j => .bl (decide (j ≤ i))) (oI0 fun i j => .bl (decide (j ≤ i))) := od_I0
theorem den_non {G : Hp} {d : Dat} (n : Den cl G d .non) : d = .v .non := by
  cases d with
  | v y => rw [← den_v.mp n]
  | lst _ => obtain ⟨p, xs, e, _⟩ := den_lst.mp n; cases e
  | tup _ => obtain ⟨p, xs, e, _⟩ := den_tup.mp n; cases e
  | dic _ _ => obtain ⟨p, xs, e, _⟩ := den_dic.mp n; cases e
  | obj _ _ => obtain ⟨p, _, xs, e, _⟩ := den_obj.mp n; cases e
  | unset => exact (den_unset n).elim
  | ext _ => obtain ⟨p, _, _, e, _⟩ := den_ext.mp n; cases e
def isNon : Dat → Bool
  | .v .non => true
  | _ => false
theorem isNon_eq {d : Dat} : isNon d = true ↔ d = .v .non := by
  constructor <;> intro h
  · unfold isNon at h; split at h
    · rfl
    · cases h
  · subst h; rfl
def oIs : DO2 := fun a b M Φ => b = .v .non ∧ Φ (.v (.bl (isNon a))) M
def oIsnt : DO2 := fun a b M Φ => b = .v .non ∧ Φ (.v (.bl (!isNon a))) M
theorem dec_non {G : Hp} {d : Dat} {x : V} (n : Den cl G d x) : decide (x = .non) = isNon d := by
  by_cases h : x = .non
  · subst h; rw [den_non n]; rfl
  · rw [decide_eq_false h]
    cases q : isNon d with
    | false => rfl
    | true => rw [isNon_eq.mp q] at n; exact (h (den_v.mp n)).elim
theorem od_is : OpD cl (fun x y H Q => y = .non ∧ Q (.bl (decide (x = .non))) H) oIs := fun G H ρ M σ d1 d2 x y Φ Q st n1 n2 w k => by
  obtain ⟨e, h⟩ := w
  subst e
  refine ⟨den_v.mp n2, ?_⟩
  rw [dec_non n1]; exact k.v st h
theorem od_isnt : OpD cl (fun x y H Q => y = .non ∧ Q (.bl (!decide (x = .non))) H) oIsnt := fun G H ρ M σ d1 d2 x y Φ Q st n1 n2 w k => by
  obtain ⟨e, h⟩ := w
  subst e
  refine ⟨den_v.mp n2, ?_⟩
  rw [dec_non n1]; exact k.v st h
/-! plain data -/
mutual
def pdF : Dat → Option PyData
  | .v .non => some .none
  | .v (.bl b) => some (.bool b)
  | .v (.int i) => some (.int i)
  | .v (.str x) => some (.str x)
  | .lst ds => (pdFs ds).map .list
  | .tup ds => (pdFs ds).map .tuple
  | _ => none
def pdFs : List Dat → Option (List PyData)
  | [] => some []
  | d :: ds => match pdF d, pdFs ds with
    | some e, some es => some (e :: es)
    | _, _ => none
end
def pdM (M : Mem) : Dat → Option PyData
  | .v (.ref p) => match M p with
    | some (.lst ds) => (pdFs ds).map .list
    | _ => none
  | d => pdF d
mutual
theorem pdF_dp {K : PySem.W.Frag} {G H : Hp} (ex : Exh G H) : ∀ {d : Dat} {x : V} {e : PyData}, Den cl G d x → pdF d = some e → Dp K H x e
  | .v y, x, e, n, h => by
    have := den_v.mp n; subst this
    cases x with
    | non => unfold pdF at h; cases h; exact .non
    | bl b => unfold pdF at h; cases h; exact .bl b
    | int b => unfold pdF at h; cases h; exact .int b
    | str b => unfold pdF at h; cases h; exact .str b
    | _ => unfold pdF at h; cases h
  | .lst ds, x, e, n, h => by
    unfold pdF at h
    obtain ⟨p, xs, rfl, hp, l⟩ := den_lst.mp n
    cases q : pdFs ds with
    | none => rw [q] at h; cases h
    | some es => rw [q] at h; cases h; exact .lst (SqL.of (ex _ _ hp)) (pdFs_dp ex l q)
  | .tup ds, x, e, n, h => by
    unfold pdF at h
    obtain ⟨p, xs, rfl, hp, l⟩ := den_tup.mp n
    cases q : pdFs ds with
    | none => rw [q] at h; cases h
    | some es => rw [q] at h; cases h; exact .tup (SqT.of (ex _ _ hp)) (pdFs_dp ex l q)
  | .dic _ _, _, _, _, h => by unfold pdF at h; cases h
  | .obj _ _, _, _, _, h => by unfold pdF at h; cases h
  | .unset, _, _, _, h => by unfold pdF at h; cases h
  | .ext _, _, _, _, h => by unfold pdF at h; cases h
theorem pdFs_dp {K : PySem.W.Frag} {G H : Hp} (ex : Exh G H) : ∀ {ds : List Dat} {xs : List V} {es : List PyData}, DenL cl G ds xs → pdFs ds = some es → DpAll K H xs es
  | [], _, _, l, h => by
    rw [denL_nil.mp l]; unfold pdFs at h; cases h; exact .nil
  | d :: ds, _, _, l, h => by
    obtain ⟨y, ys, rfl, n, l⟩ := denL_cons.mp l
    unfold pdFs at h
    cases q : pdF d with
    | none => rw [q] at h; cases h
    | some e =>
      rw [q] at h
      cases q2 : pdFs ds with
      | none => rw [q2] at h; cases h
      | some es => rw [q2] at h; cases h; exact .cons (pdF_dp ex n q) (pdFs_dp ex l q2)
end
theorem pdM_dp {K : PySem.W.Frag} {G H : Hp} {ρ : Env} {M : Mem} {σ : L2.St} (st : StOk cl G H ρ M σ) {d : Dat} {x : V} {e : PyData} (n : Den cl G d x) (h : pdM M d = some e) : Dp K H x e := by
  cases d with
  | v y =>
    cases y with
    | ref p =>
      change (match M p with | some (.lst ds) => (pdFs ds).map PyData.list | _ => none) = some e at h
      have := den_v.mp n; subst this
      split at h
      · rename_i ds q
        obtain ⟨xs, hp, l⟩ := (st.mem p _ q).2
        cases q2 : pdFs ds with
        | none => rw [q2] at h; cases h
        | some es => rw [q2] at h; cases h; exact .lst (SqL.of hp) (pdFs_dp st.ex l q2)
      · cases h
    | _ => exact pdF_dp st.ex n h
  | _ => exact pdF_dp st.ex n h
def oEq : DO2 := fun a b M Φ => ∃ d e, pdM M a = some d ∧ pdM M b = some e ∧ SeqAt.shaped d = true ∧ SeqAt.shaped e = true ∧ Φ (.v (.bl (PyData.eqv d e))) M
def oNe : DO2 := fun a b M Φ => ∃ d e, pdM M a = some d ∧ pdM M b = some e ∧ SeqAt.shaped d = true ∧ SeqAt.shaped e = true ∧ Φ (.v (.bl (!PyData.eqv d e))) M
theorem od_eq {K : PySem.W.Frag} : OpD cl (rEqD K) oEq := fun G H ρ M σ d1 d2 x y Φ Q st n1 n2 ⟨d, e, h1, h2, s1, s2, h⟩ k => ⟨d, e, pdM_dp st n1 h1, pdM_dp st n2 h2, s1, s2, k.v st h⟩
theorem od_ne {K : PySem.W.Frag} : OpD cl (rNeD K) oNe := fun G H ρ M σ d1 d2 x y Φ Q st n1 n2 ⟨d, e, h1, h2, s1, s2, h⟩ k => ⟨d, e, pdM_dp st n1 h1, pdM_dp st n2 h2, s1, s2, k.v st h⟩
/-- x in xs: flat things in a list or tuple of flat things; one sign in a text -/
abbrev rInSign (neg : Bool) : R2 := fun x y H Q => ∃ (c : Nat) (z : Str), x = .str ⟨#[c]⟩ ∧ y = .str z ∧ Q (.bl (if neg then !decide (c ∈ z.cps.toList) else decide (c ∈ z.cps.toList))) H
abbrev rInG (K : PySem.W.Frag) (neg : Bool) : R2 := fun x y H Q => rIn K neg x y H Q ∨ rInSign neg x y H Q
theorem op_inG : OpR X (compareOp .In) (rInG X.K false) := OpR.or op_in_seq op_in_sign
theorem op_ninG : OpR X (compareOp .NotIn) (rInG X.K true) := OpR.or op_notIn_seq op_notIn_sign
inductive OIn (neg : Bool) : Dat → Dat → Mem → (Dat → Mem → Prop) → Prop
  | seq {x b} {ys : List V} {M Φ} : seqV M b = some (ys.map .v) → flatV x = true → ys.all flatV = true → Φ (.v (.bl (if neg then !inV x ys else inV x ys))) M → OIn neg (.v x) b M Φ
  | sign {c : Nat} {z : Str} {M Φ} : Φ (.v (.bl (if neg then !decide (c ∈ z.cps.toList) else decide (c ∈ z.cps.toList)))) M → OIn neg (.v (.str ⟨#[c]⟩)) (.v (.str z)) M Φ
theorem od_in {K : PySem.W.Frag} {neg : Bool} : OpD cl (rInG K neg) (OIn neg) := fun G H ρ M σ d1 d2 x y Φ Q st n1 n2 w k => by
  cases w with
  | seq h1 h2 h3 h =>
    obtain ⟨p, xs, rfl, hp, l⟩ := st.seqV n2 h1
    have := DenL.of_vs l
    subst this
    have := den_v.mp n1
    subst this
    exact .inl ⟨p, _, rfl, sq_or hp, h2, h3, k.v st h⟩
  | sign h => exact .inr ⟨_, _, den_v.mp n1, den_v.mp n2, k.v st h⟩
end
end DL
set_option maxRecDepth 100000
set_option maxHeartbeats 2000000
/-! D layer, part F: subscripts, slices, dicts, built-ins, methods. -/
namespace DL
open PySem PySem.Spec PyProof.Rows L2 SlX
/-! ### dicts by lists of keys and of values -/
def dget : List Key → List Dat → Key → Option Dat
  | k :: ks, d :: ds, x => if k = x then some d else dget ks ds x
  | _, _, _ => none
def dputD : List Key → List Dat → Key → Dat → List Dat
  | k :: ks, d :: ds, x, y => (if k = x then y else d) :: dputD ks ds x y
  | _, ds, _, _ => ds
def hasK (ks : List Key) (x : Key) : Bool := ks.any fun q => decide (q = x)
def dputK (ks : List Key) (x : Key) : List Key := if hasK ks x = true then ks else ks ++ [x]
def dputV (ks : List Key) (ds : List Dat) (x : Key) (y : Dat) : List Dat := if hasK ks x = true then dputD ks ds x y else ds ++ [y]
def keyD : Dat → Option Key
  | .v (.int i) => some (.inl i)
  | .v (.str s) => some (.inr s)
  | _ => none
section
variable {cl : Nat → Addr} {G : Hp}
theorem keyD_kV {d : Dat} {x : V} {k : Key} (h : keyD d = some k) (n : Den cl G d x) : x = kV k := by
  cases d with
  | v y =>
    have := den_v.mp n
    cases y <;> first | (cases h; exact this) | (cases h)
  | _ => cases h
theorem dget_at : ∀ {ws : List (Key × V)} {ds : List Dat} {k : Key}, DenL cl G ds (ws.map (·.2)) → (∀ d, dget (ws.map (·.1)) ds k = some d → ∃ v, valV ws k = some v ∧ Den cl G d v) ∧ (dget (ws.map (·.1)) ds k = none → valV ws k = none)
  | [], ds, k, l => ⟨fun d h => by simp [dget] at h, fun _ => rfl⟩
  | (k0, v0) :: ws, [], k, l => by
    have := l.length
    simp at this
  | (k0, v0) :: ws, d0 :: ds, k, l => by
    obtain ⟨y, ys, e, n, l⟩ := denL_cons.mp l
    cases e
    obtain ⟨i1, i2⟩ := dget_at (k := k) l
    by_cases hk : k0 = k
    · rw [valV_pos hk]
      refine ⟨fun d h => ?_, fun h => ?_⟩
      · have : d0 = d := by simpa [dget, hk] using h
        subst this
        exact ⟨v0, rfl, n⟩
      · simp [dget, hk] at h
    · rw [valV_neg hk]
      refine ⟨fun d h => i1 d ?_, fun h => i2 ?_⟩
      · simpa [dget, hk] using h
      · simpa [dget, hk] using h
theorem dput_at : ∀ {ws : List (Key × V)} {ds : List Dat} {k : Key} {d : Dat} {v : V}, DenL cl G ds (ws.map (·.2)) → Den cl G d v → (putK ws k v).map (·.1) = dputK (ws.map (·.1)) k ∧ DenL cl G (dputV (ws.map (·.1)) ds k d) ((putK ws k v).map (·.2)) := by
  intro ws ds k d v l n
  have e1 : (ws.any fun kv => decide (kv.1 = k)) = hasK (ws.map (·.1)) k := by
    unfold hasK
    rw [List.any_map]
    rfl
  unfold putK dputK dputV
  rw [e1]
  by_cases h : hasK (ws.map (·.1)) k = true
  · rw [if_pos h, if_pos h, if_pos h]
    have key : ∀ {ws : List (Key × V)} {ds : List Dat}, DenL cl G ds (ws.map (·.2)) → (ws.map fun kv => if kv.1 = k then (kv.1, v) else kv).map (·.1) = ws.map (·.1) ∧ DenL cl G (dputD (ws.map (·.1)) ds k d) ((ws.map fun kv => if kv.1 = k then (kv.1, v) else kv).map (·.2)) := by
      intro ws
      induction ws with
      | nil => intro ds l; exact ⟨rfl, by cases ds <;> exact l⟩
      | cons kv ws ih =>
        intro ds l
        cases ds with
        | nil => have := l.length; simp at this
        | cons d0 ds =>
          obtain ⟨y, ys, e, n0, l⟩ := denL_cons.mp l
          cases e
          obtain ⟨j1, j2⟩ := ih l
          refine ⟨?_, ?_⟩
          · rw [List.map_cons, List.map_cons, List.map_cons, j1]
            congr 1
            split <;> rfl
          · rw [List.map_cons, List.map_cons, List.map_cons]
            refine denL_cons.mpr ⟨_, _, rfl, ?_, j2⟩
            by_cases q : kv.1 = k
            · rw [if_pos q, if_pos q]; exact n
            · rw [if_neg q, if_neg q]; exact n0
    exact key l
  · rw [if_neg h, if_neg h, if_neg h]
    rw [List.map_append, List.map_append]
    exact ⟨rfl, l.append (.one n)⟩
end
section
variable {cl : Nat → Addr} {X : Cx}
/-! ### a[i] -/
abbrev rDGet : R2 := fun x y H Q => ∃ a v, x = .ref a ∧ DGet H a y (some v) ∧ Q v H
theorem ix_dict (hu : X.A.units + 1 < cLine) : IxR X rDGet := by
  intro value slice pins s σ H x y v u Q I rx ry h hs
  obtain ⟨a, w, rfl, g, q⟩ := h
  cases rx
  exact tail_any (dict_typeIs I g) PySem.F.slot_dict_getitem.lookup (d_getItem hu I g ry fun w' s3 I3 rw' => ⟨w, H, I3, rw', q⟩) hs
abbrev rIxG (K : PySem.W.Frag) : R2 := fun x y H Q => rIx K x y H Q ∨ rDGet x y H Q
inductive OIx : Dat → Dat → Mem → (Dat → Mem → Prop) → Prop
  | seq {a ds i d M} {Φ : Dat → Mem → Prop} : seqV M a = some ds → atI ds i = some d → Φ d M → OIx a (.v (.int i)) M Φ
  | str {z : Str} {i c M} {Φ : Dat → Mem → Prop} : z.length ≤ sizeLine → atI z.cps.toList i = some c → Φ (.v (.str ⟨#[c]⟩)) M → OIx (.v (.str z)) (.v (.int i)) M Φ
  | dic {a ks ds b k d M} {Φ : Dat → Mem → Prop} : dicV M a = some (ks, ds) → keyD b = some k → dget ks ds k = some d → Φ d M → OIx a b M Φ
theorem ixN_len {n m : Nat} {i : Int} (h : n = m) : ixN n i = ixN m i := by rw [h]
theorem atI_den {G : Hp} {ds : List Dat} {xs : List V} {i : Int} {d : Dat} (l : DenL cl G ds xs) (h : atI ds i = some d) : ∃ x, atI xs i = some x ∧ Den cl G d x := by
  unfold atI at h ⊢
  rw [l.length]
  cases q : ixN ds.length i with
  | none => rw [q] at h; cases h
  | some j => rw [q] at h; exact l.get h
theorem od_ix {K : PySem.W.Frag} : OpD cl (rIxG K) OIx := fun G H ρ M σ d1 d2 x y Φ Q st n1 n2 w k => by
  cases w with
  | seq h1 h2 h =>
    obtain ⟨p, xs, rfl, hp, l⟩ := st.seqV n1 h1
    obtain ⟨z, hz, n⟩ := atI_den l h2
    have := den_v.mp n2
    subst this
    rcases hp with hp | hp
    · exact .inl (.inl ⟨p, xs, _, z, rfl, rfl, SqL.of hp, hz, k.val st (by
        exact n) h⟩)
    · exact .inl (.inr (.inl ⟨p, xs, _, z, rfl, rfl, SqT.of hp, hz, k.val st n h⟩))
  | str h1 h2 h => exact .inl (.inr (.inr ⟨_, _, _, den_v.mp n1, den_v.mp n2, h1, h2, k.v st h⟩))
  | dic h1 h2 h3 h =>
    obtain ⟨p, ws, rfl, hp, hk, l⟩ := st.dicV n1 h1
    subst hk
    obtain ⟨v, hv, n⟩ := (dget_at l).1 _ h3
    have e := keyD_kV h2 n2
    subst e
    exact .inr ⟨p, v, rfl, by rw [← hv]; exact DGet.k hp, k.val st n h⟩
theorem de_ix {a b : Expr} {Wa Wb : WE} {pos : Pos} (hu : X.A.units + 1 < cLine) (ha : DE cl X a Wa) (hb : DE cl X b Wb) (hs : PlainIx b := by exact fun _ _ => rfl) : DE cl X (.Subscript a b pos) (wOp OIx Wa Wb) :=
  PE.imp (pe_ix (IxR.or ix_seq (ix_dict hu)) ha hb hs) (lift_op od_ix)
/-! ### in, with dicts -/
abbrev rDIn (neg : Bool) : R2 := fun y x H Q => ∃ a o, x = .ref a ∧ DGet H a y o ∧ Q (.bl (if neg then !o.isSome else o.isSome)) H
theorem op_din (hu : X.A.units + 1 < cLine) : OpR X (compareOp .In) (rDIn false) := fun pins s σ H y x v u Q I ry rx ⟨a, o, e, g, q⟩ => by
  subst e; cases rx
  exact d_in hu I g ry fun s3 I3 => ⟨.bl o.isSome, H, I3, rfl, q⟩
theorem op_dnin (hu : X.A.units + 1 < cLine) : OpR X (compareOp .NotIn) (rDIn true) := fun pins s σ H y x v u Q I ry rx ⟨a, o, e, g, q⟩ => by
  subst e; cases rx
  exact d_notIn hu I g ry fun s3 I3 => ⟨.bl (!o.isSome), H, I3, rfl, q⟩
def oDIn (neg : Bool) : DO2 := fun b a M Φ => ∃ ks ds k, dicV M a = some (ks, ds) ∧ keyD b = some k ∧ Φ (.v (.bl (if neg then !(dget ks ds k).isSome else (dget ks ds k).isSome))) M
theorem od_din {neg : Bool} : OpD cl (rDIn neg) (oDIn neg) := fun G H ρ M σ d1 d2 x y Φ Q st n1 n2 ⟨ks, ds, kk, h1, h2, h⟩ k => by
  obtain ⟨p, ws, rfl, hp, hk, l⟩ := st.dicV n2 h1
  subst hk
  have e := keyD_kV h2 n1
  subst e
  refine ⟨p, valV ws kk, rfl, DGet.k hp, ?_⟩
  have : (valV ws kk).isSome = (dget (ws.map (·.1)) ds kk).isSome := by
    obtain ⟨i1, i2⟩ := dget_at (k := kk) l
    cases q : dget (ws.map (·.1)) ds kk with
    | none => rw [i2 q] <;> rfl
    | some d => obtain ⟨v, hv, _⟩ := i1 d q; rw [hv] <;> rfl
  rw [this]
  exact k.v st h
abbrev rInA (K : PySem.W.Frag) (neg : Bool) : R2 := fun x y H Q => rInG K neg x y H Q ∨ rDIn neg x y H Q
abbrev oInA (neg : Bool) : DO2 := fun x y M Φ => OIn neg x y M Φ ∨ oDIn neg x y M Φ
theorem op_inA (hu : X.A.units + 1 < cLine) : OpR X (compareOp .In) (rInA X.K false) := OpR.or op_inG (op_din hu)
theorem op_ninA (hu : X.A.units + 1 < cLine) : OpR X (compareOp .NotIn) (rInA X.K true) := OpR.or op_ninG (op_dnin hu)
theorem od_inA {K : PySem.W.Frag} {neg : Bool} : OpD cl (rInA K neg) (oInA neg) := od_in.or od_din
/-! ### slices -/
def wNoP : WO := fun _ M Φ => Φ none M
def wPart (W : WE) : WO := fun ρ M Φ => W ρ M fun d M1 => ∃ i, d = .v (.int i) ∧ Φ (some i) M1
theorem do_none : DOpt cl X none wNoP := ⟨fun pins s σ H Q I ⟨G, ρ, M, Φ, st, h, k⟩ => po_none.run pins s σ H Q I (k _ _ _ _ .refl st h)⟩
theorem do_some {e : Expr} {W : WE} (h : DE cl X e W) : DOpt cl X (some e) (wPart W) := ⟨fun pins s σ H Q I ⟨G, ρ, M, Φ, st, h', k⟩ => (po_some h).run pins s σ H Q I ⟨G, ρ, M, _, st, h', fun d x M1 G1 H1 s1 st1 dn h1 => by
  obtain ⟨i, e, h1⟩ := h1
  subst e
  exact ⟨i, den_v.mp dn, k _ _ _ _ s1 st1 h1⟩⟩⟩
def cutD (ds : List Dat) (lo hi : Option Int) : List Dat := (ds.drop (HT.sIx ds.length 0 lo)).take (HT.sIx ds.length ds.length hi - HT.sIx ds.length 0 lo)
theorem cut_den {G : Hp} {ds : List Dat} {xs : List V} {lo hi : Option Int} (l : DenL cl G ds xs) : DenL cl G (cutD ds lo hi) (cutV xs lo hi) := by
  unfold cutD cutV
  rw [l.length]
  exact (l.drop _).take _
inductive OSl : Dat → Option Int → Option Int → Mem → (Dat → Mem → Prop) → Prop
  | lst {a ds lo hi M} {Φ : Dat → Mem → Prop} : lstV M a = some ds → newL (cutD ds lo hi) M Φ → OSl a lo hi M Φ
  | tup {ds lo hi M} {Φ : Dat → Mem → Prop} : Φ (.tup (cutD ds lo hi)) M → OSl (.tup ds) lo hi M Φ
  | str {z : Str} {lo hi M} {Φ : Dat → Mem → Prop} : z.length ≤ sizeLine → Φ (.v (.str (cutS z lo hi))) M → OSl (.v (.str z)) lo hi M Φ
abbrev rSlG (K : PySem.W.Frag) : V → Option Int → Option Int → Hp → VK → Prop := fun x lo hi H Q => rSlL K x lo hi H Q ∨ rSlA K x lo hi H Q ∨ rSlS x lo hi H Q
def wSl (Wa : WE) (Wl Wh : WO) : WE := fun ρ M Φ => Wa ρ M fun d M1 => Wl ρ M1 fun lo M2 => Wh ρ M2 fun hi M3 => OSl d lo hi M3 Φ
theorem cutD_all {ds : List Dat} {lo hi : Option Int} (h : HT.sIx ds.length 0 lo = 0 ∧ HT.sIx ds.length ds.length hi = ds.length) : cutD ds lo hi = ds := by
  unfold cutD
  rw [h.1, h.2, List.drop_zero, Nat.sub_zero, List.take_length]
theorem de_sl {a : Expr} {lo hi : Option Expr} {Wa : WE} {Wl Wh : WO} {p2 pos : Pos} (ha : DE cl X a Wa) (hl : DOpt cl X lo Wl) (hh : DOpt cl X hi Wh) : DE cl X (.Subscript a (.Slice lo hi none p2) pos) (wSl Wa Wl Wh) :=
  PE.imp (pe_slice (SlR.or sl_list (SlR.or sl_tupA sl_str)) ha hl hh) fun σ H Q ⟨G, ρ, M, Φ, st, h, k⟩ =>
    ⟨G, ρ, M, _, st, h, fun d x M1 G1 H1 s1 st1 dn1 h1 => ⟨G1, ρ, M1, _, st1, h1, fun lo M2 G2 H2 s2 st2 h2 => ⟨G2, ρ, M2, _, st2, h2, fun hi M3 G3 H3 s3 st3 h3 => by
      have k3 := k.pre ((s1.trans s2).trans s3)
      have dn3 := dn1.mono (s2.trans s3).ex
      cases h3 with
      | lst e h =>
        obtain ⟨p, xs, rfl, hp, l⟩ := st3.lstV dn3 e
        exact .inl ⟨p, xs, rfl, SqL.of hp, fun q hq => k3.newL st3 (cut_den l) h hq⟩
      | tup h =>
        obtain ⟨p, xs, rfl, hp, l⟩ := den_tup.mp dn3
        refine .inr (.inl ⟨p, xs, rfl, SqT.of (st3.rd hp), fun e => ?_, fun _ q hq => k3.newT st3 (cut_den l) h hq⟩)
        rw [l.length] at e
        rw [cutD_all e] at h
        exact k3.val st3 dn3 h
      | str e h => exact .inr (.inr ⟨_, den_v.mp dn3, e, k3.v st3 h⟩)⟩⟩⟩
end
end DL
set_option maxRecDepth 100000
set_option maxHeartbeats 2000000
/-! D layer, part G: built-ins and methods. -/
namespace DL
open PySem PySem.Spec PyProof.Rows L2 SlX
theorem CallR.or {X : Cx} {f : Value} {r r' : List V → Hp → VK → Prop} (h : CallR X f r) (h' : CallR X f r') : CallR X f (fun xs H Q => r xs H Q ∨ r' xs H Q) := fun pins s σ H xs us Q I rr q => q.elim (h pins s σ H xs us Q I rr) (h' pins s σ H xs us Q I rr)
theorem MtR.or {X : Cx} {id : String} {r r' : V → List V → Hp → VK → Prop} (h : MtR X id r) (h' : MtR X id r') : MtR X id (fun x xs H Q => r x xs H Q ∨ r' x xs H Q) := fun pins s σ H x xs v us Q I r1 rr q => q.elim (h pins s σ H x xs v us Q I r1 rr) (h' pins s σ H x xs v us Q I r1 rr)
section
variable {cl : Nat → Addr} {X : Cx} {pos p : Pos} {e : Expr} {es : List Expr} {Wr : WA} {Wa : WE} {x : Str}
def wCal (o : DOs) (Wr : WA) : WE := fun ρ M Φ => Wr ρ M fun ds M1 => o ds M1 Φ
theorem lift_cal {r : List V → Hp → VK → Prop} {o : DOs} (hd : CalD cl r o) (σ : L2.St) (H : Hp) (Q : VK) (h : liftE cl (wCal o Wr) σ H Q) : tCB r (liftA cl Wr) σ H Q := by
  obtain ⟨G, ρ, M, Φ, st, h, k⟩ := h
  exact ⟨G, ρ, M, _, st, h, fun ds xs M1 G1 H1 s1 st1 dn1 h1 => hd _ _ _ _ _ _ _ _ _ st1 dn1 h1 (k.pre s1)⟩
theorem de_callB {id : String} {r : List V → Hp → VK → Prop} {o : DOs} (hc : CallR X (.builtin id) r) (hd : CalD cl r o) (hv : bootBuiltins x = some (.builtin id)) (hm : X.mg x = none) (ha : DA cl X (e :: es) Wr) (hg : Gl X x := by rfl) (hn : x ≠ "__name__" := by decide) (hdb : (x == ("__debug__" : Str)) = false := by decide)
    (he : starEach (e :: es) X.env = (false, eval e X.env) :: starEach es X.env := by rfl) (hpl : (backTo pos (starEach es X.env)).any (·.1) = false := by rfl) : DE cl X (.Call (.Name x p) (e :: es) [] pos) (wCal o Wr) := PE.imp (pe_callB hc hg hm hv ha hn hdb he hpl) (lift_cal hd)
theorem de_callTy {T : String} {r : List V → Hp → VK → Prop} {o : DOs} (hc : CallR X (.type T) r) (hd : CalD cl r o) (hv : bootBuiltins x = some (.type T)) (hm : X.mg x = none) (ha : DA cl X (e :: es) Wr) (hg : Gl X x := by rfl) (hn : x ≠ "__name__" := by decide) (hdb : (x == ("__debug__" : Str)) = false := by decide)
    (he : starEach (e :: es) X.env = (false, eval e X.env) :: starEach es X.env := by rfl) (hpl : (backTo pos (starEach es X.env)).any (·.1) = false := by rfl) : DE cl X (.Call (.Name x p) (e :: es) [] pos) (wCal o Wr) := PE.imp (pe_callTy hc hg hm hv ha hn hdb he hpl) (lift_cal hd)
theorem CalD.or {r r' : List V → Hp → VK → Prop} {o o' : DOs} (h : CalD cl r o) (h' : CalD cl r' o') : CalD cl (fun xs H Q => r xs H Q ∨ r' xs H Q) (fun ds M Φ => o ds M Φ ∨ o' ds M Φ) :=
  fun G H ρ M σ ds xs Φ Q st n w k => w.elim (fun w => .inl (h _ _ _ _ _ _ _ _ _ st n w k)) fun w => .inr (h' _ _ _ _ _ _ _ _ _ st n w k)
theorem denL_1 {G : Hp} {d : Dat} {xs : List V} (l : DenL cl G [d] xs) : ∃ x, xs = [x] ∧ Den cl G d x := by
  obtain ⟨y, ys, rfl, n, l⟩ := denL_cons.mp l
  rw [denL_nil.mp l]
  exact ⟨y, rfl, n⟩
theorem denL_2 {G : Hp} {d e : Dat} {xs : List V} (l : DenL cl G [d, e] xs) : ∃ x y, xs = [x, y] ∧ Den cl G d x ∧ Den cl G e y := by
  obtain ⟨y, ys, rfl, n, l⟩ := denL_cons.mp l
  obtain ⟨x, rfl, m⟩ := denL_1 l
  exact ⟨y, x, rfl, n, m⟩
theorem denL_0 {G : Hp} {xs : List V} (l : DenL cl G [] xs) : xs = [] := denL_nil.mp l
theorem seqV_lst {M : Mem} {d : Dat} (h : ∀ fs, d ≠ .tup fs) : seqV M d = lstV M d := by
  cases d with
  | tup fs => exact (h fs rfl).elim
  | v x => cases x <;> rfl
  | _ => rfl
/-! ### len -/
abbrev rLenG (K : PySem.W.Frag) : List V → Hp → VK → Prop := fun xs H Q => (∃ x n, xs = [x] ∧ LenV K x H n ∧ Q (.int n) H) ∨ ∃ a kvs, xs = [V.ref a] ∧ H a = some (.dK kvs) ∧ Q (.int kvs.length) H
theorem call_lenG : CallR X (.builtin "len") (rLenG X.K) := CallR.or call_len call_lenD
inductive OLen : List Dat → Mem → (Dat → Mem → Prop) → Prop
  | seq {d ds M} {Φ : Dat → Mem → Prop} : seqV M d = some ds → Φ (.v (.int ds.length)) M → OLen [d] M Φ
  | str {z : Str} {M} {Φ : Dat → Mem → Prop} : z.length ≤ sizeLine → Φ (.v (.int z.length)) M → OLen [.v (.str z)] M Φ
  | dic {d ks ds M} {Φ : Dat → Mem → Prop} : dicV M d = some (ks, ds) → Φ (.v (.int ks.length)) M → OLen [d] M Φ
theorem cd_len {K : PySem.W.Frag} : CalD cl (rLenG K) OLen := fun G H ρ M σ ds xs Φ Q st n w k => by
  cases w with
  | seq h1 h =>
    obtain ⟨x, ex, n1⟩ := denL_1 n; clear n; subst ex; have n := n1; clear n1
    obtain ⟨p, xs, rfl, hp, l⟩ := st.seqV n h1
    refine .inl ⟨_, _, rfl, ?_, k.v st h⟩
    rcases hp with hp | hp
    · exact .inl ⟨xs, SqL.of hp, l.length.symm⟩
    · exact .inr ⟨xs, SqT.of hp, l.length.symm⟩
  | str h1 h =>
    obtain ⟨x, ex, n1⟩ := denL_1 n; clear n; subst ex; have n := n1; clear n1
    have := den_v.mp n
    subst this
    exact .inl ⟨_, _, rfl, ⟨h1, rfl⟩, k.v st h⟩
  | dic h1 h =>
    obtain ⟨x, ex, n1⟩ := denL_1 n; clear n; subst ex; have n := n1; clear n1
    obtain ⟨p, ws, rfl, hp, hk, l⟩ := st.dicV n h1
    subst hk
    exact .inr ⟨p, ws, rfl, hp, by simpa using k.v st h⟩
/-! ### all, any, sum -/
def oAll : DOs := fun ds M Φ => ∃ (d : Dat) (bs : List Bool), ds = [d] ∧ lstV M d = some (bs.map fun b => .v (.bl b)) ∧ Φ (.v (.bl (bs.all id))) M
def oAny : DOs := fun ds M Φ => ∃ (d : Dat) (bs : List Bool), ds = [d] ∧ lstV M d = some (bs.map fun b => .v (.bl b)) ∧ Φ (.v (.bl (bs.any id))) M
def oSum : DOs := fun ds M Φ => ∃ (d : Dat) (ns : List Int), ds = [d] ∧ lstV M d = some (ns.map fun n => .v (.int n)) ∧ Φ (.v (.int ns.sum)) M
theorem DenL.of_map {α : Type} {G : Hp} {f : α → V} {l : List α} {xs : List V} (h : DenL cl G (l.map fun a => .v (f a)) xs) : xs = l.map f := by
  have e : (l.map fun a => Dat.v (f a)) = (l.map f).map Dat.v := by rw [List.map_map]; rfl
  rw [e] at h
  exact DenL.of_vs h
theorem cd_all {K : PySem.W.Frag} : CalD cl (rAll K) oAll := fun G H ρ M σ ds xs Φ Q st n ⟨d, bs, e, h1, h⟩ k => by
  subst e
  obtain ⟨x, ex, n1⟩ := denL_1 n; clear n; subst ex; have n := n1; clear n1
  obtain ⟨p, xs, rfl, hp, l⟩ := st.lstV n h1
  have := DenL.of_map (f := V.bl) l
  subst this
  exact ⟨p, bs, rfl, SqL.of hp, k.v st h⟩
theorem cd_any {K : PySem.W.Frag} : CalD cl (rAny K) oAny := fun G H ρ M σ ds xs Φ Q st n ⟨d, bs, e, h1, h⟩ k => by
  subst e
  obtain ⟨x, ex, n1⟩ := denL_1 n; clear n; subst ex; have n := n1; clear n1
  obtain ⟨p, xs, rfl, hp, l⟩ := st.lstV n h1
  have := DenL.of_map (f := V.bl) l
  subst this
  exact ⟨p, bs, rfl, SqL.of hp, k.v st h⟩
theorem cd_sum {K : PySem.W.Frag} : CalD cl (rSum K) oSum := fun G H ρ M σ ds xs Φ Q st n ⟨d, bs, e, h1, h⟩ k => by
  subst e
  obtain ⟨x, ex, n1⟩ := denL_1 n; clear n; subst ex; have n := n1; clear n1
  obtain ⟨p, xs, rfl, hp, l⟩ := st.lstV n h1
  have := DenL.of_map (f := V.int) l
  subst this
  exact ⟨p, bs, rfl, SqL.of hp, k.v st h⟩
/-! ### list(..), tuple(..), int(..), abs, min, max -/
def oList : DOs := fun ds M Φ => ∃ d es, ds = [d] ∧ seqV M d = some es ∧ newL es M Φ
def oTuple : DOs := fun ds M Φ => ∃ d es, ds = [d] ∧ seqV M d = some es ∧ Φ (.tup es) M
theorem cd_list {K : PySem.W.Frag} : CalD cl (fun xs H Q => ∃ p ys, xs = [.ref p] ∧ (SqL K H p ys ∨ SqT K H p ys) ∧ ∀ l, H l = none → Q (.ref l) (upd H l (.lst ys))) oList := fun G H ρ M σ ds xs Φ Q st n ⟨d, es, e, h1, h⟩ k => by
  subst e
  obtain ⟨x, ex, n1⟩ := denL_1 n; clear n; subst ex; have n := n1; clear n1
  obtain ⟨p, xs, rfl, hp, l⟩ := st.seqV n h1
  exact ⟨p, xs, rfl, sq_or hp, fun q hq => k.newL st l h hq⟩
theorem cd_tuple {K : PySem.W.Frag} : CalD cl (fun xs H Q => ∃ p ys, xs = [.ref p] ∧ ((SqL K H p ys ∧ ∀ l, H l = none → Q (.ref l) (upd H l (.tup ys))) ∨ (SqT K H p ys ∧ Q (.ref p) H))) oTuple := fun G H ρ M σ ds xs Φ Q st n ⟨d, es, e, h1, h⟩ k => by
  subst e
  obtain ⟨x, ex, n1⟩ := denL_1 n; clear n; subst ex; have n := n1; clear n1
  cases d with
  | tup fs =>
    cases h1
    obtain ⟨p, xs, rfl, hp, l⟩ := den_tup.mp n
    exact ⟨p, xs, rfl, .inr ⟨SqT.of (st.rd hp), k.val st n h⟩⟩
  | _ =>
    obtain ⟨p, xs, rfl, hp, l⟩ := st.lstV n ((seqV_lst (fun fs z => by cases z)).symm.trans h1)
    exact ⟨p, xs, rfl, .inl ⟨SqL.of hp, fun q hq => k.newT st l h hq⟩⟩
inductive OInt : List Dat → Mem → (Dat → Mem → Prop) → Prop
  | int {i M} {Φ : Dat → Mem → Prop} : Φ (.v (.int i)) M → OInt [.v (.int i)] M Φ
  | bl {b : Bool} {M} {Φ : Dat → Mem → Prop} : Φ (.v (.int (if b then 1 else 0))) M → OInt [.v (.bl b)] M Φ
theorem cd_int : CalD cl (fun xs H Q => (∃ i, xs = [.int i] ∧ Q (.int i) H) ∨ ∃ k, xs = [.bl k] ∧ Q (.int (if k then 1 else 0)) H) OInt := fun G H ρ M σ ds xs Φ Q st n w k => by
  cases w with
  | int h =>
    obtain ⟨x, ex, n1⟩ := denL_1 n; clear n; subst ex; have n := n1; clear n1
    exact .inl ⟨_, by rw [den_v.mp n], k.v st h⟩
  | bl h =>
    obtain ⟨x, ex, n1⟩ := denL_1 n; clear n; subst ex; have n := n1; clear n1
    exact .inr ⟨_, by rw [den_v.mp n], k.v st h⟩
def oAbs : DOs := fun ds M Φ => ∃ i, ds = [.v (.int i)] ∧ Φ (.v (.int (if i < 0 then -i else i))) M
theorem cd_abs : CalD cl (fun xs H Q => ∃ i, xs = [.int i] ∧ Q (.int (if i < 0 then -i else i)) H) oAbs := fun G H ρ M σ ds xs Φ Q st n ⟨i, e, h⟩ k => by
  subst e
  obtain ⟨x, ex, n1⟩ := denL_1 n; clear n; subst ex; have n := n1; clear n1
  exact ⟨i, by rw [den_v.mp n], k.v st h⟩
def oMin : DOs := fun ds M Φ => ∃ i j, ds = [.v (.int i), .v (.int j)] ∧ Φ (.v (.int (if j < i then j else i))) M
def oMax : DOs := fun ds M Φ => ∃ i j, ds = [.v (.int i), .v (.int j)] ∧ Φ (.v (.int (if j > i then j else i))) M
theorem cd_min : CalD cl (fun xs H Q => ∃ i j, xs = [.int i, .int j] ∧ Q (.int (if j < i then j else i)) H) oMin := fun G H ρ M σ ds xs Φ Q st n ⟨i, j, e, h⟩ k => by
  subst e
  obtain ⟨x, y, ex, n1, m⟩ := denL_2 n; clear n; subst ex; have n := n1; clear n1
  exact ⟨i, j, by rw [den_v.mp n, den_v.mp m], k.v st h⟩
theorem cd_max : CalD cl (fun xs H Q => ∃ i j, xs = [.int i, .int j] ∧ Q (.int (if j > i then j else i)) H) oMax := fun G H ρ M σ ds xs Φ Q st n ⟨i, j, e, h⟩ k => by
  subst e
  obtain ⟨x, y, ex, n1, m⟩ := denL_2 n; clear n; subst ex; have n := n1; clear n1
  exact ⟨i, j, by rw [den_v.mp n, den_v.mp m], k.v st h⟩
/-! ### isinstance -/
def tyD (M : Mem) : Dat → Option String
  | .v .non => some "NoneType"
  | .v (.bl _) => some "bool"
  | .v (.int _) => some "int"
  | .v (.str _) => some "str"
  | .lst _ => some "list"
  | .tup _ => some "tuple"
  | .dic _ _ => some "dict"
  | .v (.ref p) => match M p with
    | some (.lst _) => some "list"
    | some (.dic _ _) => some "dict"
    | _ => none
  | _ => none
theorem tyD_x {K : PySem.W.Frag} {G H : Hp} {ρ : Env} {M : Mem} {σ : L2.St} (st : StOk cl G H ρ M σ) {d : Dat} {x : V} {t : String} (n : Den cl G d x) (h : tyD M d = some t) : TyX K H x (.type t) := by
  cases d with
  | v y =>
    have := den_v.mp n
    subst this
    cases x with
    | non => cases h; exact .base .non
    | bl b => cases h; exact .base (.bl b)
    | int b => cases h; exact .base (.int b)
    | str b => cases h; exact .base (.str b)
    | ref q =>
      change (match M q with | some (.lst _) => some "list" | some (.dic _ _) => some "dict" | _ => none) = some t at h
      split at h
      · rename_i ds e; cases h
        obtain ⟨xs, hp, _⟩ := (st.mem q _ e).2
        exact .base (.lst hp)
      · rename_i ds es e; cases h
        obtain ⟨xs, hp, _⟩ := (st.mem q _ e).2
        exact .base (.dK hp)
      · cases h
    | _ => cases h
  | lst ds =>
    cases h
    obtain ⟨p, xs, rfl, hp, _⟩ := den_lst.mp n
    exact .base (.lst (st.rd hp))
  | tup ds =>
    cases h
    obtain ⟨p, xs, rfl, hp, _⟩ := den_tup.mp n
    exact .base (.tup (st.rd hp))
  | dic ks ds =>
    cases h
    obtain ⟨p, xs, rfl, hp, _⟩ := den_dic.mp n
    exact .base (.dK (st.rd hp))
  | _ => cases h
abbrev rIsiG (K : PySem.W.Frag) (u : Value) : List V → Hp → VK → Prop := fun xs H Q => rIsi K xs H Q ∨ rIsiSl K u xs H Q
theorem call_isiG (u : Value) : CallR X (.builtin "isinstance") (rIsiG X.K u) := CallR.or call_isi (call_isiSl u)
/-- isinstance(d, C): C a built-in type or an own class u -/
inductive OIsi (cl : Nat → Addr) (K : PySem.W.Frag) (c : V) (u : Value) : List Dat → Mem → (Dat → Mem → Prop) → Prop
  | ty {d t b M} {Φ : Dat → Mem → Prop} : tyD M d = some t → ClsV c u → PySem.W.kitOne K (.type t) u = some b → Φ (.v (.bl b)) M → OIsi cl K c u [d, .v c] M Φ
  | obj {d n ds b M} {Φ : Dat → Mem → Prop} : objV M d = some (n, ds) → ClsV c u → SCls K (cl n) → SIsi K (cl n) → PySem.W.kitOne K (.ref (cl n)) u = some b → Φ (.v (.bl b)) M → OIsi cl K c u [d, .v c] M Φ
theorem cd_isi {K : PySem.W.Frag} {c : V} {u : Value} : CalD cl (rIsiG K u) (OIsi cl K c u) := fun G H ρ M σ ds xs Φ Q st n w k => by
  cases w with
  | ty h1 h2 h3 h =>
    obtain ⟨x, y, ex, n1, m⟩ := denL_2 n; clear n; subst ex; have n := n1; clear n1
    exact .inl ⟨_, _, _, _, _, by rw [den_v.mp m], h2, tyD_x st n h1, h3, k.v st h⟩
  | obj h1 h2 h3 h4 h5 h =>
    obtain ⟨x, y, ex, n1, m⟩ := denL_2 n; clear n; subst ex; have n := n1; clear n1
    obtain ⟨p, dx, vs, rfl, hs, l⟩ := st.objV n h1
    have rc : RelV c u := by
      cases h2 with
      | ty n => exact rfl
      | own C => exact rfl
    exact .inr ⟨p, _, dx, vs, c, _, by rw [den_v.mp m], rc, fun w hw => h2.eq hw, hs, h3, h4, h5, k.v st h⟩
/-! ### methods of lists -/
abbrev DOm := Dat → List Dat → Mem → (Dat → Mem → Prop) → Prop
def wMt (T : Mem → Dat → Prop) (o : DOm) (Wo : WE) (Wr : WA) : WE := fun ρ M Φ => Wo ρ M fun d M1 => T M1 d ∧ Wr ρ M1 fun ds M2 => o d ds M2 Φ
def MtD (cl : Nat → Addr) (r : V → List V → Hp → VK → Prop) (o : DOm) : Prop := ∀ G H ρ M σ d ds x xs Φ Q, StOk cl G H ρ M σ → Den cl G d x → DenL cl G ds xs → o d ds M Φ → KE cl σ ρ G H M Φ Q → r x xs H Q
def isLst (M : Mem) (d : Dat) : Prop := ∃ ds, lstV M d = some ds
theorem lift_mtL {K : PySem.W.Frag} {r : V → List V → Hp → VK → Prop} {o : DOm} (hd : MtD cl r o) (σ : L2.St) (H : Hp) (Q : VK) (h : liftE cl (wMt isLst o Wa Wr) σ H Q) : tBM K "list" r (liftE cl Wa) (liftA cl Wr) σ H Q := by
  obtain ⟨G, ρ, M, Φ, st, h, k⟩ := h
  refine ⟨G, ρ, M, _, st, h, fun d x M1 G1 H1 s1 st1 dn1 h1 => ?_⟩
  obtain ⟨⟨ds, hl⟩, h1⟩ := h1
  obtain ⟨p, xs, rfl, hp, l⟩ := st1.lstV dn1 hl
  exact ⟨.inl ⟨rfl, xs, SqL.of hp⟩, ⟨G1, ρ, M1, _, st1, h1, fun es ys M2 G2 H2 s2 st2 dn2 h2 => hd _ _ _ _ _ _ _ _ _ _ _ st2 (dn1.mono s2.ex) dn2 h2 (k.pre (s1.trans s2))⟩⟩
theorem de_mtL {o : Expr} {name : Str} {id : String} {apos cpos : Pos} {r : V → List V → Hp → VK → Prop} {om : DOm} (slot : Slot "list" name id) (hty : typeOf (.builtin id) = pure (.type "method_descriptor")) (hm : MtR X id r) (hd : MtD cl r om) (ho : DE cl X o Wa) (ha : DA cl X (e :: es) Wr)
    (hbase : attributeBase o name X.env (eval o X.env) = eval o X.env := by rfl)
    (hfew : ((backTo cpos (starEach (e :: es) X.env)).all (fun x => !x.1) && (backToKw cpos (keywordEach [] X.env)).all (fun x => x.1.isSome)
      && decide ((e :: es).length + ([] : List Keyword).length + (if ([] : List Keyword).isEmpty then 0 else 1) < 30)) = true := by rfl)
    (hline : (apos.endLine == cpos.line) = true := by rfl) (hs : starEach (e :: es) X.env = (false, eval e X.env) :: starEach es X.env := by rfl) (hplain : (backTo cpos (starEach es X.env)).any (·.1) = false := by rfl) :
    DE cl X (.Call (.Attribute o name apos) (e :: es) [] cpos) (wMt isLst om Wa Wr) := PE.imp (pe_bm PySem.F.plainAttrs_list slot hty hm ho ha hbase hfew hline hs hplain) (lift_mtL hd)
theorem de_mtL0 {o : Expr} {name : Str} {id : String} {apos cpos : Pos} {r : V → List V → Hp → VK → Prop} {om : DOm} (slot : Slot "list" name id) (hty : typeOf (.builtin id) = pure (.type "method_descriptor")) (hm : MtR X id r) (hd : MtD cl r om) (ho : DE cl X o Wa)
    (hbase : attributeBase o name X.env (eval o X.env) = eval o X.env := by rfl) (hline : (apos.endLine == cpos.line) = true := by rfl) : DE cl X (.Call (.Attribute o name apos) [] [] cpos) (wMt isLst om Wa wNil) := PE.imp (pe_bm0 PySem.F.plainAttrs_list slot hty hm ho hbase hline) fun σ H Q h => by
  obtain ⟨G, ρ, M, Φ, st, h, k⟩ := h
  refine ⟨G, ρ, M, _, st, h, fun d x M1 G1 H1 s1 st1 dn1 h1 => ?_⟩
  obtain ⟨⟨ds, hl⟩, h1⟩ := h1
  obtain ⟨p, xs, rfl, hp, l⟩ := st1.lstV dn1 hl
  exact ⟨.inl ⟨rfl, xs, SqL.of hp⟩, hd _ _ _ _ _ _ _ _ _ _ _ st1 dn1 (denL_nil.mpr rfl) h1 (k.pre s1)⟩
def oAppend : DOm := fun o ds M Φ => ∃ p es d, o = .v (.ref p) ∧ M p = some (.lst es) ∧ ds = [d] ∧ es.length < sizeLine ∧ Φ (.v .non) (M.put p (.lst (es ++ [d])))
theorem md_append : MtD cl rAppend oAppend := fun G H ρ M σ o ds x xs Φ Q st n l ⟨p, es, d, e1, hm, e2, hz, h⟩ k => by
  subst e1 e2
  obtain ⟨y, rfl, m⟩ := denL_1 l
  have := den_v.mp n
  subst this
  obtain ⟨zs, hp, lz⟩ := (st.mem p _ hm).2
  exact ⟨p, zs, y, rfl, rfl, hp, by rw [lz.length]; exact hz, k _ _ _ _ _ (st.write_step hm) (st.write (c := .lst (es ++ [d])) hm ⟨_, upd_same, lz.append (.one m)⟩) (den_v.mpr rfl) h⟩
def oExtend : DOm := fun o ds M Φ => ∃ p es d fs, o = .v (.ref p) ∧ M p = some (.lst es) ∧ ds = [d] ∧ lstV M d = some fs ∧ es.length + fs.length ≤ sizeLine ∧ Φ (.v .non) (M.put p (.lst (es ++ fs)))
theorem md_extend : MtD cl rExtend oExtend := fun G H ρ M σ o ds x xs Φ Q st n l ⟨p, es, d, fs, e1, hm, e2, hf, hz, h⟩ k => by
  subst e1 e2
  obtain ⟨y, rfl, m⟩ := denL_1 l
  have := den_v.mp n
  subst this
  obtain ⟨zs, hp, lz⟩ := (st.mem p _ hm).2
  obtain ⟨q, ys, rfl, hq, ly⟩ := st.lstV m hf
  exact ⟨p, q, zs, ys, rfl, rfl, hp, hq, by rw [lz.length, ly.length]; exact hz, k _ _ _ _ _ (st.write_step hm) (st.write (c := .lst (es ++ fs)) hm ⟨_, upd_same, lz.append ly⟩) (den_v.mpr rfl) h⟩
def oPopAt : DOm := fun o ds M Φ => ∃ p es i k d, o = .v (.ref p) ∧ M p = some (.lst es) ∧ ds = [.v (.int i)] ∧ -(2 ^ 63) ≤ i ∧ i < 2 ^ 63 ∧ seqIndex? i es.length = some k ∧ es[k]? = some d ∧ Φ d (M.put p (.lst (es.eraseIdx k)))
theorem md_popAt : MtD cl rPopAt oPopAt := fun G H ρ M σ o ds x xs Φ Q st n l ⟨p, es, i, j, d, e1, hm, e2, h1, h2, h3, h4, h⟩ k => by
  subst e1 e2
  obtain ⟨y, rfl, m⟩ := denL_1 l
  have := den_v.mp n
  subst this
  have := den_v.mp m
  subst this
  obtain ⟨zs, hp, lz⟩ := (st.mem p _ hm).2
  obtain ⟨z, hz, nz⟩ := lz.get h4
  exact ⟨p, zs, i, j, z, rfl, rfl, hp, h1, h2, by rw [lz.length]; exact h3, hz, k _ _ _ _ _ (st.write_step hm) (st.write (c := .lst (es.eraseIdx j)) hm ⟨_, upd_same, lz.eraseIdx j⟩) nz h⟩
/-! ### methods of texts -/
def isStr (_ : Mem) (d : Dat) : Prop := ∃ s, d = .v (.str s)
def wM1 (o : DOm) (Wo Wa : WE) : WE := fun ρ M Φ => Wo ρ M fun d M1 => isStr M1 d ∧ Wa ρ M1 fun d2 M2 => o d [d2] M2 Φ
theorem lift_m1 {r : V → List V → Hp → VK → Prop} {o : DOm} {Wo : WE} (hd : MtD cl r o) (σ : L2.St) (H : Hp) (Q : VK) (h : liftE cl (wM1 o Wo Wa) σ H Q) : tM1 r (liftE cl Wo) (liftE cl Wa) σ H Q := by
  obtain ⟨G, ρ, M, Φ, st, h, k⟩ := h
  refine ⟨G, ρ, M, _, st, h, fun d x M1 G1 H1 s1 st1 dn1 h1 => ?_⟩
  obtain ⟨⟨s, e⟩, h1⟩ := h1
  subst e
  exact ⟨⟨s, den_v.mp dn1⟩, ⟨G1, ρ, M1, _, st1, h1, fun d2 y M2 G2 H2 s2 st2 dn2 h2 => hd _ _ _ _ _ _ _ _ _ _ _ st2 (dn1.mono s2.ex) (.one dn2) h2 (k.pre (s1.trans s2))⟩⟩
def oSplit : DOm := fun o ds M Φ => ∃ a b, o = .v (.str a) ∧ ds = [.v (.str b)] ∧ (b.length == 0) = false ∧ a.length + 2 ≤ sizeLine ∧ newL ((Txt.split a b).map fun w => .v (.str w)) M Φ
theorem denL_strs {G : Hp} (ws : List Str) : DenL cl G (ws.map fun w => .v (.str w)) (ws.map V.str) := by
  have e : (ws.map fun w => Dat.v (.str w)) = (ws.map V.str).map Dat.v := by rw [List.map_map]; rfl
  rw [e]
  exact DenL.vs _
theorem md_split : MtD cl (fun x xs H Q => ∃ a b, x = .str a ∧ xs = [.str b] ∧ (b.length == 0) = false ∧ a.length + 2 ≤ sizeLine ∧ rNewStrs (Txt.split a b) H Q) oSplit := fun G H ρ M σ o ds x xs Φ Q st n l ⟨a, b, e1, e2, h1, h2, h⟩ k => by
  subst e1 e2
  obtain ⟨y, rfl, m⟩ := denL_1 l
  exact ⟨a, b, den_v.mp n, by rw [den_v.mp m], h1, h2, fun p hp => k.newL st (denL_strs _) h hp⟩
theorem de_split {o : Expr} {apos : Pos} {Wo : WE} (ho : DE cl X o Wo) (he : DE cl X e Wa) (hs : starEach [e] X.env = [(false, eval e X.env)] := by rfl) (hbase : attributeBase o "split" X.env (eval o X.env) = eval o X.env := by rfl) (hline : (apos.endLine == pos.line) = true := by rfl) :
    DE cl X (.Call (.Attribute o "split" apos) [e] [] pos) (wM1 oSplit Wo Wa) := PE.imp (pe_split ho he hs hbase hline) (lift_m1 md_split)
def oJoin : DOm := fun o ds M Φ => ∃ a d, ∃ ys : List Str, o = .v (.str a) ∧ ds = [d] ∧ seqV M d = some (ys.map fun w => .v (.str w)) ∧ (ys.map (·.length)).sum + ys.length * a.length ≤ 16777216 ∧ Φ (.v (.str (Txt.join a ys))) M
theorem md_join {K : PySem.W.Frag} : MtD cl (fun x xs H Q => ∃ a p, ∃ ys : List Str, x = .str a ∧ xs = [.ref p] ∧ (SqL K H p (ys.map V.str) ∨ SqT K H p (ys.map V.str)) ∧ (ys.map (·.length)).sum + ys.length * a.length ≤ 16777216 ∧ Q (.str (Txt.join a ys)) H) oJoin := fun G H ρ M σ o ds x xs Φ Q st n l ⟨a, d, ys, e1, e2, h1, h2, h⟩ k => by
  subst e1 e2
  obtain ⟨y, rfl, m⟩ := denL_1 l
  obtain ⟨p, xs, rfl, hp, l⟩ := st.seqV m h1
  have := DenL.of_map (f := V.str) l
  subst this
  exact ⟨a, p, ys, den_v.mp n, rfl, sq_or hp, h2, k.v st h⟩
theorem de_join {o : Expr} {apos : Pos} {Wo : WE} (ho : DE cl X o Wo) (he : DE cl X e Wa) (hs : starEach [e] X.env = [(false, eval e X.env)] := by rfl) (hbase : attributeBase o "join" X.env (eval o X.env) = eval o X.env := by rfl) (hline : (apos.endLine == pos.line) = true := by rfl) :
    DE cl X (.Call (.Attribute o "join" apos) [e] [] pos) (wM1 oJoin Wo Wa) := PE.imp (pe_join ho he hs hbase hline) (lift_m1 md_join)
/-! ### fields of slotted instances -/
/-- where the class numbers' slots stand -/
def wFld (K : PySem.W.Frag) (cl : Nat → Addr) (f : Str) (Wa : WE) : WE := fun ρ M Φ => Wa ρ M fun d M1 => ∃ c ds i e p, objV M1 d = some (c, ds) ∧ SCls K (cl c) ∧ Slot1 K (cl c) f p i ∧ ds[i]? = some e ∧ e ≠ .unset ∧ Φ e M1
theorem de_fld {f : Str} {pos : Pos} (he : DE cl X e Wa) (hb : attributeBase e f X.env (eval e X.env) = eval e X.env := by rfl) : DE cl X (.Attribute e f pos) (wFld X.K cl f Wa) := PE.imp (pe_sl he hb) fun σ H Q ⟨G, ρ, M, Φ, st, h, k⟩ =>
  ⟨G, ρ, M, _, st, h, fun d x M1 G1 H1 s1 st1 dn1 h1 => by
    obtain ⟨c, ds, i, e, p, ho, sc, sl, hi, hu, h1⟩ := h1
    obtain ⟨a, dx, vs, rfl, hs, l⟩ := st1.objV dn1 ho
    obtain ⟨y, hy, n⟩ := l.get hi hu
    exact ⟨a, cl c, dx, p, vs, i, y, rfl, hs, sc, sl, hy, k _ _ _ _ _ s1 st1 n h1⟩⟩
end
end DL
set_option maxRecDepth 100000
set_option maxHeartbeats 2000000
/-! D layer, part H: targets, statements, loops, comprehensions, defs. -/
namespace DL
open PySem PySem.Spec PyProof.Rows L2 SlX
structure DEnds where
  nx : Env → Mem → Prop
  rt : Dat → Mem → Prop
  bk : Env → Mem → Prop := fun _ _ => False
  ct : Env → Mem → Prop := fun _ _ => False
abbrev WS := DEnds → Env → Mem → Prop
abbrev WG := Dat → Env → Mem → (Env → Mem → Prop) → Prop
abbrev WGs := List Dat → Env → Mem → (Env → Mem → Prop) → Prop
abbrev WI := Env → Mem → (List Dat → (Mem → Prop) → Mem → Prop) → Prop
section
variable (cl : Nat → Addr)
structure Lk (G H : Hp) (M : Mem) (DD : DEnds) (D : Ends) : Prop where
  nx : ∀ ρ' M' σ' G' H', Step G H M G' H' M' → StOk cl G' H' ρ' M' σ' → DD.nx ρ' M' → D.nx σ' H'
  rt : ∀ d x ρ' M' σ' G' H', Step G H M G' H' M' → StOk cl G' H' ρ' M' σ' → Den cl G' d x → DD.rt d M' → D.rt x H'
  bk : ∀ ρ' M' σ' G' H', Step G H M G' H' M' → StOk cl G' H' ρ' M' σ' → DD.bk ρ' M' → D.bk σ' H'
  ct : ∀ ρ' M' σ' G' H', Step G H M G' H' M' → StOk cl G' H' ρ' M' σ' → DD.ct ρ' M' → D.ct σ' H'
def liftS (W : WS) : TS := fun D σ H => ∃ G ρ M DD, StOk cl G H ρ M σ ∧ W DD ρ M ∧ Lk cl G H M DD D
def DS (X : Cx) (st : Stmt) (W : WS) : Prop := PS X st (liftS cl W)
def DSs (X : Cx) (st : List Stmt) (W : WS) : Prop := PSs X st (liftS cl W)
def KG (G H : Hp) (M : Mem) (Φ : Env → Mem → Prop) (Q : L2.St → Hp → Prop) : Prop := ∀ ρ' M' σ' G' H', Step G H M G' H' M' → StOk cl G' H' ρ' M' σ' → Φ ρ' M' → Q σ' H'
def GD (t : TG) (W : WG) : Prop := ∀ G H ρ M σ d x Φ Q, StOk cl G H ρ M σ → Den cl G d x → W d ρ M Φ → KG cl G H M Φ Q → t x σ H Q
def GDs (t : TGs) (W : WGs) : Prop := ∀ G H ρ M σ ds xs Φ Q, StOk cl G H ρ M σ → DenL cl G ds xs → W ds ρ M Φ → KG cl G H M Φ Q → t xs σ H Q
def DT' (X : Cx) (tg : Expr) (W : WG) : Prop := ∃ g, PG X tg g ∧ GD cl g W
def DTs (X : Cx) (tgs : List Expr) (W : WGs) : Prop := ∃ g, PGs X tgs g ∧ GDs cl g W
structure WalkD (J : It) (ds : List Dat) (G0 : Hp) (gd : Mem → Prop) : Prop where
  goes : ∀ i G H ρ M σ, Exh G0 G → StOk cl G H ρ M σ → gd M → i < ds.length → J.go i H
  stops : ∀ G H ρ M σ, Exh G0 G → StOk cl G H ρ M σ → gd M → J.stop ds.length H
  yields : ∀ i G H ρ M σ x H', Exh G0 G → StOk cl G H ρ M σ → gd M → i < ds.length → J.yld i H x H' → ∃ d G', ds[i]? = some d ∧ Step G H M G' H' M ∧ StOk cl G' H' ρ M σ ∧ Den cl G' d x
def ID (wi : TI) (W : WI) : Prop := ∀ G H ρ M σ Ψ R, StOk cl G H ρ M σ → W ρ M Ψ → (∀ ds gd J M' G' H', Step G H M G' H' M' → StOk cl G' H' ρ M' σ → WalkD cl J ds G' gd → Ψ ds gd M' → R J H') → wi σ H R
def DI (X : Cx) (tg it : Expr) (W : WI) : Prop := ∃ wi, PI X tg it wi ∧ ID cl wi W
end
section
variable {cl : Nat → Addr} {X : Cx} {G G' H H' G1 H1 : Hp} {M M' M1 : Mem} {ρ : Env} {σ : L2.St} {DD : DEnds} {D : Ends} {pos : Pos} {e : Expr} {W W2 : WS} {We : WE} {Wt : WT}
theorem Lk.pre (s : Step G H M G1 H1 M1) (k : Lk cl G H M DD D) : Lk cl G1 H1 M1 DD D :=
  ⟨fun _ _ _ _ _ t st h => k.nx _ _ _ _ _ (s.trans t) st h, fun _ _ _ _ _ _ _ t st dn h => k.rt _ _ _ _ _ _ _ (s.trans t) st dn h, fun _ _ _ _ _ t st h => k.bk _ _ _ _ _ (s.trans t) st h, fun _ _ _ _ _ t st h => k.ct _ _ _ _ _ (s.trans t) st h⟩
theorem KG.pre {Φ : Env → Mem → Prop} {Q : L2.St → Hp → Prop} (s : Step G H M G1 H1 M1) (k : KG cl G H M Φ Q) : KG cl G1 H1 M1 Φ Q := fun _ _ _ _ _ t st h => k _ _ _ _ _ (s.trans t) st h
theorem PS.imp {st : Stmt} {t t' : TS} (h : PS X st t) (i : ∀ D σ H, t' D σ H → t D σ H) : PS X st t' := ⟨fun pins s σ H D I q => h.run pins s σ H D I (i D σ H q)⟩
theorem PSs.imp {st : List Stmt} {t t' : TS} (h : PSs X st t) (i : ∀ D σ H, t' D σ H → t D σ H) : PSs X st t' := ⟨fun pins s σ H D I q => h.run pins s σ H D I (i D σ H q)⟩
def wNext : WS := fun DD ρ M => DD.nx ρ M
def wSeq (W V : WS) : WS := fun DD ρ M => W { DD with nx := V DD } ρ M
theorem dss_nil : DSs cl X [] wNext := PSs.imp pss_nil fun D σ H ⟨G, ρ, M, DD, st, h, k⟩ => k.nx _ _ _ _ _ .refl st h
theorem dss_cons {s : Stmt} {r : List Stmt} (h1 : DS cl X s W) (h2 : DSs cl X r W2) : DSs cl X (s :: r) (wSeq W W2) := PSs.imp (pss_cons h1 h2) fun D σ H ⟨G, ρ, M, DD, st, h, k⟩ =>
  ⟨G, ρ, M, { DD with nx := W2 DD }, st, h, ⟨fun ρ' M' σ' G' H' s1 st' h' => ⟨G', ρ', M', DD, st', h', k.pre s1⟩, k.rt, k.bk, k.ct⟩⟩
theorem dss_one {s : Stmt} (h1 : DS cl X s W) : DSs cl X [s] W := pss_one h1
/-- returns: what is returned may be frozen, cells may be forgotten -/
def Fz (cl : Nat → Addr) (M : Mem) (d d2 : Dat) (M2 : Mem) : Prop := ∀ G H ρ σ x, StOk cl G H ρ M σ → Den cl G d x → ∃ G', Step G H M G' H M2 ∧ StOk cl G' H ρ M2 σ ∧ Den cl G' d2 x
theorem Fz.le {d : Dat} {M2 : Mem} (h : M2.le M) : Fz cl M d d M2 := fun G H ρ σ x st dn => ⟨G, Step.forget h, st.forget h, dn⟩
theorem Fz.rfl {d : Dat} : Fz cl M d d M := Fz.le (Mem.le_refl M)
theorem Fz.trans {d d2 d3 : Dat} {M2 M3 : Mem} (a : Fz cl M d d2 M2) (b : Fz cl M2 d2 d3 M3) : Fz cl M d d3 M3 := fun G H ρ σ x st dn => by
  obtain ⟨G1, s1, st1, dn1⟩ := a G H ρ σ x st dn
  obtain ⟨G2, s2, st2, dn2⟩ := b G1 H ρ σ x st1 dn1
  exact ⟨G2, s1.trans s2, st2, dn2⟩
/-- the cell at p becomes data -/
theorem Fz.cell {p : Addr} {c : Dat} (h : M p = some c) (hf : ∀ n ds, c = .obj n ds → ∃ d, d ∈ ds ∧ d ≠ .unset) : Fz cl M (.v (.ref p)) c (M.del p) := fun G H ρ σ x st dn => by
  have := den_v.mp dn
  subst this
  exact st.freeze h hf
theorem Fz.lst {p : Addr} {ds : List Dat} (h : M p = some (.lst ds)) : Fz cl M (.v (.ref p)) (.lst ds) (M.del p) := Fz.cell h fun n ds e => nomatch e
theorem Fz.dic {p : Addr} {ks : List Key} {ds : List Dat} (h : M p = some (.dic ks ds)) : Fz cl M (.v (.ref p)) (.dic ks ds) (M.del p) := Fz.cell h fun n ds e => nomatch e
def FzL (cl : Nat → Addr) (M : Mem) (d d2 : List Dat) (M2 : Mem) : Prop := ∀ G H ρ σ x, StOk cl G H ρ M σ → DenL cl G d x → ∃ G', Step G H M G' H M2 ∧ StOk cl G' H ρ M2 σ ∧ DenL cl G' d2 x
theorem FzL.nil : FzL cl M [] [] M := fun G H ρ σ x st dn => ⟨G, .refl, st, denL_nil.mpr (denL_nil.mp dn)⟩
theorem FzL.cons {d d2 : Dat} {ds ds2 : List Dat} {M2 M3 : Mem} (a : Fz cl M d d2 M2) (b : FzL cl M2 ds ds2 M3) : FzL cl M (d :: ds) (d2 :: ds2) M3 := fun G H ρ σ x st dn => by
  obtain ⟨y, ys, e, n, l⟩ := denL_cons.mp dn
  subst e
  obtain ⟨G1, s1, st1, dn1⟩ := a G H ρ σ y st n
  obtain ⟨G2, s2, st2, dn2⟩ := b G1 H ρ σ ys st1 (l.mono s1.ex)
  exact ⟨G2, s1.trans s2, st2, denL_cons.mpr ⟨y, ys, Eq.refl _, dn1.mono s2.ex, dn2⟩⟩
theorem Fz.tup {ds ds2 : List Dat} {M2 : Mem} (a : FzL cl M ds ds2 M2) : Fz cl M (.tup ds) (.tup ds2) M2 := fun G H ρ σ x st dn => by
  obtain ⟨p, xs, e, hp, l⟩ := den_tup.mp dn
  obtain ⟨G1, s1, st1, l1⟩ := a G H ρ σ xs st l
  exact ⟨G1, s1, st1, den_tup.mpr ⟨p, xs, e, s1.ex _ _ hp, l1⟩⟩
theorem Fz.lstI {ds ds2 : List Dat} {M2 : Mem} (a : FzL cl M ds ds2 M2) : Fz cl M (.lst ds) (.lst ds2) M2 := fun G H ρ σ x st dn => by
  obtain ⟨p, xs, e, hp, l⟩ := den_lst.mp dn
  obtain ⟨G1, s1, st1, l1⟩ := a G H ρ σ xs st l
  exact ⟨G1, s1, st1, den_lst.mpr ⟨p, xs, e, s1.ex _ _ hp, l1⟩⟩
theorem Fz.dicI {ks : List Key} {ds ds2 : List Dat} {M2 : Mem} (a : FzL cl M ds ds2 M2) : Fz cl M (.dic ks ds) (.dic ks ds2) M2 := fun G H ρ σ x st dn => by
  obtain ⟨p, xs, e, hp, hk, l⟩ := den_dic.mp dn
  obtain ⟨G1, s1, st1, l1⟩ := a G H ρ σ _ st l
  exact ⟨G1, s1, st1, den_dic.mpr ⟨p, xs, e, s1.ex _ _ hp, hk, l1⟩⟩
/-- an expression whose value is frozen -/
def wFz (cl : Nat → Addr) (W : WE) : WE := fun ρ M Φ => W ρ M fun d M1 => ∃ d2 M2, Fz cl M1 d d2 M2 ∧ Φ d2 M2
theorem de_fz (h : DE cl X e We) : DE cl X e (wFz cl We) := PE.imp h fun σ H Q ⟨G, ρ, M, Φ, st, h, k⟩ => ⟨G, ρ, M, _, st, h, fun d x M1 G1 H1 s1 st1 dn1 h1 => by
  obtain ⟨d2, M2, fz, h2⟩ := h1
  obtain ⟨G2, s2, st2, dn2⟩ := fz _ _ _ _ _ st1 dn1
  exact k _ _ _ _ _ (s1.trans s2) st2 dn2 h2⟩
def wRet (cl : Nat → Addr) (W : WE) : WS := fun DD ρ M => W ρ M fun d M1 => ∃ d2 M2, Fz cl M1 d d2 M2 ∧ DD.rt d2 M2
theorem ds_ret (h : DE cl X e We) : DS cl X (.Return (some e) pos) (wRet cl We) := PS.imp (ps_ret h) fun D σ H ⟨G, ρ, M, DD, st, h, k⟩ => ⟨G, ρ, M, _, st, h, fun d x M1 G1 H1 s1 st1 dn1 h1 => by
  obtain ⟨d2, M2, fz, h2⟩ := h1
  obtain ⟨G2, s2, st2, dn2⟩ := fz _ _ _ _ _ st1 dn1
  exact k.rt _ _ _ _ _ _ _ (s1.trans s2) st2 dn2 h2⟩
def wDrop (W : WE) : WS := fun DD ρ M => W ρ M fun _ M1 => DD.nx ρ M1
theorem ds_expr (h : DE cl X e We) (hs : swapsWith e none pos.line X.env = pure false := by rfl) : DS cl X (.Expr e pos) (wDrop We) := PS.imp (ps_expr h hs) fun D σ H ⟨G, ρ, M, DD, st, h, k⟩ => ⟨G, ρ, M, _, st, h, fun d x M1 G1 H1 s1 st1 dn1 h1 => k.nx _ _ _ _ _ s1 st1 h1⟩
def wIfS (Wt : WT) (W V : WS) : WS := fun DD ρ M => Wt ρ M fun b M1 => if b = true then W DD ρ M1 else V DD ρ M1
theorem ds_if {c : Expr} {a b : List Stmt} (hc : DT cl X c Wt) (ha : DSs cl X a W) (hb : DSs cl X b W2) : DS cl X (.If c a b pos) (wIfS Wt W W2) := PS.imp (ps_if hc ha hb) fun D σ H ⟨G, ρ, M, DD, st, h, k⟩ => ⟨G, ρ, M, _, st, h, fun b M1 G1 H1 s1 st1 h1 => by
  cases b with
  | true => exact ⟨G1, ρ, M1, DD, st1, h1, k.pre s1⟩
  | false => exact ⟨G1, ρ, M1, DD, st1, h1, k.pre s1⟩⟩
def wNeverS : WS := fun _ _ _ => False
theorem ds_never {s : Stmt} : DS cl X s wNeverS := ⟨fun _ _ _ _ _ _ ⟨_, _, _, _, _, h, _⟩ => h.elim⟩
/-! ### targets -/
def gdName (i : Nat) : WG := fun d ρ M Φ => Φ (ρ.set i (some d)) M
theorem gd_name {i : Nat} : GD cl (gName i) (gdName i) := fun G H ρ M σ d x Φ Q st dn h k => k _ _ _ _ _ .refl (st.set dn) h
theorem dt_name {i : Nat} {x : Str} (hN : X.N.Nodup) (hi : X.N[i]? = some x) (hx : Loc X.env.scope x) (hf : X.fn x = true ∨ X.env.scope.names.lookup x = some .local := by first | exact .inl rfl | exact .inr rfl | assumption) : DT' cl X (.Name x pos) (gdName i) := ⟨_, pg_name hN hi hx hf, gd_name⟩
def gdNil : WGs := fun ds ρ M Φ => ds = [] ∧ Φ ρ M
def gdCons (W : WG) (Ws : WGs) : WGs := fun ds ρ M Φ => ∃ d r, ds = d :: r ∧ W d ρ M fun ρ' M' => Ws r ρ' M' Φ
theorem gds_nil : DTs cl X [] gdNil := ⟨_, pgs_nil, fun G H ρ M σ ds xs Φ Q st l ⟨e, h⟩ k => by
  subst e
  exact ⟨denL_nil.mp l, k _ _ _ _ _ .refl st h⟩⟩
theorem gds_cons {t : Expr} {ts : List Expr} {W : WG} {Ws : WGs} (h : DT' cl X t W) (hr : DTs cl X ts Ws) (hs : (assignEach (t :: ts) X.env).map (·.2) = assign t X.env :: (assignEach ts X.env).map (·.2) := by rfl) : DTs cl X (t :: ts) (gdCons W Ws) := by
  obtain ⟨g, pg, gd⟩ := h
  obtain ⟨gs, pgs, gds⟩ := hr
  refine ⟨_, pgs_cons pg pgs hs, fun G H ρ M σ ds xs Φ Q st l ⟨d, r, e, h⟩ k => ?_⟩
  subst e
  obtain ⟨y, ys, rfl, n, l⟩ := denL_cons.mp l
  exact ⟨y, ys, rfl, gd _ _ _ _ _ _ _ _ _ st n h fun ρ' M' σ' G' H' s1 st1 h1 => gds _ _ _ _ _ _ _ _ _ st1 (l.mono s1.ex) h1 (k.pre s1)⟩
theorem PG.or {t : Expr} {g g' : TG} (h : PG X t g) (h' : PG X t g') : PG X t (fun v σ H Q => g v σ H Q ∨ g' v σ H Q) := ⟨fun pins s σ H v u Q I r q => q.elim (h.run pins s σ H v u Q I r) (h'.run pins s σ H v u Q I r)⟩
def gdTup (n : Nat) (Ws : WGs) : WG := fun d ρ M Φ => ∃ ds, seqV M d = some ds ∧ ds.length = n ∧ Ws ds ρ M Φ
theorem dt_tup {es : List Expr} {kk n : Nat} {Ws : WGs} (hc : X.calm = true) (h : DTs cl X es Ws) (hn : (assignEach es X.env).length = n := by rfl) (hst : (assignEach es X.env).findIdx? (·.1) = none := by rfl) : DT' cl X (.Tuple es kk pos) (gdTup n Ws) := by
  obtain ⟨g, pg, gd⟩ := h
  refine ⟨_, PG.or (pg_tup hc pg hn hst) (pg_lst hc pg hn hst), fun G H ρ M σ d x Φ Q st dn ⟨ds, e, hl, h⟩ k => ?_⟩
  obtain ⟨p, xs, rfl, hp, l⟩ := st.seqV dn e
  rcases hp with hp | hp
  · exact .inr ⟨p, xs, rfl, SqL.of hp, by rw [l.length]; exact hl, gd _ _ _ _ _ _ _ _ _ st l h k⟩
  · exact .inl ⟨p, xs, rfl, SqT.of hp, by rw [l.length]; exact hl, gd _ _ _ _ _ _ _ _ _ st l h k⟩
def wAsg (We : WE) (W : WG) : WS := fun DD ρ M => We ρ M fun d M1 => W d ρ M1 DD.nx
theorem lift_asg {W : WG} {g : TG} (gd : GD cl g W) (D : Ends) (σ : L2.St) (H : Hp) (h : liftS cl (wAsg We W) D σ H) : tAsg (liftE cl We) g D σ H := by
  obtain ⟨G, ρ, M, DD, st, h, k⟩ := h
  exact ⟨G, ρ, M, _, st, h, fun d x M1 G1 H1 s1 st1 dn1 h1 => gd _ _ _ _ _ _ _ _ _ st1 dn1 h1 fun ρ' M' σ' G' H' s2 st2 h2 => k.nx _ _ _ _ _ (s1.trans s2) st2 h2⟩
theorem ds_asg {tg : Expr} {W : WG} (he : DE cl X e We) (hg : DT' cl X tg W) (hs : swapsWithSole [tg] e pos.line X.env = pure false := by rfl) (hw : swappedStores [tg] e X.env = pure none := by rfl)
    (h1 : (assignEach [tg] X.env).map (·.2) = [assign tg X.env] := by rfl) : DS cl X (.Assign [tg] e pos) (wAsg We W) := by
  obtain ⟨g, pg, gd⟩ := hg
  exact PS.imp (ps_asg he pg hs hw h1) (lift_asg gd)
theorem ds_set {i : Nat} {x : Str} {pos' : Pos} (hN : X.N.Nodup) (hi : X.N[i]? = some x) (hx : Loc X.env.scope x) (he : DE cl X e We) (hs : swapsWith e (some (.Name x pos')) pos.line X.env = pure false := by rfl) (hf : X.fn x = true ∨ X.env.scope.names.lookup x = some .local := by first | exact .inl rfl | exact .inr rfl | assumption) :
    DS cl X (.Assign [.Name x pos'] e pos) (wAsg We (gdName i)) := PS.imp (ps_set hN hi hx he hs hf) (lift_asg gd_name)
/-- x, y = a, b -/
def wPar (i j : Nat) (Wr : WA) : WS := fun DD ρ M => Wr ρ M fun ds M1 => ∃ d e, ds = [d, e] ∧ DD.nx ((ρ.set i (some d)).set j (some e)) M1
theorem lift_par {i j : Nat} {Wr : WA} (D : Ends) (σ : L2.St) (H : Hp) (h : liftS cl (wPar i j Wr) D σ H) : tPar i j (liftA cl Wr) D σ H := by
  obtain ⟨G, ρ, M, DD, st, h, k⟩ := h
  refine ⟨G, ρ, M, _, st, h, fun ds xs M1 G1 H1 s1 st1 dn1 h1 => ?_⟩
  obtain ⟨d, e, rfl, h1⟩ := h1
  obtain ⟨x, y, rfl, n, m⟩ := denL_2 dn1
  exact ⟨x, y, rfl, k.nx _ _ _ _ _ s1 ((st1.set n).set m) h1⟩
def wPar3 (i j l : Nat) (Wr : WA) : WS := fun DD ρ M => Wr ρ M fun ds M1 => ∃ d e f, ds = [d, e, f] ∧ DD.nx (((ρ.set i (some d)).set j (some e)).set l (some f)) M1
theorem lift_par3 {i j l : Nat} {Wr : WA} (D : Ends) (σ : L2.St) (H : Hp) (h : liftS cl (wPar3 i j l Wr) D σ H) : tPar3 i j l (liftA cl Wr) D σ H := by
  obtain ⟨G, ρ, M, DD, st, h, k⟩ := h
  refine ⟨G, ρ, M, _, st, h, fun ds xs M1 G1 H1 s1 st1 dn1 h1 => ?_⟩
  obtain ⟨d, e, f, rfl, h1⟩ := h1
  obtain ⟨x, ys, rfl, n, m⟩ := denL_cons.mp dn1
  obtain ⟨y, z, rfl, m1, m2⟩ := denL_2 m
  exact ⟨x, y, z, rfl, k.nx _ _ _ _ _ s1 (((st1.set n).set m1).set m2) h1⟩
/-- o[i] = v -/
abbrev rSetA : V → V → V → Hp → (Hp → Prop) → Prop := fun o i v H Q => rSetL o i v H Q ∨ ∃ a H', o = .ref a ∧ DPut H a i v H' ∧ Q H'
theorem set_any (hu : X.A.units + 1 < cLine) : PSet X rSetA := fun pins s σ H o i v ov iv u Q I ro ri rv h => by
  rcases h with h | ⟨a, H', rfl, g, q⟩
  · exact set_list pins s σ H o i v ov iv u Q I ro ri rv h
  · cases ro
    exact d_setItem hu I g ri rv fun s4 I4 => ⟨H', I4, q⟩
inductive OSet : Dat → Dat → Dat → Mem → (Mem → Prop) → Prop
  | lst {p ds i j d M} {Φ : Mem → Prop} : M p = some (.lst ds) → ixN ds.length i = some j → Φ (M.put p (.lst (ds.set j d))) → OSet (.v (.ref p)) (.v (.int i)) d M Φ
  | dic {p ks ds b k d M} {Φ : Mem → Prop} : M p = some (.dic ks ds) → keyD b = some k → ks.length < sizeLine → Φ (M.put p (.dic (dputK ks k) (dputV ks ds k d))) → OSet (.v (.ref p)) b d M Φ
def gdSub (Wo Wi : WE) : WG := fun d ρ M Φ => Wo ρ M fun o M1 => Wi ρ M1 fun i M2 => OSet o i d M2 fun M3 => Φ ρ M3
theorem dt_sub {o i : Expr} {Wo Wi : WE} (hu : X.A.units + 1 < cLine) (ho : DE cl X o Wo) (hi : DE cl X i Wi) (ha : ∀ v, assign (.Subscript o i pos) X.env v = (do
      let ov ← holding [v] (eval o X.env)
      let iv ← holding [v, ov] (eval i X.env)
      standAt pos
      holding [v, ov, iv] (setItem ov iv v)
      release [v, ov, iv] []) := by intro _; rfl) : DT' cl X (.Subscript o i pos) (gdSub Wo Wi) := by
  refine ⟨_, pg_sub ho hi (set_any hu) ha, fun G H ρ M σ d x Φ Q st dn h k => ?_⟩
  refine ⟨G, ρ, M, _, st, h, fun od ox M1 G1 H1 s1 st1 dn1 h1 => ⟨G1, ρ, M1, _, st1, h1, fun id ix M2 G2 H2 s2 st2 dn2 h2 => ?_⟩⟩
  have dnx := dn.mono (s1.trans s2).ex
  have dno := dn1.mono s2.ex
  cases h2 with
  | lst hm hj h =>
    have := den_v.mp dno
    subst this
    have := den_v.mp dn2
    subst this
    obtain ⟨zs, hp, lz⟩ := (st2.mem _ _ hm).2
    exact .inl ⟨_, zs, _, _, rfl, rfl, hp, by rw [lz.length]; exact hj, k _ _ _ _ _ ((s1.trans s2).trans (st2.write_step hm)) (st2.write (c := .lst _) hm ⟨_, upd_same, lz.set _ dnx⟩) h⟩
  | dic hm hk hz h =>
    have := den_v.mp dno
    subst this
    obtain ⟨ws, hp, hks, l⟩ := (st2.mem _ _ hm).2
    have e := keyD_kV hk dn2
    subst e hks
    rename_i kk
    obtain ⟨e1, l1⟩ := dput_at (k := kk) l dnx
    exact .inr ⟨_, _, rfl, DPut.k hp (by simpa using hz), k _ _ _ _ _ ((s1.trans s2).trans (st2.write_step hm)) (st2.write (c := .dic _ _) hm ⟨_, upd_same, e1, l1⟩) h⟩
/-- o.f = v, o a slotted instance -/
def gSl (K : PySem.W.Frag) (to : TE) (f : Str) : TG := fun y σ H Q => to σ H fun x H2 => ∃ a C dx p vs i, x = .ref a ∧ Slt H2 a C dx vs ∧ SCls K C ∧ Slot1 K C f p i ∧ Q σ (slH H2 a C dx (putS i y vs))
theorem pg_sl {o : Expr} {to : TE} {f : Str} (ho : PE X o to) : PG X (.Attribute o f pos) (gSl X.K to f) := by
  refine ⟨fun pins s σ H y u Q I ry h => ?_⟩
  rw [assign_Attribute]
  refine wpAny_bind (wpAny_holding (thn (ho.run pins s σ H _ I h) fun ov s1 ⟨x, H1, I1, rx, a, C, dx, p, vs, i, ex, hsl, c, t, q2⟩ => ?_))
  subst ex
  obtain rfl : ov = Value.ref a := rx
  refine wpAny_bind (wpAny_standAt (wpAny_bind (wpAny_holding (setslot_ok I1 hsl c t ry fun s3 I3 => ?_))))
  exact wpAny_release ⟨σ, _, I3, q2⟩
def gdFld (K : PySem.W.Frag) (cl : Nat → Addr) (f : Str) (Wo : WE) : WG := fun d ρ M Φ => Wo ρ M fun o M1 => ∃ a c ds i p, o = .v (.ref a) ∧ M1 a = some (.obj c ds) ∧ SCls K (cl c) ∧ Slot1 K (cl c) f p i ∧ Φ ρ (M1.put a (.obj c (ds.set i d)))
theorem gd_fld {o : Expr} {f : Str} {Wo : WE} (K : PySem.W.Frag) : GD cl (gSl K (liftE cl Wo) f) (gdFld K cl f Wo) := fun G H ρ M σ d x Φ Q st dn h k => ⟨G, ρ, M, _, st, h, fun od ox M1 G1 H1 s1 st1 dn1 h1 => by
  obtain ⟨a, c, ds, i, p, rfl, hm, sc, sl, h1⟩ := h1
  have := den_v.mp dn1
  subst this
  obtain ⟨g, dx, vs, ne, hs, l, hx⟩ := st1.obj_at hm
  exact ⟨a, cl c, dx, p, vs, i, rfl, hs, sc, sl, k _ _ _ _ _ (s1.trans (st1.put_slot_step (es := ds.set i d) (vs' := putS i x vs) hm ne hx)) (st1.put_slot (vs := vs) hm ne hx (l.put (dn.mono s1.ex))) h1⟩⟩
theorem dt_fld {o : Expr} {f : Str} {Wo : WE} (ho : DE cl X o Wo) : DT' cl X (.Attribute o f pos) (gdFld X.K cl f Wo) := ⟨_, pg_sl ho, gd_fld (o := o) X.K⟩
theorem ds_fld {o : Expr} {f : Str} {pos' : Pos} {Wo : WE} (ho : DE cl X o Wo) (he : DE cl X e We) (hs : swapsWith e (some (.Attribute o f pos')) pos.line X.env = pure false := by rfl) : DS cl X (.Assign [.Attribute o f pos'] e pos) (wAsg We (gdFld X.K cl f Wo)) :=
  PS.imp (ps_sl ho he hs) fun D σ H h => lift_asg (gd_fld (o := o) X.K) D σ H h
end
end DL
set_option maxRecDepth 100000
set_option maxHeartbeats 2000000
/-! D layer, part I: loops, comprehensions, defs. -/
namespace DL
open PySem PySem.Spec PyProof.Rows L2 SlX
section
variable {cl : Nat → Addr} {X : Cx} {G G' H H' G1 H1 : Hp} {M M' M1 : Mem} {ρ : Env} {σ : L2.St} {DD : DEnds} {D : Ends} {pos : Pos} {e : Expr} {We : WE} {Wt : WT} {p : Addr} {o : HO}
/-! ### a new object beside the state -/
theorem Step.upd_new (s : Step G1 H1 M1 G' H' M') (hp : H1 p = none) : Step G1 H1 M1 G' (upd H' p o) M' :=
  ⟨s.ex, fun b u h so hm => by rw [upd_ne (ne_of_none h hp)]; exact s.keep b u h so hm, fun b h => by
    rw [upd_ne (fun e => h (by rw [e]; exact hp))]; exact s.dom b h, s.fresh, s.gnew⟩
/-- an object that is neither frozen nor a cell is laid or changed -/
theorem StOk.aside (st : StOk cl G H ρ M σ) (g : G p = none) (m : M p = none) (h : ∀ u, H p = some u → Solid u) : StOk cl G (upd H p o) ρ M σ := by
  refine ⟨st.ex.upd1 g, fun a c ha => ?_, st.len, st.env⟩
  obtain ⟨ga, k⟩ := st.mem a c ha
  refine ⟨ga, k.frame (Exh.refl _) (upd_ne (mem_ne ha m)) (fun y hy => ?_) (fun y hy => ?_)⟩
  · have n : y ≠ p := fun e => by
      subst e
      exact (h _ hy).1 _ rfl
    exact ⟨upd_ne n, id⟩
  · have n : y ≠ p := fun e => by
      subst e
      exact (h _ hy).2 _ rfl
    rw [upd_ne n]; exact hy
/-- it becomes frozen, a cell -/
theorem StOk.adoptF (st : StOk cl G H ρ M σ) (g : G p = none) (m : M p = none) (h : H p = some o) (so : Solid o) : StOk cl (upd G p o) H ρ M σ := by
  refine ⟨fun b u hb => ?_, fun a c ha => ?_, st.len, env_mono (e := Exh.new g) st.env⟩
  · by_cases q : b = p
    · subst q; rw [upd_same] at hb; cases hb; exact h
    · rw [upd_ne q] at hb; exact st.ex b u hb
  · obtain ⟨ga, k⟩ := st.mem a c ha
    refine ⟨by rw [upd_ne (mem_ne ha m)]; exact ga, k.frame (Exh.new g) rfl (fun y hy => ⟨rfl, fun q => ?_⟩) (fun y hy => hy)⟩
    rw [upd_ne (fun e => by rw [e, h] at hy; cases hy; exact so.1 _ rfl)]; exact q
theorem StOk.adoptM (st : StOk cl G H ρ M σ) (g : G p = none) {c : Dat} (k : Cell cl G H p c) : StOk cl G H ρ (M.put p c) σ := by
  refine ⟨st.ex, fun a d ha => ?_, st.len, st.env⟩
  by_cases q : a = p
  · subst q; rw [put_same] at ha; cases ha; exact ⟨g, k⟩
  · rw [put_ne q] at ha; exact st.mem a d ha
theorem Step.adoptF (s : Step G1 H1 M1 G H M) (g : G p = none) (hp : H1 p = none) : Step G1 H1 M1 (upd G p o) H M :=
  ⟨s.ex.trans (Exh.new g), s.keep, s.dom, s.fresh, fun b h => by
    by_cases q : b = p
    · subst q; exact .inr (.inl hp)
    · rw [upd_ne q] at h; exact s.gnew b h⟩
theorem Step.adoptM {c : Dat} (s : Step G1 H1 M1 G H M) (hp : H1 p = none) : Step G1 H1 M1 G H (M.put p c) :=
  ⟨s.ex, s.keep, s.dom, fun b h => by
    by_cases q : b = p
    · subst q; exact .inr hp
    · rw [put_ne q] at h; exact s.fresh b h, s.gnew⟩
theorem Step.g_none (s : Step G H M G' H' M') (h : H p = some o) (so : Solid o) (g : G p = none) (m : M p = none) : G' p = none := by
  cases q : G' p with
  | none => rfl
  | some u =>
    rcases s.gnew p (by rw [q]; exact fun z => nomatch z) with z | z | z | ⟨u', z, n⟩
    · exact (z g).elim
    · rw [h] at z; cases z
    · exact (z m).elim
    · rw [h] at z; cases z; exact (n so).elim
theorem Step.m_none (s : Step G H M G' H' M') (h : H p = some o) (m : M p = none) : M' p = none := by
  cases q : M' p with
  | none => rfl
  | some u =>
    rcases s.fresh p (by rw [q]; exact fun z => nomatch z) with z | z
    · exact (z m).elim
    · rw [h] at z; cases z
/-! ### what is walked -/
def gdT : Mem → Prop := fun _ => True
def iAny (K : PySem.W.Frag) (tl : TE) : TI := fun σ H R => tl σ H fun x H1 => (∃ a, x = .ref a ∧ (∃ xs, SqL K H1 a xs) ∧ R (Itl K a) H1) ∨ (∃ a, x = .ref a ∧ (∃ xs, SqT K H1 a xs) ∧ R (Itt K a) H1) ∨ ∃ z, x = .str z ∧ R (Its z) H1
theorem pi_any {tg l : Expr} {tl : TE} (hl : PE X l tl) : PI X tg l (iAny X.K tl) := by
  refine ⟨fun pins s σ H R I h => ?_⟩
  refine thn (hl.run pins s σ H _ I h) fun v s1 ⟨x, H1, I1, r1, q1⟩ => ?_
  rcases q1 with ⟨a, e, ⟨xs, hq⟩, q⟩ | ⟨a, e, ⟨xs, hq⟩, q⟩ | ⟨z, e, q⟩
  · subst e
    cases r1
    obtain ⟨its, rv, p, hz⟩ := I1.list hq
    refine wpAny_pyIter_list p.isList ?_
    refine ⟨s1.heap.objs.size, [s1.heap.objs.size], _, _, H1, rfl, I1.kept (t' := s1.toks) fun b o e => Heap.get?_push_of_some _ e, turn_list a _, ⟨_, Heap.get?_push_size _ rfl, rfl, rfl⟩, fun b hb => ?_, q⟩
    have e : b = s1.heap.objs.size := by simpa using hb
    subst e
    exact I1.fpOk (Nat.le_refl _) (I1.hok.fresh (Nat.le_refl _))
  · subst e
    cases r1
    obtain ⟨its, rv, p, hz⟩ := I1.tuple hq
    refine wpAny_pyIter_tuple (show s1.heap.IsTuple a its.toArray from p) ?_
    refine ⟨s1.heap.objs.size, [s1.heap.objs.size], _, _, H1, rfl, I1.kept (t' := s1.toks) fun b o e => Heap.get?_push_of_some _ e, turn_tuple a _, ⟨_, Heap.get?_push_size _ rfl, rfl, rfl⟩, fun b hb => ?_, q⟩
    have e : b = s1.heap.objs.size := by simpa using hb
    subst e
    exact I1.fpOk (Nat.le_refl _) (I1.hok.fresh (Nat.le_refl _))
  · subst e
    obtain ⟨t, rfl⟩ := r1
    cases ha : z.cps.all (· < 128)
    · exact wpAny_pyIter_wide ha (pi_one (tk := s1.toks) I1 _ (turn_str _ z t "str_iterator" (.inr rfl)) ⟨_, Heap.get?_push_size _ rfl, rfl, rfl⟩ q)
    · exact wpAny_pyIter_ascii ha (pi_one (tk := s1.toks) I1 _ (turn_str _ z t "str_ascii_iterator" (.inl rfl)) ⟨_, Heap.get?_push_size _ rfl, rfl, rfl⟩ q)
def signs (z : Str) : List Dat := z.cps.toList.map fun c => .v (.str ⟨#[c]⟩)
/-- a list (frozen, or a cell that stays), a tuple, a text -/
inductive OIt : Dat → Mem → (List Dat → (Mem → Prop) → Mem → Prop) → Prop
  | lst {ds M} {Ψ : List Dat → (Mem → Prop) → Mem → Prop} : Ψ ds gdT M → OIt (.lst ds) M Ψ
  | tup {ds M} {Ψ : List Dat → (Mem → Prop) → Mem → Prop} : Ψ ds gdT M → OIt (.tup ds) M Ψ
  | str {z M} {Ψ : List Dat → (Mem → Prop) → Mem → Prop} : Ψ (signs z) gdT M → OIt (.v (.str z)) M Ψ
  | cell {a ds M} {Ψ : List Dat → (Mem → Prop) → Mem → Prop} : M a = some (.lst ds) → Ψ ds (fun M' => M' a = some (.lst ds)) M → OIt (.v (.ref a)) M Ψ
def wIt (We : WE) : WI := fun ρ M Ψ => We ρ M fun d M1 => OIt d M1 Ψ
theorem walkL {K : PySem.W.Frag} {a : Addr} {ds : List Dat} {xs : List V} {G0 : Hp} {gd : Mem → Prop} (h : ∀ G H ρ M σ, Exh G0 G → StOk cl G H ρ M σ → gd M → ∃ ys, H a = some (.lst ys) ∧ DenL cl G ds ys) : WalkD cl (Itl K a) ds G0 gd := by
  refine ⟨fun i G H ρ M σ e st g hi => ?_, fun G H ρ M σ e st g => ?_, fun i G H ρ M σ x H' e st g hi y => ?_⟩
  · obtain ⟨ys, h1, l⟩ := h G H ρ M σ e st g
    exact (walk_list (K := K) (a := a) (xs := ys)).goes i H (by rw [l.length]; exact hi) (SqL.of h1)
  · obtain ⟨ys, h1, l⟩ := h G H ρ M σ e st g
    have := (walk_list (K := K) (a := a) (xs := ys)).stops H (SqL.of h1)
    rw [l.length] at this
    exact this
  · obtain ⟨ys, h1, l⟩ := h G H ρ M σ e st g
    obtain ⟨e2, hx⟩ := (walk_list (K := K) (a := a) (xs := ys)).yields i H x H' (by rw [l.length]; exact hi) (SqL.of h1) y
    subst e2
    obtain ⟨d, hd, n⟩ := l.back hx
    exact ⟨d, G, hd, .refl, st, n⟩
theorem di_any {tg it : Expr} (he : DE cl X it We) : DI cl X tg it (wIt We) := by
  refine ⟨_, pi_any he, fun G H ρ M σ Ψ R st h k => ⟨G, ρ, M, _, st, h, fun d x M1 G1 H1 s1 st1 dn h1 => ?_⟩⟩
  cases h1 with
  | lst h =>
    obtain ⟨p, xs, rfl, hp, l⟩ := den_lst.mp dn
    exact .inl ⟨p, rfl, ⟨xs, SqL.of (st1.rd hp)⟩, k _ _ _ _ _ _ s1 st1 (walkL (xs := xs) fun G H ρ M σ e st _ => ⟨xs, st.rd (e _ _ hp), l.mono e⟩) h⟩
  | @cell a ds _ _ hm h =>
    have := den_v.mp dn
    subst this
    obtain ⟨xs, hp, l⟩ := (st1.mem _ _ hm).2
    exact .inl ⟨_, rfl, ⟨xs, SqL.of hp⟩, k _ _ _ _ _ _ s1 st1 (walkL (xs := xs) (gd := fun M' => M' a = some (.lst ds)) fun G H ρ M σ e st g => (st.mem _ _ g).2) h⟩
  | tup h =>
    obtain ⟨p, xs, rfl, hp, l⟩ := den_tup.mp dn
    refine .inr (.inl ⟨p, rfl, ⟨xs, SqT.of (st1.rd hp)⟩, k _ _ _ _ _ _ s1 st1 ⟨fun i G H ρ M σ e st g hi => ?_, fun G H ρ M σ e st g => ?_, fun i G H ρ M σ x H' e st g hi y => ?_⟩ h⟩)
    · exact walk_tup.goes i H (by rw [l.length]; exact hi) (SqT.of (st.rd (e _ _ hp)))
    · have := (walk_tup (K := X.K)).stops H (SqT.of (st.rd (e _ _ hp)))
      rw [l.length] at this
      exact this
    · obtain ⟨e2, hx⟩ := walk_tup.yields i H x H' (by rw [l.length]; exact hi) (SqT.of (st.rd (e _ _ hp))) y
      subst e2
      obtain ⟨d, hd, n⟩ := l.back hx
      exact ⟨d, G, hd, .refl, st, n.mono e⟩
  | @str z _ _ h =>
    have hl : (signs z).length = z.cps.size := by simp [signs]
    refine .inr (.inr ⟨_, den_v.mp dn, k _ _ _ _ _ _ s1 st1 ⟨fun i G H ρ M σ e st g hi => ?_, fun G H ρ M σ e st g => ?_, fun i G H ρ M σ x H' e st g hi y => ?_⟩ h⟩)
    · exact walk_str.goes i H (by rw [← hl]; exact hi) trivial
    · have := (walk_str (z := z)).stops H trivial
      rw [hl]; exact this
    · obtain ⟨e2, c, hc, hx⟩ := walk_str.yields i H x H' (by rw [← hl]; exact hi) trivial y
      subst e2
      refine ⟨.v (.str ⟨#[c]⟩), G, ?_, .refl, st, den_v.mpr hx⟩
      unfold signs
      rw [List.getElem?_map, Array.getElem?_toList, hc]
      rfl
/-! ### range -/
def rngD (lo : Int) (n : Nat) : List Dat := (List.range n).map fun i => .v (.int (lo + (i : Nat)))
theorem walkR {lo : Int} {n : Nat} {G0 : Hp} : WalkD cl (Itr lo n) (rngD lo n) G0 gdT := by
  have hl : (rngD lo n).length = n := by simp [rngD]
  refine ⟨fun i G H ρ M σ e st g hi => ?_, fun G H ρ M σ e st g => ?_, fun i G H ρ M σ x H' e st g hi y => ?_⟩
  · exact walk_range.goes i H (by rw [← hl]; exact hi) trivial
  · have := (walk_range (lo := lo) (n := n)).stops H trivial
    rw [hl]; exact this
  · have hi2 : i < n := by rw [← hl]; exact hi
    obtain ⟨e2, hx⟩ := (walk_range (lo := lo) (n := n)).yields i H x H' hi2 trivial y
    subst e2
    refine ⟨.v (.int (lo + (i : Nat))), G, ?_, .refl, st, den_v.mpr hx⟩
    unfold rngD
    rw [List.getElem?_map, List.getElem?_range hi2]
    rfl
def wRng1 (Wr : WA) : WI := fun ρ M Ψ => Wr ρ M fun ds M1 => ∃ j : Int, ds = [.v (.int j)] ∧ -(2 ^ 62) ≤ j ∧ j < 2 ^ 62 ∧ Ψ (rngD 0 j.toNat) gdT M1
def wRng2 (Wr : WA) : WI := fun ρ M Ψ => Wr ρ M fun ds M1 => ∃ i j : Int, ds = [.v (.int i), .v (.int j)] ∧ (-(2 ^ 62) ≤ i ∧ i < 2 ^ 62 ∧ -(2 ^ 62) ≤ j ∧ j < 2 ^ 62) ∧ Ψ (rngD i (j - i).toNat) gdT M1
variable {Wr : WA}
theorem id_rng1 : ID cl (iRng1 (liftA cl Wr)) (wRng1 Wr) := fun G H ρ M σ Ψ R st h k => ⟨G, ρ, M, _, st, h, fun ds xs M1 G1 H1 s1 st1 dn h1 => by
  obtain ⟨j, e, h2, h3, h4⟩ := h1
  subst e
  obtain ⟨x, e, n⟩ := denL_1 dn
  subst e
  exact ⟨j, by rw [den_v.mp n], h2, h3, k _ _ _ _ _ _ s1 st1 walkR h4⟩⟩
theorem id_rng2 : ID cl (iRng2 (liftA cl Wr)) (wRng2 Wr) := fun G H ρ M σ Ψ R st h k => ⟨G, ρ, M, _, st, h, fun ds xs M1 G1 H1 s1 st1 dn h1 => by
  obtain ⟨i, j, e, h2, h4⟩ := h1
  subst e
  obtain ⟨x, y, e, n, m⟩ := denL_2 dn
  subst e
  exact ⟨i, j, by rw [den_v.mp n, den_v.mp m], h2, k _ _ _ _ _ _ s1 st1 walkR h4⟩⟩
theorem di_rng1 {tg a : Expr} {p : Pos} (hm : X.mg "range" = none) (ha : DA cl X [a] Wr) (hg : Gl X "range" := by rfl) (hs : starEach [a] X.env = [(false, eval a X.env)] := by rfl) : DI cl X tg (.Call (.Name "range" p) [a] [] pos) (wRng1 Wr) :=
  ⟨_, pi_range1 hg hm ha hs, id_rng1⟩
theorem di_rng2 {tg a b : Expr} {p : Pos} (hm : X.mg "range" = none) (ha : DA cl X [a, b] Wr) (hg : Gl X "range" := by rfl) (hs : starEach [a, b] X.env = [(false, eval a X.env), (false, eval b X.env)] := by rfl) (hs2 : starEach [b] X.env = [(false, eval b X.env)] := by rfl) : DI cl X tg (.Call (.Name "range" p) [a, b] [] pos) (wRng2 Wr) :=
  ⟨_, pi_range2 hg hm ha hs hs2, id_rng2⟩
/-! ### enumerate, zip -/
def enumD (ds : List Dat) : List Dat := ds.zipIdx.map fun q => .tup [.v (.int (q.2 : Nat)), q.1]
theorem enumD_get {ds : List Dat} {i : Nat} : (enumD ds)[i]? = ds[i]?.map fun d => .tup [.v (.int (i : Nat)), d] := by
  unfold enumD
  rw [List.getElem?_map, List.getElem?_zipIdx]
  cases ds[i]? with
  | none => rfl
  | some d => simp
theorem enumD_len {ds : List Dat} : (enumD ds).length = ds.length := by simp [enumD]
def wEnum (Wr : WA) : WI := fun ρ M Ψ => Wr ρ M fun ds M1 => ∃ d es, ds = [d] ∧ lstV M1 d = some es ∧ Ψ (enumD es) (fun M' => lstV M' d = some es) M1
theorem lstV_gd {d : Dat} {es : List Dat} {K : PySem.W.Frag} {a : Addr} (ha : ∀ G H ρ M σ, Exh G1 G → StOk cl G H ρ M σ → lstV M d = some es → ∃ ys, H a = some (.lst ys) ∧ DenL cl G es ys) : WalkD cl (Ite K a) (enumD es) G1 (fun M' => lstV M' d = some es) := by
  refine ⟨fun i G H ρ M σ e st g hi => ?_, fun G H ρ M σ e st g => ?_, fun i G H ρ M σ x H' e st g hi y => ?_⟩
  · obtain ⟨ys, h1, l⟩ := ha G H ρ M σ e st g
    exact walk_enum.goes i H (by rw [l.length, ← enumD_len]; exact hi) (SqL.of h1)
  · obtain ⟨ys, h1, l⟩ := ha G H ρ M σ e st g
    have := (walk_enum (K := K)).stops H (SqL.of h1)
    rw [l.length, ← enumD_len] at this
    exact this
  · obtain ⟨ys, h1, l⟩ := ha G H ρ M σ e st g
    obtain ⟨T, x1, x2, rfl, hT, rfl, h2, h3⟩ := walk_enum.yields i H x H' (by rw [l.length, ← enumD_len]; exact hi) (SqL.of h1) y
    obtain ⟨d, hd, n⟩ := l.back h3
    have h2' : x1 = .int (i : Nat) := (Option.some.inj h2).symm
    subst h2'
    refine ⟨.tup [.v (.int (i : Nat)), d], _, by rw [enumD_get, hd]; rfl, st.newF_step hT, st.newF (o := .tup [.int (i : Nat), x2]) hT, den_tup.mpr ⟨T, _, rfl, upd_same, ?_⟩⟩
    exact denL_cons.mpr ⟨_, _, rfl, den_v.mpr rfl, .one (n.mono (Exh.new (st.gnone hT)))⟩
theorem lst_place {d : Dat} {x : V} {es : List Dat} (st1 : StOk cl G1 H1 ρ M1 σ) (dn : Den cl G1 d x) (h : lstV M1 d = some es) : ∃ a, x = .ref a ∧ (∃ xs, H1 a = some (.lst xs)) ∧ ∀ G H ρ M σ, Exh G1 G → StOk cl G H ρ M σ → lstV M d = some es → ∃ ys, H a = some (.lst ys) ∧ DenL cl G es ys := by
  obtain ⟨p, xs, rfl, hp, l⟩ := st1.lstV dn h
  refine ⟨p, rfl, ⟨xs, hp⟩, fun G H ρ M σ e st g => ?_⟩
  obtain ⟨q, ys, e2, hq, l2⟩ := st.lstV (dn.mono e) g
  cases e2
  exact ⟨ys, hq, l2⟩
theorem id_enum {K : PySem.W.Frag} : ID cl (iEnum K (liftA cl Wr)) (wEnum Wr) := fun G H ρ M σ Ψ R st h k => ⟨G, ρ, M, _, st, h, fun ds xs M1 G1 H1 s1 st1 dn h1 => by
  obtain ⟨d, es, e, hl, h4⟩ := h1
  subst e
  obtain ⟨x, e, n⟩ := denL_1 dn
  subst e
  obtain ⟨a, e, ⟨ys, hy⟩, ha⟩ := lst_place st1 n hl
  subst e
  exact ⟨a, ys, rfl, SqL.of hy, k _ _ _ _ _ _ s1 st1 (lstV_gd ha) h4⟩⟩
theorem di_enum {elts : List Expr} {kk : Nat} {tpos p : Pos} {a : Expr} (hm : X.mg "enumerate" = none) (ha : DA cl X [a] Wr) (hg : Gl X "enumerate" := by rfl) (hs : starEach [a] X.env = [(false, eval a X.env)] := by rfl) :
    DI cl X (.Tuple elts kk tpos) (.Call (.Name "enumerate" p) [a] [] pos) (wEnum Wr) := ⟨_, pi_enum hg hm ha hs, id_enum⟩
/-! ### for -/
def wForB (Wg : WG) (Wb : WS) (DD : DEnds) (ρ : Env) (ds : List Dat) (gd : Mem → Prop) (M1 : Mem) : Prop := ∃ P : Nat → Env → Mem → Prop, P 0 ρ M1 ∧ (∀ i d ρ' M', ds[i]? = some d → P i ρ' M' → gd M' ∧ Wg d ρ' M' fun ρ2 M2 => Wb { DD with nx := P (i + 1), ct := P (i + 1), bk := DD.nx } ρ2 M2) ∧
  ∀ ρ' M', P ds.length ρ' M' → gd M' ∧ DD.nx ρ' M'
def wFor (Wi : WI) (Wg : WG) (Wb : WS) : WS := fun DD ρ M => Wi ρ M fun ds gd M1 => wForB Wg Wb DD ρ ds gd M1
theorem lift_for {wi : TI} {Wi : WI} {g : TG} {Wg : WG} {Wb : WS} (hi : ID cl wi Wi) (hg : GD cl g Wg) (D : Ends) (σ : L2.St) (H : Hp) (h : liftS cl (wFor Wi Wg Wb) D σ H) : tFor wi g (liftS cl Wb) D σ H := by
  obtain ⟨G, ρ, M, DD, st, h, k⟩ := h
  refine hi _ _ _ _ _ _ _ st h fun ds gd J M1 G1 H1 s1 st1 wk h1 => ?_
  obtain ⟨P, p0, ps, pe⟩ := h1
  refine ⟨fun i m σ' H' => m = ds.length - i ∧ i ≤ ds.length ∧ ∃ ρ' M' G', Step G1 H1 M1 G' H' M' ∧ StOk cl G' H' ρ' M' σ' ∧ P i ρ' M', ⟨ds.length, by simp, Nat.zero_le _, ρ, M1, G1, .refl, st1, p0⟩, ?_⟩
  rintro i m σ' H' ⟨rfl, hi, ρ', M', G', s2, st2, p⟩
  by_cases hlt : i < ds.length
  · obtain ⟨gm, q⟩ := ps i ds[i] ρ' M' (by simp [hlt]) p
    refine .inr ⟨wk.goes i G' H' ρ' M' σ' s2.ex st2 gm hlt, fun σ2 H2 => ∃ ρ2 M2 G2, Step G1 H1 M1 G2 H2 M2 ∧ StOk cl G2 H2 ρ2 M2 σ2 ∧ P (i + 1) ρ2 M2, fun σ2 H2 q => ⟨ds.length - (i + 1), by omega, rfl, hlt, q⟩, fun x H3 y => ?_⟩
    obtain ⟨d, G3, hd, s3, st3, dn⟩ := wk.yields i G' H' ρ' M' σ' x H3 s2.ex st2 gm hlt y
    have e : d = ds[i] := by
      rw [List.getElem?_eq_getElem hlt] at hd
      exact (Option.some.inj hd).symm
    subst e
    refine hg _ _ _ _ _ _ _ _ _ st3 dn q fun ρ4 M4 σ4 G4 H4 s4 st4 h4 => ?_
    have s234 := (s2.trans s3).trans s4
    exact ⟨G4, ρ4, M4, _, st4, h4, ⟨fun ρ5 M5 σ5 G5 H5 s5 st5 h5 => ⟨ρ5, M5, G5, s234.trans s5, st5, h5⟩, fun d x ρ5 M5 σ5 G5 H5 s5 st5 dn5 h5 => k.rt _ _ _ _ _ _ _ ((s1.trans s234).trans s5) st5 dn5 h5,
      fun ρ5 M5 σ5 G5 H5 s5 st5 h5 => k.nx _ _ _ _ _ ((s1.trans s234).trans s5) st5 h5, fun ρ5 M5 σ5 G5 H5 s5 st5 h5 => ⟨ρ5, M5, G5, s234.trans s5, st5, h5⟩⟩⟩
  · have e : i = ds.length := by omega
    subst e
    obtain ⟨gm, q⟩ := pe ρ' M' p
    exact .inl ⟨wk.stops G' H' ρ' M' σ' s2.ex st2 gm, k.nx _ _ _ _ _ (s1.trans s2) st2 q⟩
theorem ds_for {tg iter : Expr} {body : List Stmt} {Wi : WI} {Wg : WG} {Wb : WS} (hp : PassesOwn (model X.prog X.w) X.A X.env X.xe) (hc : X.calm = true) (hi : DI cl X tg iter Wi) (hg : DT' cl X tg Wg) (hb : DSs cl X body Wb)
    (hs : ∀ x, foldedSetIterable iter X.env x = pure x := by intro _; rfl) : DS cl X (.For tg iter body [] pos) (wFor Wi Wg Wb) := by
  obtain ⟨wi, pi, hid⟩ := hi
  obtain ⟨g, pg, gd⟩ := hg
  exact PS.imp (ps_for hp hc pi pg hb hs) (lift_for hid gd)
/-! ### while -/
def wWhile (Wt : WT) (Wb : WS) : WS := fun DD ρ M => ∃ P : Nat → Env → Mem → Prop, (∃ m, P m ρ M) ∧ ∀ m ρ' M', P m ρ' M' → Wt ρ' M' fun b M1 => if b = true then Wb { DD with nx := fun ρ2 M2 => ∃ m', m' < m ∧ P m' ρ2 M2, ct := fun ρ2 M2 => ∃ m', m' < m ∧ P m' ρ2 M2, bk := DD.nx } ρ' M1 else DD.nx ρ' M1
theorem lift_while {Wb : WS} (D : Ends) (σ : L2.St) (H : Hp) (h : liftS cl (wWhile Wt Wb) D σ H) : tWhile (liftT cl Wt) (liftS cl Wb) D σ H := by
  obtain ⟨G, ρ, M, DD, st, h, k⟩ := h
  obtain ⟨P, ⟨m, p0⟩, ps⟩ := h
  refine ⟨fun m σ' H' => ∃ ρ' M' G', Step G H M G' H' M' ∧ StOk cl G' H' ρ' M' σ' ∧ P m ρ' M', ⟨m, ρ, M, G, .refl, st, p0⟩, ?_⟩
  rintro m σ' H' ⟨ρ', M', G', s2, st2, p⟩
  refine ⟨G', ρ', M', _, st2, ps m ρ' M' p, fun b M1 G1 H1 s1 st1 h1 => ?_⟩
  cases b with
  | true =>
    refine ⟨fun σ2 H2 => ∃ m', m' < m ∧ ∃ ρ' M' G', Step G H M G' H2 M' ∧ StOk cl G' H2 ρ' M' σ2 ∧ P m' ρ' M', fun σ2 H2 q => q, ?_⟩
    refine ⟨G1, ρ', M1, _, st1, h1, ⟨fun ρ5 M5 σ5 G5 H5 s5 st5 h5 => ?_, fun d x ρ5 M5 σ5 G5 H5 s5 st5 dn5 h5 => k.rt _ _ _ _ _ _ _ ((s2.trans s1).trans s5) st5 dn5 h5, fun ρ5 M5 σ5 G5 H5 s5 st5 h5 => k.nx _ _ _ _ _ ((s2.trans s1).trans s5) st5 h5, fun ρ5 M5 σ5 G5 H5 s5 st5 h5 => ?_⟩⟩
    · obtain ⟨m', hm, h5⟩ := h5
      exact ⟨m', hm, ρ5, M5, G5, (s2.trans s1).trans s5, st5, h5⟩
    · obtain ⟨m', hm, h5⟩ := h5
      exact ⟨m', hm, ρ5, M5, G5, (s2.trans s1).trans s5, st5, h5⟩
  | false => exact k.nx _ _ _ _ _ (s2.trans s1) st1 h1
theorem ds_while {c : Expr} {body : List Stmt} {Wb : WS} (hp : PassesOwn (model X.prog X.w) X.A X.env X.xe) (hc : DT cl X c Wt) (hb : DSs cl X body Wb) : DS cl X (.While c body [] pos) (wWhile Wt Wb) := PS.imp (ps_while hp hc hb) lift_while
/-! ### list comprehensions -/
def wipeD (ρ : Env) : List Nat → Env
  | [] => ρ
  | v :: vs => (wipeD ρ vs).set v none
theorem StOk.wipe (st : StOk cl G H ρ M σ) : ∀ vs : List Nat, StOk cl G H (wipeD ρ vs) M (L2.wipe σ vs)
  | [] => st
  | v :: vs => by
    have ih := StOk.wipe st vs
    refine ⟨ih.ex, ih.mem, by simp [wipeD, L2.wipe, ih.len], fun i d h => ?_⟩
    unfold wipeD at h
    unfold L2.wipe
    by_cases q : i = v
    · subst q
      by_cases hl : i < (wipeD ρ vs).length
      · rw [List.getElem?_set_self hl] at h; cases h
      · rw [List.getElem?_eq_none (by simp; omega)] at h; cases h
    · rw [List.getElem?_set_ne (Ne.symm q)] at h ⊢
      exact ih.env i d h
theorem wipe_set {vs : List Nat} {i : Nat} (hi : i ∈ vs) : ∀ {σ : L2.St} {o : Option V}, L2.wipe (σ.set i o) vs = L2.wipe σ vs := by
  have comm : ∀ (ws : List Nat) (σ : L2.St) (o : Option V), L2.wipe (σ.set i o) ws = (L2.wipe σ ws).set i (if i ∈ ws then none else o) := by
    intro ws
    induction ws with
    | nil => intro σ o; simp [L2.wipe]
    | cons v ws ih =>
      intro σ o
      unfold L2.wipe
      rw [ih]
      by_cases q : i = v
      · subst q
        rw [List.set_set, if_pos List.mem_cons_self, List.set_set]
      · rw [List.set_comm _ _ (q : i ≠ v)]
        congr 1
        by_cases z : i ∈ ws
        · rw [if_pos z, if_pos (List.mem_cons_of_mem _ z)]
        · rw [if_neg z, if_neg (fun m => (List.mem_cons.mp m).elim q z)]
  intro σ o
  rw [comm, if_pos hi]
  have : ∀ (ws : List Nat) (σ : L2.St), i ∈ ws → (L2.wipe σ ws).set i none = L2.wipe σ ws := by
    intro ws
    induction ws with
    | nil => intro σ h; cases h
    | cons v ws ih =>
      intro σ h
      unfold L2.wipe
      by_cases q : i = v
      · subst q; rw [List.set_set]
      · rw [List.set_comm _ _ (Ne.symm q : v ≠ i), ih σ ((List.mem_cons.mp h).elim (fun e => (q e).elim) id)]
  exact this vs σ hi
/-- a comprehension's target: it stores the block's own names alone -/
def GC (cl : Nat → Addr) (vs : List Nat) (t : TG) (W : WG) : Prop := ∀ G H ρ M σ d x Φ (Q : L2.St → Hp → Prop), StOk cl G H ρ M σ → Den cl G d x → W d ρ M Φ → (∀ ρ' M' σ' G' H', Step G H M G' H' M' → StOk cl G' H' ρ' M' σ' → L2.wipe σ' vs = L2.wipe σ vs → Φ ρ' M' → Q σ' H') → t x σ H Q
def GCs (cl : Nat → Addr) (vs : List Nat) (t : TGs) (W : WGs) : Prop := ∀ G H ρ M σ ds xs Φ (Q : L2.St → Hp → Prop), StOk cl G H ρ M σ → DenL cl G ds xs → W ds ρ M Φ → (∀ ρ' M' σ' G' H', Step G H M G' H' M' → StOk cl G' H' ρ' M' σ' → L2.wipe σ' vs = L2.wipe σ vs → Φ ρ' M' → Q σ' H') → t xs σ H Q
theorem gc_name {vs : List Nat} {i : Nat} (hi : i ∈ vs) : GC cl vs (gName i) (gdName i) := fun G H ρ M σ d x Φ Q st dn h k => k _ _ _ _ _ .refl (st.set dn) (wipe_set hi) h
theorem gcs_nil {vs : List Nat} : GCs cl vs gNil gdNil := fun G H ρ M σ ds xs Φ Q st l ⟨e, h⟩ k => by
  subst e
  exact ⟨denL_nil.mp l, k _ _ _ _ _ .refl st rfl h⟩
theorem gcs_cons {vs : List Nat} {g : TG} {gs : TGs} {W : WG} {Ws : WGs} (h : GC cl vs g W) (hr : GCs cl vs gs Ws) : GCs cl vs (gCons g gs) (gdCons W Ws) := fun G H ρ M σ ds xs Φ Q st l ⟨d, r, e, h1⟩ k => by
  subst e
  obtain ⟨y, ys, rfl, n, l⟩ := denL_cons.mp l
  exact ⟨y, ys, rfl, h _ _ _ _ _ _ _ _ _ st n h1 fun ρ' M' σ' G' H' s1 st1 w1 h1 => hr _ _ _ _ _ _ _ _ _ st1 (l.mono s1.ex) h1 fun ρ2 M2 σ2 G2 H2 s2 st2 w2 h2 => k _ _ _ _ _ (s1.trans s2) st2 (w2.trans w1) h2⟩
theorem gc_tup {K : PySem.W.Frag} {vs : List Nat} {n : Nat} {g : TGs} {Ws : WGs} (h : GCs cl vs g Ws) : GC cl vs (fun v σ H Q => gTup K n g v σ H Q ∨ gLst K n g v σ H Q) (gdTup n Ws) := fun G H ρ M σ d x Φ Q st dn ⟨ds, e, hl, h1⟩ k => by
  obtain ⟨p, xs, rfl, hp, l⟩ := st.seqV dn e
  rcases hp with hp | hp
  · exact .inr ⟨p, xs, rfl, SqL.of hp, by rw [l.length]; exact hl, h _ _ _ _ _ _ _ _ _ st l h1 k⟩
  · exact .inl ⟨p, xs, rfl, SqT.of hp, by rw [l.length]; exact hl, h _ _ _ _ _ _ _ _ _ st l h1 k⟩
def wLcB (Wg : WG) (Wt : WT) (We : WE) (vs : List Nat) (ρ : Env) (Φ : Dat → Mem → Prop) (ds : List Dat) (gd : Mem → Prop) (M1 : Mem) : Prop := ∃ P : Nat → List Dat → Mem → Prop, P 0 [] M1 ∧
  (∀ i d acc M', ds[i]? = some d → P i acc M' → gd M' ∧ Wg d (wipeD ρ vs) M' fun ρ2 M2 => Wt ρ2 M2 fun b M3 => if b = true then We ρ2 M3 fun y M4 => acc.length < sizeLine ∧ P (i + 1) (acc ++ [y]) M4 else P (i + 1) acc M3) ∧
  ∀ acc M', P ds.length acc M' → gd M' ∧ newL acc M' Φ
def wLc (Wi : WI) (Wg : WG) (Wt : WT) (We : WE) (vs : List Nat) : WE := fun ρ M Φ => Wi ρ M fun ds gd M1 => wLcB Wg Wt We vs ρ Φ ds gd M1
theorem lift_lc {wi : TI} {Wi : WI} {g : TG} {Wg : WG} {vs : List Nat} (hi : ID cl wi Wi) (hg : GC cl vs g Wg) (σ : L2.St) (H : Hp) (Q : VK) (h : liftE cl (wLc Wi Wg Wt We vs) σ H Q) : tLc wi g (liftT cl Wt) (liftE cl We) vs σ H Q := by
  obtain ⟨G, ρ, M, Φ, st, h, k⟩ := h
  refine hi _ _ _ _ _ _ _ st h fun ds gd J M1 G1 H1 s1 st1 wk h1 => ?_
  intro D hD
  obtain ⟨P, p0, ps, pe⟩ := h1
  have sol : ∀ xs, Solid (.lst xs) := fun xs => MutO.solid rfl
  have g1 := st1.gnone hD
  have m1 := st1.mnone hD
  refine ⟨fun i m H' => m = ds.length - i ∧ i ≤ ds.length ∧ ∃ acc xs M' G', Step G1 H1 M1 G' H' M' ∧ StOk cl G' H' (wipeD ρ vs) M' (L2.wipe σ vs) ∧ G' D = none ∧ M' D = none ∧ H' D = some (.lst xs) ∧ DenL cl G' acc xs ∧ P i acc M',
    ⟨ds.length, by simp, Nat.zero_le _, [], [], M1, G1, Step.refl.upd_new hD, (st1.wipe vs).aside g1 m1 (fun u hu => by rw [hD] at hu; cases hu), g1, m1, upd_same, denL_nil.mpr rfl, p0⟩, ?_⟩
  rintro i m H' ⟨rfl, hi, acc, xs, M', G', s2, st2, gD, mD, hDx, l, p⟩
  by_cases hlt : i < ds.length
  · obtain ⟨gm, q⟩ := ps i ds[i] acc M' (by simp [hlt]) p
    refine .inr ⟨wk.goes i G' H' _ M' _ s2.ex st2 gm hlt, fun H2 => ∃ acc xs M2 G2, Step G1 H1 M1 G2 H2 M2 ∧ StOk cl G2 H2 (wipeD ρ vs) M2 (L2.wipe σ vs) ∧ G2 D = none ∧ M2 D = none ∧ H2 D = some (.lst xs) ∧ DenL cl G2 acc xs ∧ P (i + 1) acc M2, fun H2 q => ⟨ds.length - (i + 1), by omega, rfl, hlt, q⟩, fun x H3 y => ?_⟩
    obtain ⟨d, G3, hd, s3, st3, dn⟩ := wk.yields i G' H' _ M' _ x H3 s2.ex st2 gm hlt y
    have e : d = ds[i] := by
      rw [List.getElem?_eq_getElem hlt] at hd
      exact (Option.some.inj hd).symm
    subst e
    refine hg _ _ _ _ _ _ _ _ _ st3 dn q fun ρ4 M4 σ4 G4 H4 s4 st4 w4 h4 => ⟨?_, ?_⟩
    · rw [w4]
      have : ∀ us : List Nat, (∀ u ∈ us, u ∈ vs) → L2.wipe (L2.wipe σ us) vs = L2.wipe σ vs := by
        intro us
        induction us with
        | nil => intro _; rfl
        | cons u us ih =>
          intro hu
          show L2.wipe ((L2.wipe σ us).set u none) vs = _
          rw [wipe_set (hu u List.mem_cons_self), ih fun v hv => hu v (List.mem_cons_of_mem _ hv)]
      exact this vs fun _ h => h
    · -- the test
      have back : ∀ {G5 H5 M5 σ5 ρ5}, StOk cl G5 H5 ρ5 M5 σ5 → Exh G' G5 → StOk cl G5 H5 (wipeD ρ vs) M5 (L2.wipe σ vs) := fun st5 e => st5.bare.swap e st2
      refine ⟨G4, ρ4, M4, _, st4, h4, fun b M5 G5 H5 s5 st5 h5 => ?_⟩
      have s25 := (s3.trans s4).trans s5
      cases b with
      | true =>
        refine ⟨G5, ρ4, M5, _, st5, h5, fun y yx M6 G6 H6 s6 st6 dn6 h6 => ?_⟩
        have s26 := s25.trans s6
        have hD6 := s26.keep D _ hDx (sol _) mD
        have gD6 := s26.g_none hDx (sol _) gD mD
        have mD6 := s26.m_none hDx mD
        refine ⟨xs, hD6, by rw [l.length]; exact h6.1, acc ++ [y], xs ++ [yx], M6, G6, (s2.trans s26).upd_new hD, (back st6 s26.ex).aside gD6 mD6 (fun u hu => by rw [hD6] at hu; cases hu; exact sol _), gD6, mD6, upd_same, (l.mono s26.ex).append (.one dn6), h6.2⟩
      | false => exact ⟨acc, xs, M5, G5, s2.trans s25, back st5 s25.ex, s25.g_none hDx (sol _) gD mD, s25.m_none hDx mD, s25.keep D _ hDx (sol _) mD, l.mono s25.ex, h5⟩
  · have e : i = ds.length := by omega
    subst e
    obtain ⟨gm, q⟩ := pe acc M' p
    refine .inl ⟨wk.stops G' H' _ M' _ s2.ex st2 gm, ?_⟩
    have st3 : StOk cl G' H' ρ M' σ := st2.bare.swap s2.ex st1
    rcases q with q | q
    · exact k _ _ _ _ _ (s1.trans (s2.adoptF gD hD)) (st3.adoptF gD mD hDx (sol _)) (den_lst.mpr ⟨D, xs, rfl, upd_same, l.mono (Exh.new gD)⟩) q
    · exact k _ _ _ _ _ (s1.trans (s2.adoptM hD)) (st3.adoptM (c := .lst acc) gD ⟨xs, hDx, l⟩) (den_v.mpr rfl) (q D mD)
/-- a block's target -/
def CT (cl : Nat → Addr) (X : Cx) (scope : Scope) (vs : List Nat) (tg : Expr) (W : WG) : Prop := ∃ g, (∀ (s : Shared) (H : Hp) (C : Addr) (cs : List (Str × Addr)) (fp : List Addr), PG (X.blk s H scope (compEnvC scope cs C X.env) fp) tg g) ∧ GC cl vs g W
def wYes : WT := fun _ M Φ => Φ true M
theorem lift_yes (σ : L2.St) (H : Hp) (Q : Bool → Hp → Prop) (h : liftT cl wYes σ H Q) : tYes σ H Q := by
  obtain ⟨G, ρ, M, Φ, st, h, k⟩ := h
  exact k _ _ _ _ .refl st h
def DTT (cl : Nat → Addr) (X : Cx) (ifs : List Expr) (W : WT) : Prop := PTs X ifs (liftT cl W)
theorem PTs.imp {X : Cx} {e : List Expr} {t t' : TT} (h : PTs X e t) (i : ∀ σ H Q, t' σ H Q → t σ H Q) : PTs X e t' := ⟨fun pins s σ H Q I q => h.run pins s σ H Q I (i σ H Q q)⟩
theorem dtt_nil : DTT cl X [] wYes := PTs.imp pts_nil lift_yes
theorem dtt_one {c : Expr} (h : DT cl X c Wt) : DTT cl X [c] Wt := pts_one h
theorem de_lc {elt tg iter : Expr} {ifs : List Expr} {scope : Scope} {own : List (Str × Nat)} {Wi : WI} {Wg : WG} (hc : X.calm = true) (hN : X.N.Nodup) (hi : DI cl X tg iter Wi) (ok : BlkOk X.N X.env.scope scope own) (hg : CT cl X scope (own.map (·.2)) tg Wg)
    (ht : ∀ (s : Shared) (H : Hp) (C : Addr) (cs : List (Str × Addr)) (fp : List Addr), DTT cl (X.blk s H scope (compEnvC scope cs C X.env) fp) ifs Wt)
    (he : ∀ (s : Shared) (H : Hp) (C : Addr) (cs : List (Str × Addr)) (fp : List Addr), DE cl (X.blk s H scope (compEnvC scope cs C X.env) fp) elt We) (hs : ∀ x, foldedSetIterable iter X.env x = pure x := by intro _; rfl) :
    DE cl X (.ListComp elt [⟨tg, iter, ifs, 0⟩] scope pos) (wLc Wi Wg Wt We (own.map (·.2))) := by
  obtain ⟨wi, pi, hid⟩ := hi
  obtain ⟨g, pg, gd⟩ := hg
  exact PE.imp (pe_lc hc hN pi ok pg ht he hs) (lift_lc hid gd)
theorem ds_setLc {i : Nat} {y : Str} {py spos : Pos} {elt tg iter : Expr} {ifs : List Expr} {scope : Scope} {own : List (Str × Nat)} {Wi : WI} {Wg : WG} (hc : X.calm = true) (hN : X.N.Nodup) (hy : X.N[i]? = some y) (hyl : X.env.scope.names.lookup y = some .local)
    (hsw : swapsWith (.ListComp elt [⟨tg, iter, ifs, 0⟩] scope pos) (some (.Name y py)) spos.line X.env = pure true) (hi : DI cl X tg iter Wi) (ok : BlkOk X.N X.env.scope scope own) (hg : CT cl X scope (own.map (·.2)) tg Wg)
    (ht : ∀ (s : Shared) (H : Hp) (C : Addr) (cs : List (Str × Addr)) (fp : List Addr), DTT cl (X.blk s H scope (compEnvC scope cs C X.env) fp) ifs Wt)
    (he : ∀ (s : Shared) (H : Hp) (C : Addr) (cs : List (Str × Addr)) (fp : List Addr), DE cl (X.blk s H scope (compEnvC scope cs C X.env) fp) elt We) (hs : ∀ x, foldedSetIterable iter X.env x = pure x := by intro _; rfl) :
    DS cl X (.Assign [.Name y py] (.ListComp elt [⟨tg, iter, ifs, 0⟩] scope pos) spos) (wAsg (wLc Wi Wg Wt We (own.map (·.2))) (gdName i)) := by
  obtain ⟨wi, pi, hid⟩ := hi
  obtain ⟨g, pg, gd⟩ := hg
  exact PS.imp (ps_setLc hc hN hy hyl hsw pi ok pg ht he hs) fun D σ H h => by
    have := lift_asg (cl := cl) (We := wLc Wi Wg Wt We (own.map (·.2))) gd_name D σ H h
    exact lift_lc hid gd σ H _ this
end
end DL
set_option maxRecDepth 100000
set_option maxHeartbeats 2000000
/-! D layer, part J: calls, defs, methods, makers, properties. -/
namespace DL
open PySem PySem.Spec PyProof.Rows L2 SlX
/-- a def's promise by data -/
def spD (cl : Nat → Addr) (C : DOs) : Sp := fun vs H Q _ => ∃ G M ds Φ, StOk cl G H [] M [] ∧ DenL cl G ds vs ∧ C ds M Φ ∧ KE cl [] [] G H M Φ Q
def startD (N : List Str) (ds : List Dat) : Env := ds.map some ++ List.replicate (N.length - ds.length) none
def retD (Φ : Dat → Mem → Prop) : DEnds := { nx := fun _ M => ∃ M2, M2.le M ∧ Φ (.v .non) M2, rt := Φ }
section
variable {cl : Nat → Addr} {G H : Hp} {M : Mem} {ρ : Env} {σ : L2.St}
theorem start_ok {N : List Str} {ds : List Dat} {vs : List V} (st : StOk cl G H [] M []) (l : DenL cl G ds vs) : StOk cl G H (startD N ds) M (L2.start N vs) := by
  refine ⟨st.ex, st.mem, ?_, fun i d h => ?_⟩
  · unfold startD L2.start
    simp [l.length]
  · unfold startD at h
    unfold L2.start
    by_cases q : i < ds.length
    · rw [List.getElem?_append_left (by simpa using q), List.getElem?_map] at h
      rw [List.getElem?_append_left (by simpa [l.length] using q), List.getElem?_map]
      cases e : ds[i]? with
      | none => rw [e] at h; cases h
      | some d' =>
        rw [e] at h; cases h
        obtain ⟨x, hx, n⟩ := l.get e
        exact ⟨x, by rw [hx]; rfl, n⟩
    · rw [List.getElem?_append_right (by simpa using q), List.getElem?_replicate] at h
      split at h <;> cases h
theorem KE.call {Φ : Dat → Mem → Prop} {Q : VK} (k : KE cl σ ρ G H M Φ Q) (st : StOk cl G H ρ M σ) : KE cl [] [] G H M Φ Q := fun d x M' G' H' s st' dn h => k d x M' G' H' s (st'.swap s.ex st) dn h
end
section
variable {P : Program} {w : World} {K : PySem.W.Frag} {mg : Str → Option Value} {base : Heap} {cl : Nat → Addr}
theorem body_D {X : Cx} {body : List Stmt} {N : List Str} {W : WS} {C : DOs} {vs : List V} {H : Hp} {Q : VK} {E : XK} (hW : ∀ ds M Φ, C ds M Φ → W (retD Φ) (startD N ds) M) (h : spD cl C vs H Q E) : liftS cl W { nx := fun _ H' => Q .non H', rt := Q } (L2.start N vs) H := by
  obtain ⟨G, M, ds, Φ, st, l, hC, k⟩ := h
  refine ⟨G, startD N ds, M, retD Φ, start_ok st l, hW ds M Φ hC, ⟨fun ρ' M' σ' G' H' s st' ⟨M2, le, h⟩ => ?_, fun d x ρ' M' σ' G' H' s st' dn h => k d x M' G' H' s st'.bare dn h, fun _ _ _ _ _ _ _ h => h.elim, fun _ _ _ _ _ _ _ h => h.elim⟩⟩
  exact k _ _ _ _ _ (s.trans (Step.forget le)) (st'.forget le).bare (den_v.mpr rfl) h
theorem spD_len {C : DOs} {n : Nat} (hl : ∀ ds M Φ, C ds M Φ → ds.length = n) {vs : List V} {H : Hp} {Q : VK} {E : XK} (h : spD cl C vs H Q E) : vs.length = n := by
  obtain ⟨G, M, ds, Φ, st, l, hC, k⟩ := h
  rw [l.length, hl ds M Φ hC]
/-- THE RULE for a def: its promise by data from its body's -/
theorem fn_D {x qual : Str} {params : Arguments} {body : List Stmt} {scope : Scope} {f : Addr} {fd : FuncData} {N ps : List Str} {k : Nat} {C : DOs} (F : FunD K x qual params body scope [] [] f fd) (S : FnScope N ps scope) (hl : ∀ ds M Φ, C ds M Φ → ds.length = ps.length)
    (hbody : ∀ (cdv : Value) (A : Around) (outer : List PySem.Env) (s : Shared) (H : Hp) (E : XK), Room k (A.deeper (envOfC qual scope s.heap.objs.size f cdv)) →
      ∃ W, DSs cl (cxOf CX0 P w K mg base N qual scope f cdv A outer s H E).nox body W ∧ ∀ ds M Φ, C ds M Φ → W (retD Φ) (startD N ds) M) : FnOk P w K mg base CX0 (k + 1) f fd ps (spD cl C) := by
  refine F.ok S (fun vs H Q E h => spD_len hl h) fun cdv A outer s H vs Q E hr h => ?_
  obtain ⟨W, hb, hW⟩ := hbody cdv A outer s H E hr
  exact ⟨_, PSs.nox hb, body_D (X := cxOf CX0 P w K mg base N qual scope f cdv A outer s H E) (body := body) hW h⟩
/-- .. by its name -/
abbrev DCal (P : Program) (w : World) (K : PySem.W.Frag) (mg : Str → Option Value) (base : Heap) (cl : Nat → Addr) (k : Nat) (x : Str) (C : DOs) : Prop := C8.Cal P w K mg base k x (spD cl C) []
theorem cal_D {x : Str} {params : Arguments} {body : List Stmt} {scope : Scope} {f : Addr} {fd : FuncData} {N ps : List Str} {k : Nat} {C : DOs} (F : FunD K x x params body scope [] [] f fd) (hm : mg x = some (.ref f)) (b : Binds K fd ps []) (S : FnScope N ps scope) (hl : ∀ ds M Φ, C ds M Φ → ds.length = ps.length)
    (hbody : ∀ (cdv : Value) (A : Around) (outer : List PySem.Env) (s : Shared) (H : Hp) (E : XK), Room k (A.deeper (envOfC x scope s.heap.objs.size f cdv)) →
      ∃ W, DSs cl (cxOf CX0 P w K mg base N x scope f cdv A outer s H E).nox body W ∧ ∀ ds M Φ, C ds M Φ → W (retD Φ) (startD N ds) M) : DCal P w K mg base cl (k + 1) x C :=
  ⟨f, fd, ps, [], fn_D F S hl hbody, hm, F.kp, b, .nil⟩
theorem DCal.imp {k : Nat} {x : Str} {C C' : DOs} (c : DCal P w K mg base cl k x C) (h : ∀ ds M Φ, C' ds M Φ → C ds M Φ) : DCal P w K mg base cl k x C' := by
  obtain ⟨f, fd, ps, ds, F, r⟩ := c.ex
  exact ⟨f, fd, ps, ds, F.imp fun vs H Q E ⟨G, M, ds, Φ, st, l, hC, k⟩ => ⟨G, M, ds, Φ, st, l, h _ _ _ hC, k⟩, r⟩
/-- a method of a slotted class -/
structure DMet (P : Program) (w : World) (K : PySem.W.Frag) (mg : Str → Option Value) (base : Heap) (cl : Nat → Addr) (k : Nat) (n : Nat) (m : Str) (C : DOs) : Prop where
  ex : ∃ g, SCls K (cl n) ∧ Meth K (cl n) m g ∧ FnR P w K mg base CX0 k g (spD cl C)
theorem fnr_D {k : Nat} {f : Addr} {fd : FuncData} {ps : List Str} {C : DOs} (F : FnOk P w K mg base CX0 k f fd ps (spD cl C)) (hb : Binds K fd ps []) : FnR P w K mg base CX0 k f (spD cl C) := by
  have h := F.raw hb .nil
  exact h.imp fun vs H Q E q => by rw [List.append_nil]; exact q
/-- what makes a slotted instance: class number n, so many slots -/
structure DMak (P : Program) (w : World) (K : PySem.W.Frag) (mg : Str → Option Value) (base : Heap) (cl : Nat → Addr) (k : Nat) (x : Str) (n : Nat) (C : DOs) : Prop where
  ex : ∃ (f : Addr) (fd : FuncData) (ps : List Str), Mk K (cl n) f ∧ FnOk P w K mg base CX0 k f fd ps (spD cl C) ∧ mg x = some (.ref (cl n)) ∧ Binds K fd ps []
/-- a property of a slotted class -/
structure DPro (P : Program) (w : World) (K : PySem.W.Frag) (mg : Str → Option Value) (base : Heap) (cl : Nat → Addr) (k : Nat) (n : Nat) (f : Str) (C : DOs) : Prop where
  ex : ∃ p g, SCls K (cl n) ∧ PySem.W.findIn K (.ref (cl n)) f = some (some (.ref p)) ∧ PySem.W.specialIn K (.ref p) "__get__" = some (some (.builtin "property.__get__")) ∧ PySem.W.takesIn K (.ref p) = some true ∧
    (∃ rest, PySem.W.recIn K p "property" = some (.ref g :: rest)) ∧ FnR P w K mg base CX0 k g (spD cl C)
end
section
variable {cl : Nat → Addr} {X : Cx} {x m : Str} {C : DOs} {k j n : Nat} {e o : Expr} {es : List Expr} {p pos apos : Pos} {Wr : WA} {Wo : WE}
theorem lift_call (σ : L2.St) (H : Hp) (Q : VK) (h : liftE cl (wCal C Wr) σ H Q) : tCall (spD cl C) [] E0 (liftA cl Wr) σ H Q := by
  obtain ⟨G, ρ, M, Φ, st, h, k⟩ := h
  refine ⟨G, ρ, M, _, st, h, fun ds xs M1 G1 H1 s1 st1 dn1 h1 => ?_⟩
  show spD cl C (xs ++ []) H1 Q E0
  rw [List.append_nil]
  exact ⟨G1, M1, ds, Φ, st1.bare, dn1, h1, (k.pre s1).call st1⟩
theorem de_call (c : DCal X.prog X.w X.K X.mg X.base cl k x C) (hr : Room j X.A) (ha : DA cl X (e :: es) Wr) (hk : k ≤ j := by decide) (hg : Gl X x := by rfl) (hdb : (x == ("__debug__" : Str)) = false := by decide)
    (he : starEach (e :: es) X.env = (false, eval e X.env) :: starEach es X.env := by rfl) (hpl : (backTo pos (starEach es X.env)).any (·.1) = false := by rfl) : DE cl X (.Call (.Name x p) (e :: es) [] pos) (wCal C Wr) :=
  PE.imp (C8.pe_c c hr hk hg ha hdb he hpl) lift_call
/-- o.m(..) -/
def wMeth (n : Nat) (C : DOs) (Wo : WE) (Wr : WA) : WE := fun ρ M Φ => Wo ρ M fun d M1 => (∃ ds, objV M1 d = some (n, ds)) ∧ Wr ρ M1 fun es M2 => C (d :: es) M2 Φ
theorem de_meth {pl : Sem Bool} (c : DMet X.prog X.w X.K X.mg X.base cl k n m C) (hr : Room j X.A) (ho : DE cl X o Wo) (ha : DA cl X (e :: es) Wr) (hk : k ≤ j := by decide)
    (hst : starEach (e :: es) X.env = (false, eval e X.env) :: starEach es X.env := by rfl) (hpl : (backTo pos (starEach es X.env)).any (·.1) = false := by rfl)
    (ht : eval (.Call (.Attribute o m apos) (e :: es) [] pos) X.env = (do
      let ov ← eval o X.env
      standAt apos.atName
      let (f, first) ← holding [ov] (getMethod ov m pl)
      callWith pos f first (backTo pos (starEach (e :: es) X.env)) (backToKw pos (keywordEach [] X.env))) := by rfl) : DE cl X (.Call (.Attribute o m apos) (e :: es) [] pos) (wMeth n C Wo Wr) := by
  obtain ⟨g, sc, hm, F⟩ := c.ex
  exact PE.imp (pe_methSl (pl := pl) ho sc hm (F.mono hk) hr pass0 ha hst hpl ht) fun σ H Q ⟨G, ρ, M, Φ, st, h, k⟩ => ⟨G, ρ, M, _, st, h, fun d x M1 G1 H1 s1 st1 dn1 h1 => by
    obtain ⟨⟨ds, hob⟩, h1⟩ := h1
    obtain ⟨a, dx, vs, rfl, hs, l⟩ := st1.objV dn1 hob
    exact ⟨a, dx, vs, rfl, hs, ⟨G1, ρ, M1, _, st1, h1, fun es xs M2 G2 H2 s2 st2 dn2 h2 => ⟨G2, M2, d :: es, Φ, st2.bare, denL_cons.mpr ⟨_, _, rfl, dn1.mono s2.ex, dn2⟩, h2, (k.pre (s1.trans s2)).call st2⟩⟩⟩⟩
theorem de_meth0 {pl : Sem Bool} (c : DMet X.prog X.w X.K X.mg X.base cl k n m C) (hr : Room j X.A) (ho : DE cl X o Wo) (hk : k ≤ j := by decide)
    (ht : eval (.Call (.Attribute o m apos) [] [] pos) X.env = (do
      let ov ← eval o X.env
      standAt apos.atName
      let (f, first) ← holding [ov] (getMethod ov m pl)
      callWith pos f first (backTo pos (starEach [] X.env)) (backToKw pos (keywordEach [] X.env))) := by rfl) : DE cl X (.Call (.Attribute o m apos) [] [] pos) (wMeth n C Wo wNil) := by
  obtain ⟨g, sc, hm, F⟩ := c.ex
  exact PE.imp (pe_methSl0 (pl := pl) ho sc hm (F.mono hk) hr pass0 ht) fun σ H Q ⟨G, ρ, M, Φ, st, h, k⟩ => ⟨G, ρ, M, _, st, h, fun d x M1 G1 H1 s1 st1 dn1 h1 => by
    obtain ⟨⟨ds, hob⟩, h1⟩ := h1
    obtain ⟨a, dx, vs, rfl, hs, l⟩ := st1.objV dn1 hob
    exact ⟨a, dx, vs, rfl, hs, ⟨G1, M1, [d], Φ, st1.bare, .one dn1, h1, (k.pre s1).call st1⟩⟩⟩
/-- C(..) -/
def wMake (n nf : Nat) (C : DOs) (Wr : WA) : WE := fun ρ M Φ => Wr ρ M fun ds M1 => ∀ a, M1 a = none → C (.v (.ref a) :: ds) (M1.put a (.obj n (List.replicate nf .unset))) fun d M2 => d = .v .non ∧ Φ (.v (.ref a)) M2
theorem lift_make {nf : Nat} (σ : L2.St) (H : Hp) (Q : VK) (h : liftE cl (wMake n nf C Wr) σ H Q) : tMake (cl n) (spD cl C) [] E0 (liftA cl Wr) σ H Q := by
  obtain ⟨G, ρ, M, Φ, st, h, k⟩ := h
  refine ⟨G, ρ, M, _, st, h, fun ds xs M1 G1 H1 s1 st1 dn1 h1 a dx ha hdx ne => ?_⟩
  show spD cl C (.ref a :: (xs ++ [])) _ _ _
  rw [List.append_nil]
  have hM := st1.mnone ha
  -- dx is laid, then the instance
  have g1 := st1.gnone hdx
  have st2 : StOk cl G1 (upd H1 dx (.own a)) ρ M1 σ := st1.aside g1 (st1.mnone hdx) fun u hu => by rw [hdx] at hu; cases hu
  have ha2 : upd H1 dx (.own a) a = none := by rw [upd_ne (Ne.symm ne)]; exact ha
  have st3 : StOk cl G1 (upd (upd H1 dx (.own a)) a (.ins (cl n) dx [])) ρ (M1.put a (.obj n (List.replicate nf .unset))) σ := st2.newM ha2 ⟨dx, [], ne, .inl ⟨upd_same, rfl, by rw [upd_ne ne, upd_same], g1⟩, DenF.unsets _ _⟩
  have s3 : Step G1 H1 M1 G1 (upd (upd H1 dx (.own a)) a (.ins (cl n) dx [])) (M1.put a (.obj n (List.replicate nf .unset))) := (Step.refl.upd_new hdx).upd_new ha |>.adoptM ha
  refine ⟨G1, _, _, _, st3.bare, denL_cons.mpr ⟨_, _, rfl, den_v.mpr rfl, dn1⟩, h1 a hM, fun d x M' G' H' s4 st4 dn4 h4 => ?_⟩
  obtain ⟨e, h4⟩ := h4
  subst e
  exact ⟨den_v.mp dn4, k _ _ _ _ _ ((s1.trans s3).trans s4) (st4.swap (s3.trans s4).ex st1) (den_v.mpr rfl) h4⟩
theorem de_make {nf : Nat} (c : DMak X.prog X.w X.K X.mg X.base cl k x n C) (hr : Room j X.A) (ha : DA cl X (e :: es) Wr) (hk : k + 1 ≤ j := by decide) (hg : Gl X x := by rfl) (hdb : (x == ("__debug__" : Str)) = false := by decide)
    (he : starEach (e :: es) X.env = (false, eval e X.env) :: starEach es X.env := by rfl) (hpl : (backTo pos (starEach es X.env)).any (·.1) = false := by rfl) : DE cl X (.Call (.Name x p) (e :: es) [] pos) (wMake n nf C Wr) := by
  obtain ⟨f, fd, ps, M, F, hm, b⟩ := c.ex
  exact PE.imp (pe_make M F (hr.mono hk) hg hm b .nil pass0 ha hdb he hpl) lift_make
theorem de_make0 {nf : Nat} (c : DMak X.prog X.w X.K X.mg X.base cl k x n C) (hr : Room j X.A) (hk : k + 1 ≤ j := by decide) (hg : Gl X x := by rfl) (hdb : (x == ("__debug__" : Str)) = false := by decide) : DE cl X (.Call (.Name x p) [] [] pos) (wMake n nf C wNil) := by
  obtain ⟨f, fd, ps, M, F, hm, b⟩ := c.ex
  exact PE.imp (pe_make0 M F (hr.mono hk) hg hm b .nil pass0 hdb) fun σ H Q h => lift_make (Wr := wNil) σ H Q h |> fun q => by
    obtain ⟨G, ρ, M, Φ, st, h, k⟩ := q
    exact k [] [] M G H .refl st (denL_nil.mpr rfl) h
/-- o.f, a property -/
def wPro (n : Nat) (C : DOs) (Wo : WE) : WE := fun ρ M Φ => Wo ρ M fun d M1 => (∃ ds, objV M1 d = some (n, ds)) ∧ C [d] M1 Φ
theorem de_pro {f : Str} (c : DPro X.prog X.w X.K X.mg X.base cl k n f C) (hr : Room j X.A) (ho : DE cl X o Wo) (hk : k + 1 ≤ j := by decide) (hb : attributeBase o f X.env (eval o X.env) = eval o X.env := by rfl) : DE cl X (.Attribute o f pos) (wPro n C Wo) := by
  obtain ⟨p, g, sc, h1, h2, h3, h4, F⟩ := c.ex
  exact PE.imp (pe_propSl ho sc h1 h2 h3 h4 F (hr.mono hk) (E := E0) (fun _ _ _ _ z => z) hb) fun σ H Q ⟨G, ρ, M, Φ, st, h, k⟩ => ⟨G, ρ, M, _, st, h, fun d x M1 G1 H1 s1 st1 dn1 h1 => by
    obtain ⟨⟨ds, hob⟩, h1⟩ := h1
    obtain ⟨a, dx, vs, rfl, hs, l⟩ := st1.objV dn1 hob
    exact ⟨a, dx, vs, rfl, hs, ⟨G1, M1, [d], Φ, st1.bare, .one dn1, h1, (k.pre s1).call st1⟩⟩⟩
end
end DL
set_option maxRecDepth 100000
set_option maxHeartbeats 2000000
/-! D layer, part K: names stored together, negation, more. -/
namespace DL
open PySem PySem.Spec PyProof.Rows L2 SlX
section
variable {cl : Nat → Addr} {X : Cx} {pos : Pos} {Wr : WA} {a b c e : Expr} {Wa : WE}
theorem ds_par {i j : Nat} {x y : Str} {px py pt : Pos} {kt k2 pt2} (hc : X.calm = true) (hN : X.N.Nodup) (hi : X.N[i]? = some x) (hj : X.N[j]? = some y) (ha : DA cl X [a, b] Wr) (hij : i ≠ j := by decide)
    (hx : X.env.scope.names.lookup x = some .local := by rfl) (hy : X.env.scope.names.lookup y = some .local := by rfl)
    (hw : swappedStores [.Tuple [.Name x px, .Name y py] kt pt] (.Tuple [a, b] k2 pt2) X.env = pure (some [x, y]) := by rfl)
    (hs : swapsWithSole [.Tuple [.Name x px, .Name y py] kt pt] (.Tuple [a, b] k2 pt2) pos.line X.env = pure false := by rfl) :
    DS cl X (.Assign [.Tuple [.Name x px, .Name y py] kt pt] (.Tuple [a, b] k2 pt2) pos) (wPar i j Wr) := PS.imp (ps_par hc hN hi hj hij hx hy ha hw hs) lift_par
theorem ds_par3 {i j l : Nat} {x y z : Str} {px py pz pt : Pos} {kt k2 pt2} (hc : X.calm = true) (hN : X.N.Nodup) (hi : X.N[i]? = some x) (hj : X.N[j]? = some y) (hl : X.N[l]? = some z) (ha : DA cl X [a, b, c] Wr) (hij : i ≠ j := by decide) (hil : i ≠ l := by decide) (hjl : j ≠ l := by decide)
    (hx : X.env.scope.names.lookup x = some .local := by rfl) (hy : X.env.scope.names.lookup y = some .local := by rfl) (hz : X.env.scope.names.lookup z = some .local := by rfl)
    (hw : swappedStores [.Tuple [.Name x px, .Name y py, .Name z pz] kt pt] (.Tuple [a, b, c] k2 pt2) X.env = pure (some [x, y, z]) := by rfl)
    (hs : swapsWithSole [.Tuple [.Name x px, .Name y py, .Name z pz] kt pt] (.Tuple [a, b, c] k2 pt2) pos.line X.env = pure false := by rfl) :
    DS cl X (.Assign [.Tuple [.Name x px, .Name y py, .Name z pz] kt pt] (.Tuple [a, b, c] k2 pt2) pos) (wPar3 i j l Wr) := PS.imp (ps_par3 hc hN hi hj hl hij hil hjl hx hy hz ha hw hs) lift_par3
def wNeg (Wa : WE) : WE := fun ρ M Φ => Wa ρ M fun d M1 => ∃ i, d = .v (.int i) ∧ Φ (.v (.int (-i))) M1
theorem de_neg (ha : DE cl X a Wa) : DE cl X (.UnaryOp .USub a pos) (wNeg Wa) := PE.imp (pe_un un_neg ha) fun σ H Q ⟨G, ρ, M, Φ, st, h, k⟩ => ⟨G, ρ, M, _, st, h, fun d x M1 G1 H1 s1 st1 dn h1 => by
  obtain ⟨i, e, h1⟩ := h1
  subst e
  exact ⟨i, den_v.mp dn, k _ _ _ _ _ s1 st1 (den_v.mpr rfl) h1⟩⟩
/-- a comprehension's target of names -/
theorem ct_name {scope : Scope} {vs : List Nat} {i : Nat} {x : Str} (hN : X.N.Nodup) (hi : X.N[i]? = some x) (hv : i ∈ vs) (hx : ∀ (s : Shared) (H : Hp) (C : Addr) (cs : List (Str × Addr)) (fp : List Addr), PG (X.blk s H scope (compEnvC scope cs C X.env) fp) (.Name x pos) (gName i)) : CT cl X scope vs (.Name x pos) (gdName i) := ⟨_, hx, gc_name hv⟩
/-- x[..] of a cell of the memory: where it is -/
theorem lstV_put {M : Mem} {p : Addr} {ds : List Dat} : lstV (M.put p (.lst ds)) (.v (.ref p)) = some ds := by
  show (match (M.put p (.lst ds)) p with | some (.lst ds) => some ds | _ => none) = some ds
  rw [put_same]
theorem lstV_at {M : Mem} {p : Addr} {ds : List Dat} (h : M p = some (.lst ds)) : lstV M (.v (.ref p)) = some ds := by
  show (match M p with | some (.lst ds) => some ds | _ => none) = some ds
  rw [h]
theorem seqV_at {M : Mem} {p : Addr} {ds : List Dat} (h : M p = some (.lst ds)) : seqV M (.v (.ref p)) = some ds := lstV_at h
theorem dicV_at {M : Mem} {p : Addr} {ks : List Key} {ds : List Dat} (h : M p = some (.dic ks ds)) : dicV M (.v (.ref p)) = some (ks, ds) := by
  show (match M p with | some (.dic ks ds) => some (ks, ds) | _ => none) = some (ks, ds)
  rw [h]
theorem objV_at {M : Mem} {p : Addr} {n : Nat} {ds : List Dat} (h : M p = some (.obj n ds)) : objV M (.v (.ref p)) = some (n, ds) := by
  show (match M p with | some (.obj c ds) => some (c, ds) | _ => none) = some (n, ds)
  rw [h]
theorem pdM_at {M : Mem} {p : Addr} {ds : List Dat} {es : List PyData} (h : M p = some (.lst ds)) (k : pdFs ds = some es) : pdM M (.v (.ref p)) = some (.list es) := by
  show (match M p with | some (.lst ds) => (pdFs ds).map PyData.list | _ => none) = _
  rw [h]
  show (pdFs ds).map PyData.list = _
  rw [k]; rfl
theorem pdFs_strs : ∀ (ws : List Str), pdFs (ws.map fun w => .v (.str w)) = some (ws.map .str)
  | [] => rfl
  | w :: ws => by
    show pdFs (.v (.str w) :: ws.map fun w => .v (.str w)) = _
    unfold pdFs
    rw [pdFs_strs ws]
    rfl
theorem eqvAll_strs : ∀ (xs ys : List Str), PyData.eqvAll (xs.map .str) (ys.map .str) = decide (xs = ys)
  | [], [] => rfl
  | [], y :: ys => by simp [PyData.eqvAll]
  | x :: xs, [] => by simp [PyData.eqvAll]
  | x :: xs, y :: ys => by
    simp only [List.map_cons, PyData.eqvAll, PyData.eqv, eqvAll_strs xs ys, List.cons.injEq]
    rw [Bool.eq_iff_iff]
    simp [Bool.and_eq_true]
end
end DL
set_option maxRecDepth 100000
set_option maxHeartbeats 2000000
/-! D layer, part M: steps of a reading. -/
namespace DL
open PySem PySem.Spec PyProof.Rows L2 SlX
def wLenSet (Wa : WE) : WE := fun ρ M Φ => Wa ρ M fun d M1 => ∃ ws : List Str, lstV M1 d = some (ws.map fun w => Dat.v (.str w)) ∧ ws.Nodup ∧ ws.length ≤ 4000 ∧ Φ (.v (.int ws.length)) M1
section
variable {cl : Nat → Addr} {K : PySem.W.Frag} {ρ : Env} {M : Mem} {Φ : Dat → Mem → Prop} {Ψ : Bool → Mem → Prop} {Ξ : List Dat → Mem → Prop} {Θ : Env → Mem → Prop} {DD : DEnds} {Wa Wb Wc Wo : WE} {Wr : WA} {Wt Wu : WT} {W V : WS} {d e : Dat}
theorem i_var {i : Nat} (h : ρ[i]? = some (some d)) (k : Φ d M) : wVar i ρ M Φ := ⟨d, h, k⟩
theorem i_varI {i : Nat} (h : wVar i ρ M Φ) : wVar i ρ M Φ := h
theorem i_gtupI {n : Nat} {Ws : WGs} (h : gdTup n Ws d ρ M Θ) : gdTup n Ws d ρ M Θ := h
theorem i_isiI {c : L2.V} {u : Value} {ds : List Dat} (h : OIsi cl K c u ds M Φ) : OIsi cl K c u ds M Φ := h
theorem i_c {v : L2.V} (k : Φ (.v v) M) : wC v ρ M Φ := k
theorem i_op {o : DO2} (h : Wa ρ M fun d1 M1 => Wb ρ M1 fun d2 M2 => o d1 d2 M2 Φ) : wOp o Wa Wb ρ M Φ := h
theorem i_test (h : Wa ρ M fun d M1 => ∃ k, d = .v (.bl k) ∧ Ψ k M1) : wTest Wa ρ M Ψ := h
theorem i_chain {o o' : DO2} (h : Wa ρ M fun d1 M1 => Wb ρ M1 fun d2 M2 => o d1 d2 M2 fun z M3 => ∃ k, z = .v (.bl k) ∧ if k = true then Wc ρ M3 fun d3 M4 => o' d2 d3 M4 Φ else Φ (.v (.bl false)) M3) : wChain o o' Wa Wb Wc ρ M Φ := h
theorem i_and (h : Wt ρ M fun k M1 => if k = true then Wu ρ M1 Ψ else Ψ false M1) : wAnd Wt Wu ρ M Ψ := h
theorem i_or (h : Wt ρ M fun k M1 => if k = true then Ψ true M1 else Wu ρ M1 Ψ) : wOr Wt Wu ρ M Ψ := h
theorem i_not (h : Wt ρ M fun k M1 => Ψ (!k) M1) : wNot Wt ρ M Ψ := h
theorem i_andV (h : Wa ρ M fun d M1 => ∃ k, d = .v (.bl k) ∧ if k = true then Wb ρ M1 Φ else Φ (.v (.bl false)) M1) : wAndV Wa Wb ρ M Φ := h
theorem i_orV (h : Wa ρ M fun d M1 => ∃ k, d = .v (.bl k) ∧ if k = true then Φ (.v (.bl true)) M1 else Wb ρ M1 Φ) : wOrV Wa Wb ρ M Φ := h
theorem i_notV (h : Wa ρ M fun d M1 => ∃ k, d = .v (.bl k) ∧ Φ (.v (.bl (!k))) M1) : wNotV Wa ρ M Φ := h
theorem i_if (h : Wt ρ M fun k M1 => if k = true then Wa ρ M1 Φ else Wb ρ M1 Φ) : wIf Wt Wa Wb ρ M Φ := h
theorem i_nil (h : Ξ [] M) : wNil ρ M Ξ := h
theorem i_cons (h : Wa ρ M fun d M1 => Wr ρ M1 fun ds M2 => Ξ (d :: ds) M2) : wCons Wa Wr ρ M Ξ := h
theorem i_star (h : Wa ρ M fun d M1 => ∃ es, seqV M1 d = some es ∧ Wr ρ M1 fun ds M2 => Ξ (es ++ ds) M2) : wStar Wa Wr ρ M Ξ := h
theorem i_tup (h : Wr ρ M fun ds M1 => ds.length ≤ sizeLine ∧ Φ (.tup ds) M1) : wTup Wr ρ M Φ := h
theorem i_lst (h : Wr ρ M fun ds M1 => ds.length ≤ sizeLine ∧ newL ds M1 Φ) : wLst Wr ρ M Φ := h
theorem i_cal {o : DOs} (h : Wr ρ M fun ds M1 => o ds M1 Φ) : wCal o Wr ρ M Φ := h
theorem i_mt {T : Mem → Dat → Prop} {o : DOm} (h : Wo ρ M fun d M1 => T M1 d ∧ Wr ρ M1 fun ds M2 => o d ds M2 Φ) : wMt T o Wo Wr ρ M Φ := h
theorem i_m1 {o : DOm} (h : Wo ρ M fun d M1 => isStr M1 d ∧ Wa ρ M1 fun d2 M2 => o d [d2] M2 Φ) : wM1 o Wo Wa ρ M Φ := h
theorem i_fld {f : Str} (h : Wa ρ M fun d M1 => ∃ c ds i e p, objV M1 d = some (c, ds) ∧ SCls K (cl c) ∧ Slot1 K (cl c) f p i ∧ ds[i]? = some e ∧ e ≠ .unset ∧ Φ e M1) : wFld K cl f Wa ρ M Φ := h
theorem i_sl {Wl Wh : WO} (h : Wa ρ M fun d M1 => Wl ρ M1 fun lo M2 => Wh ρ M2 fun hi M3 => OSl d lo hi M3 Φ) : wSl Wa Wl Wh ρ M Φ := h
theorem i_noP {Ω : Option Int → Mem → Prop} (h : Ω none M) : wNoP ρ M Ω := h
theorem i_part {Ω : Option Int → Mem → Prop} (h : Wa ρ M fun d M1 => ∃ i, d = .v (.int i) ∧ Ω (some i) M1) : wPart Wa ρ M Ω := h
theorem i_neg (h : Wa ρ M fun d M1 => ∃ i, d = .v (.int i) ∧ Φ (.v (.int (-i))) M1) : wNeg Wa ρ M Φ := h
theorem i_meth {n : Nat} {C : DOs} (h : Wo ρ M fun d M1 => (∃ ds, objV M1 d = some (n, ds)) ∧ Wr ρ M1 fun es M2 => C (d :: es) M2 Φ) : wMeth n C Wo Wr ρ M Φ := h
theorem i_make {n nf : Nat} {C : DOs} (h : Wr ρ M fun ds M1 => ∀ a, M1 a = none → C (.v (.ref a) :: ds) (M1.put a (.obj n (List.replicate nf .unset))) fun d M2 => d = .v .non ∧ Φ (.v (.ref a)) M2) : wMake n nf C Wr ρ M Φ := h
theorem i_pro {n : Nat} {C : DOs} (h : Wo ρ M fun d M1 => (∃ ds, objV M1 d = some (n, ds)) ∧ C [d] M1 Φ) : wPro n C Wo ρ M Φ := h
theorem i_lc {Wi : WI} {Wg : WG} {vs : List Nat} (h : Wi ρ M fun ds gd M1 => wLcB Wg Wt Wa vs ρ Φ ds gd M1) : wLc Wi Wg Wt Wa vs ρ M Φ := h
theorem i_yes (h : Ψ true M) : wYes ρ M Ψ := h
theorem i_next (h : DD.nx ρ M) : wNext DD ρ M := h
theorem i_seq (h : W { DD with nx := V DD } ρ M) : wSeq W V DD ρ M := h
theorem i_ret (h : Wa ρ M fun d M1 => ∃ d2 M2, Fz cl M1 d d2 M2 ∧ DD.rt d2 M2) : wRet cl Wa DD ρ M := h
theorem i_drop (h : Wa ρ M fun _ M1 => DD.nx ρ M1) : wDrop Wa DD ρ M := h
theorem i_ifS (h : Wt ρ M fun b M1 => if b = true then W DD ρ M1 else V DD ρ M1) : wIfS Wt W V DD ρ M := h
theorem i_gname {i : Nat} (h : Θ (ρ.set i (some d)) M) : gdName i d ρ M Θ := h
theorem i_gtup {n : Nat} {Ws : WGs} {ds : List Dat} (h1 : seqV M d = some ds) (h2 : ds.length = n) (h : Ws ds ρ M Θ) : gdTup n Ws d ρ M Θ := ⟨ds, h1, h2, h⟩
theorem i_gnil (h : Θ ρ M) : gdNil [] ρ M Θ := ⟨rfl, h⟩
theorem i_gcons {Wg : WG} {Ws : WGs} {ds : List Dat} (h : Wg d ρ M fun ρ' M' => Ws ds ρ' M' Θ) : gdCons Wg Ws (d :: ds) ρ M Θ := ⟨d, ds, rfl, h⟩
theorem i_asg {Wg : WG} (h : Wa ρ M fun d M1 => Wg d ρ M1 DD.nx) : wAsg Wa Wg DD ρ M := h
theorem i_par {i j : Nat} (h : Wr ρ M fun ds M1 => ∃ d e, ds = [d, e] ∧ DD.nx ((ρ.set i (some d)).set j (some e)) M1) : wPar i j Wr DD ρ M := h
theorem i_par3 {i j l : Nat} (h : Wr ρ M fun ds M1 => ∃ d e f, ds = [d, e, f] ∧ DD.nx (((ρ.set i (some d)).set j (some e)).set l (some f)) M1) : wPar3 i j l Wr DD ρ M := h
theorem i_gsub (h : Wo ρ M fun o M1 => Wa ρ M1 fun i M2 => OSet o i d M2 fun M3 => Θ ρ M3) : gdSub Wo Wa d ρ M Θ := h
def OFld (K : PySem.W.Frag) (cl : Nat → Addr) (f : Str) (d o : Dat) (M1 : Mem) (Ψ : Mem → Prop) : Prop := ∃ a c ds i p, o = .v (.ref a) ∧ M1 a = some (.obj c ds) ∧ SCls K (cl c) ∧ Slot1 K (cl c) f p i ∧ Ψ (M1.put a (.obj c (ds.set i d)))
theorem i_gfld {f : Str} (h : Wo ρ M fun o M1 => OFld K cl f d o M1 fun M2 => Θ ρ M2) : gdFld K cl f Wo d ρ M Θ := h
theorem i_for {Wi : WI} {Wg : WG} (h : Wi ρ M fun ds gd M1 => wForB Wg W DD ρ ds gd M1) : wFor Wi Wg W DD ρ M := h
theorem i_it {Υ : List Dat → (Mem → Prop) → Mem → Prop} (h : Wa ρ M fun d M1 => OIt d M1 Υ) : wIt Wa ρ M Υ := h
theorem i_rng1 {Υ : List Dat → (Mem → Prop) → Mem → Prop} (h : Wr ρ M fun ds M1 => ∃ j : Int, ds = [.v (.int j)] ∧ -(2 ^ 62) ≤ j ∧ j < 2 ^ 62 ∧ Υ (rngD 0 j.toNat) gdT M1) : wRng1 Wr ρ M Υ := h
theorem i_enum {Υ : List Dat → (Mem → Prop) → Mem → Prop} (h : Wr ρ M fun ds M1 => ∃ d es, ds = [d] ∧ lstV M1 d = some es ∧ Υ (enumD es) (fun M' => lstV M' d = some es) M1) : wEnum Wr ρ M Υ := h
/-! ### the ends of steps -/
theorem i_bl {b : Bool} {A : Bool → Prop} (h : A b) : ∃ k, Dat.v (.bl b) = .v (.bl k) ∧ A k := ⟨b, rfl, h⟩
theorem i_int {b : Int} {A : Int → Prop} (h : A b) : ∃ k, Dat.v (.int b) = .v (.int k) ∧ A k := ⟨b, rfl, h⟩
theorem i_2 {A : Dat → Dat → Prop} (h : A d e) : ∃ x y, [d, e] = [x, y] ∧ A x y := ⟨d, e, rfl, h⟩
theorem i_3 {f : Dat} {A : Dat → Dat → Dat → Prop} (h : A d e f) : ∃ x y z, [d, e, f] = [x, y, z] ∧ A x y z := ⟨d, e, f, rfl, h⟩
theorem i_iteT {A B : Prop} (h : A) : if true = true then A else B := by rw [if_pos rfl]; exact h
theorem i_iteF {A B : Prop} (h : B) : if false = true then A else B := by rw [if_neg Bool.false_ne_true]; exact h
theorem i_iteNT {A B : Prop} (h : B) : if (!true) = true then A else B := i_iteF h
theorem i_iteNF {A B : Prop} (h : A) : if (!false) = true then A else B := i_iteT h
theorem i_ite {b : Bool} {A B : Prop} (h1 : b = true → A) (h2 : b = false → B) : if b = true then A else B := by
  cases b with
  | true => exact i_iteT (h1 rfl)
  | false => exact i_iteF (h2 rfl)
/-- both ways end alike -/
theorem i_iteV {a b : Bool} (h : Φ (.v (.bl (a && b))) M) : if a = true then Φ (.v (.bl b)) M else Φ (.v (.bl false)) M := by
  cases a with
  | true => exact i_iteT h
  | false => exact i_iteF h
theorem i_I0 {g : Int → Int → L2.V} {i j : Int} (h : Φ (.v (g i j)) M) : oI0 g (.v (.int i)) (.v (.int j)) M Φ := ⟨i, j, rfl, rfl, h⟩
theorem i_I {C : Int → Int → Prop} {g : Int → Int → L2.V} {i j : Int} (hc : C i j) (h : Φ (.v (g i j)) M) : oI C g (.v (.int i)) (.v (.int j)) M Φ := ⟨i, j, rfl, rfl, hc, h⟩
theorem i_isN (h : Φ (.v (.bl (isNon d))) M) : oIs d (.v .non) M Φ := ⟨rfl, h⟩
theorem i_isI (h : oIs d (.v .non) M Φ) : oIs d (.v .non) M Φ := h
theorem i_notI (h : oIsnt d (.v .non) M Φ) : oIsnt d (.v .non) M Φ := h
theorem i_isNF (e : isNon d = false) (h : Φ (.v (.bl false)) M) : oIs d (.v .non) M Φ := ⟨rfl, by rw [e]; exact h⟩
theorem i_isNT (e : isNon d = true) (h : Φ (.v (.bl true)) M) : oIs d (.v .non) M Φ := ⟨rfl, by rw [e]; exact h⟩
theorem i_notNF (e : isNon d = false) (h : Φ (.v (.bl true)) M) : oIsnt d (.v .non) M Φ := ⟨rfl, by rw [e]; exact h⟩
theorem i_notNT (e : isNon d = true) (h : Φ (.v (.bl false)) M) : oIsnt d (.v .non) M Φ := ⟨rfl, by rw [e]; exact h⟩
theorem i_notN (h : Φ (.v (.bl (!isNon d))) M) : oIsnt d (.v .non) M Φ := ⟨rfl, h⟩
theorem i_fz (h : DD.rt d M) : ∃ d2 M2, Fz cl M d d2 M2 ∧ DD.rt d2 M2 := ⟨d, M, Fz.rfl, h⟩
theorem i_len_l {ds : List Dat} (h : Φ (.v (.int ds.length)) M) : OLen [.lst ds] M Φ := .seq rfl h
theorem i_len_t {ds : List Dat} (h : Φ (.v (.int ds.length)) M) : OLen [.tup ds] M Φ := .seq rfl h
theorem i_len_s {z : Str} (hz : z.length ≤ sizeLine) (h : Φ (.v (.int z.length)) M) : OLen [.v (.str z)] M Φ := .str hz h
theorem i_isi {t n : String} {b : Bool} (h1 : tyD M d = some t) (h2 : kitB t n = some b) (h : Φ (.v (.bl b)) M) : OIsi cl K (.ty n) (.type n) [d, .v (.ty n)] M Φ := .ty h1 (.ty n) (kit_ty h2) h
theorem i_it_l {ds : List Dat} {Υ : List Dat → (Mem → Prop) → Mem → Prop} (h : Υ ds gdT M) : OIt (.lst ds) M Υ := .lst h
theorem i_it_t {ds : List Dat} {Υ : List Dat → (Mem → Prop) → Mem → Prop} (h : Υ ds gdT M) : OIt (.tup ds) M Υ := .tup h
theorem i_it_s {z : Str} {Υ : List Dat → (Mem → Prop) → Mem → Prop} (h : Υ (signs z) gdT M) : OIt (.v (.str z)) M Υ := .str h
theorem i_all {bs : List Bool} {ds : List Dat} (e : ds = bs.map fun b => .v (.bl b)) (h : Φ (.v (.bl (bs.all id))) M) : oAll [.lst ds] M Φ := ⟨.lst ds, bs, rfl, by rw [e]; rfl, h⟩
theorem i_any {bs : List Bool} {ds : List Dat} (e : ds = bs.map fun b => .v (.bl b)) (h : Φ (.v (.bl (bs.any id))) M) : oAny [.lst ds] M Φ := ⟨.lst ds, bs, rfl, by rw [e]; rfl, h⟩
theorem i_sum {bs : List Int} {ds : List Dat} (e : ds = bs.map fun b => .v (.int b)) (h : Φ (.v (.int bs.sum)) M) : oSum [.lst ds] M Φ := ⟨.lst ds, bs, rfl, by rw [e]; rfl, h⟩
theorem i_tuple_l {ds : List Dat} (h : Φ (.tup ds) M) : oTuple [.lst ds] M Φ := ⟨_, ds, rfl, rfl, h⟩
theorem i_tuple_t {ds : List Dat} (h : Φ (.tup ds) M) : oTuple [.tup ds] M Φ := ⟨_, ds, rfl, rfl, h⟩
theorem i_split {a b : Str} (hb : (b.length == 0) = false) (ha : a.length + 2 ≤ sizeLine) (h : newL ((Txt.split a b).map fun w => .v (.str w)) M Φ) : oSplit (.v (.str a)) [.v (.str b)] M Φ := ⟨a, b, rfl, rfl, hb, ha, h⟩
theorem i_isStr {s : Str} {A : Prop} (h : A) : isStr M (.v (.str s)) ∧ A := ⟨⟨s, rfl⟩, h⟩
theorem i_sg {A : Dat → Prop} (h : A d) : ∃ x, [d] = [x] ∧ A x := ⟨d, rfl, h⟩
/-! ### comprehensions whose turns leave the memory -/
theorem lc_pure {α : Type} (xs : List α) (f : α → Dat) (p : α → Bool) (g : α → Dat) {Wg : WG} {vs : List Nat} {gd : Mem → Prop} (hg : gd M) (hl : xs.length ≤ sizeLine)
    (h : ∀ x ∈ xs, ∀ (T1 : Dat → Mem → Prop) (T0 : Mem → Prop), (p x = true → T1 (g x) M) → (p x = false → T0 M) → Wg (f x) (wipeD ρ vs) M fun ρ2 M2 => Wt ρ2 M2 fun b M3 => if b = true then Wa ρ2 M3 T1 else T0 M3)
    (hn : newL ((xs.filter p).map g) M Φ) : wLcB Wg Wt Wa vs ρ Φ (xs.map f) gd M := by
  refine ⟨fun i acc M' => M' = M ∧ acc = ((xs.take i).filter p).map g, ⟨rfl, by simp⟩, fun i d acc M' hd hP => ?_, fun acc M' hP => ?_⟩
  · obtain ⟨e1, e2⟩ := hP
    subst e1
    rw [List.getElem?_map] at hd
    cases hx : xs[i]? with
    | none => rw [hx] at hd; cases hd
    | some x =>
      rw [hx] at hd
      cases hd
      have hi : i < xs.length := (List.getElem?_eq_some_iff.mp hx).1
      have hx' : xs[i] = x := (List.getElem?_eq_some_iff.mp hx).2
      have ht : xs.take (i + 1) = xs.take i ++ [x] := by rw [← List.take_append_getElem hi, hx']
      refine ⟨hg, h x (hx' ▸ List.getElem_mem hi) _ _ (fun hp => ?_) (fun hp => ?_)⟩
      · refine ⟨?_, rfl, ?_⟩
        · rw [e2, List.length_map]
          exact Nat.lt_of_le_of_lt (List.length_filter_le _ _) (Nat.lt_of_lt_of_le (by rw [List.length_take]; omega) hl)
        · rw [ht, List.filter_append, List.map_append, e2]
          simp [hp]
      · refine ⟨rfl, ?_⟩
        rw [ht, List.filter_append, List.map_append, e2]
        simp [hp]
  · obtain ⟨e1, e2⟩ := hP
    subst e1
    rw [List.length_map, List.take_length] at e2
    subst e2
    exact ⟨hg, hn⟩
theorem lc_map {α : Type} (xs : List α) (f : α → Dat) (g : α → Dat) {Wg : WG} {vs : List Nat} {gd : Mem → Prop} (hg : gd M) (hl : xs.length ≤ sizeLine)
    (h : ∀ x ∈ xs, ∀ (T1 : Dat → Mem → Prop), T1 (g x) M → Wg (f x) (wipeD ρ vs) M fun ρ2 M2 => Wa ρ2 M2 T1)
    (hn : newL (xs.map g) M Φ) : wLcB Wg wYes Wa vs ρ Φ (xs.map f) gd M := by
  refine ⟨fun i acc M' => M' = M ∧ acc = (xs.take i).map g, ⟨rfl, by simp⟩, fun i d acc M' hd hP => ?_, fun acc M' hP => ?_⟩
  · obtain ⟨e1, e2⟩ := hP
    subst e1
    rw [List.getElem?_map] at hd
    cases hx : xs[i]? with
    | none => rw [hx] at hd; cases hd
    | some x =>
      rw [hx] at hd
      cases hd
      have hi : i < xs.length := (List.getElem?_eq_some_iff.mp hx).1
      have hx' : xs[i] = x := (List.getElem?_eq_some_iff.mp hx).2
      have ht : xs.take (i + 1) = xs.take i ++ [x] := by rw [← List.take_append_getElem hi, hx']
      refine ⟨hg, ?_⟩
      show Wg (f x) (wipeD ρ vs) M' fun ρ2 M2 => Wa ρ2 M2 fun y M4 => _
      refine h x (hx' ▸ List.getElem_mem hi) _ ⟨?_, rfl, ?_⟩
      · rw [e2, List.length_map, List.length_take]; omega
      · rw [ht, List.map_append, e2]; rfl
  · obtain ⟨e1, e2⟩ := hP
    subst e1
    rw [List.length_map, List.take_length] at e2
    subst e2
    exact ⟨hg, hn⟩
theorem i_szA {n : Nat} {A : Prop} (hn : n ≤ sizeLine) (h : A) : n ≤ sizeLine ∧ A := ⟨hn, h⟩
theorem i_szB {n m : Nat} {A : Prop} (hn : n < sizeLine) (h : A) : n < sizeLine ∧ A := ⟨hn, h⟩
theorem put_none {a b : Addr} {c : Dat} : M.put a c b = none ↔ b ≠ a ∧ M b = none := by
  unfold Mem.put
  split
  · rename_i h; constructor
    · intro z; cases z
    · intro ⟨z, _⟩; exact (z h).elim
  · rename_i h; exact ⟨fun z => ⟨h, z⟩, fun z => z.2⟩
/-- a new cell -/
theorem i_new {ds : List Dat} (h : ∀ p, M p = none → Φ (.v (.ref p)) (M.put p (.lst ds))) : newL ds M Φ := .inr h
theorem i_newD {ks : List Key} {ds : List Dat} (h : ∀ p, M p = none → Φ (.v (.ref p)) (M.put p (.dic ks ds))) : newD ks ds M Φ := .inr h
/-- a new frozen list -/
theorem i_fr {ds : List Dat} (h : Φ (.lst ds) M) : newL ds M Φ := .inl h
theorem i_pow {i j : Int} {n : Nat} (hj : j = (n : Nat)) (h1 : n ≤ 1000000) (h2 : i.natAbs < 2 ^ 64) {g : Int → Int → L2.V} (h : Φ (.v (g i n)) M) : oI CPow g (.v (.int i)) (.v (.int j)) M Φ := by
  subst hj
  exact ⟨i, n, rfl, rfl, ⟨by omega, by omega, h2⟩, h⟩
theorem i_append {p : Addr} {es : List Dat} (hm : M p = some (.lst es)) (hz : es.length < sizeLine) (h : Φ (.v .non) (M.put p (.lst (es ++ [d])))) : oAppend (.v (.ref p)) [d] M Φ := ⟨p, es, d, rfl, hm, rfl, hz, h⟩
theorem i_extend {p : Addr} {es fs : List Dat} (hm : M p = some (.lst es)) (hf : lstV M d = some fs) (hz : es.length + fs.length ≤ sizeLine) (h : Φ (.v .non) (M.put p (.lst (es ++ fs)))) : oExtend (.v (.ref p)) [d] M Φ := ⟨p, es, d, fs, rfl, hm, rfl, hf, hz, h⟩
theorem i_addI {i j : Int} (h : Φ (.v (.int (i + j))) M) : OAdd (.v (.int i)) (.v (.int j)) M Φ := .int h
theorem i_lenSet (h : Wa ρ M fun d M1 => ∃ ws : List Str, lstV M1 d = some (ws.map fun w => Dat.v (.str w)) ∧ ws.Nodup ∧ ws.length ≤ 4000 ∧ Φ (.v (.int ws.length)) M1) : wLenSet Wa ρ M Φ := h
theorem i_end {d2 : Dat} (h : Φ d M) (e : d2 = d) : Φ d2 M := e ▸ h
theorem i_fzR {Ψ : Dat → Mem → Prop} (h : Ψ d M) : ∃ d2 M2, Fz cl M d d2 M2 ∧ (retD Ψ).rt d2 M2 := ⟨d, M, Fz.rfl, h⟩
theorem i_sign {c : Nat} {z : Str} (h : Φ (.v (.bl (decide (c ∈ z.cps.toList)))) M) : oInA false (.v (.str ⟨#[c]⟩)) (.v (.str z)) M Φ := .inl (.sign h)
end
end DL
set_option maxRecDepth 100000
set_option maxHeartbeats 2000000
/-! D layer, part N: methods, makers, properties by their bodies; steps at objects. -/
namespace DL
open PySem PySem.Spec PyProof.Rows L2 SlX
section
variable {P : Program} {w : World} {K : PySem.W.Frag} {mg : Str → Option Value} {base : Heap} {cl : Nat → Addr}
theorem met_D {n : Nat} {x qual : Str} {params : Arguments} {body : List Stmt} {scope : Scope} {f : Addr} {fd : FuncData} {N ps : List Str} {k : Nat} {C : DOs} (sc : SCls K (cl n)) (hm : Meth K (cl n) x f) (F : FunD K x qual params body scope [] [] f fd) (b : Binds K fd ps []) (S : FnScope N ps scope) (hl : ∀ ds M Φ, C ds M Φ → ds.length = ps.length)
    (hbody : ∀ (cdv : Value) (A : Around) (outer : List PySem.Env) (s : Shared) (H : Hp) (E : XK), Room k (A.deeper (envOfC qual scope s.heap.objs.size f cdv)) →
      ∃ W, DSs cl (cxOf CX0 P w K mg base N qual scope f cdv A outer s H E).nox body W ∧ ∀ ds M Φ, C ds M Φ → W (retD Φ) (startD N ds) M) : DMet P w K mg base cl (k + 1) n x C :=
  ⟨f, sc, hm, fnr_D (fn_D F S hl hbody) b⟩
theorem mak_D {n : Nat} {x y qual : Str} {params : Arguments} {body : List Stmt} {scope : Scope} {f : Addr} {fd : FuncData} {N ps : List Str} {k : Nat} {C : DOs} (mk : Mk K (cl n) f) (hm : mg x = some (.ref (cl n))) (F : FunD K y qual params body scope [] [] f fd) (b : Binds K fd ps []) (S : FnScope N ps scope) (hl : ∀ ds M Φ, C ds M Φ → ds.length = ps.length)
    (hbody : ∀ (cdv : Value) (A : Around) (outer : List PySem.Env) (s : Shared) (H : Hp) (E : XK), Room k (A.deeper (envOfC qual scope s.heap.objs.size f cdv)) →
      ∃ W, DSs cl (cxOf CX0 P w K mg base N qual scope f cdv A outer s H E).nox body W ∧ ∀ ds M Φ, C ds M Φ → W (retD Φ) (startD N ds) M) : DMak P w K mg base cl (k + 1) x n C :=
  ⟨f, fd, ps, mk, fn_D F S hl hbody, hm, b⟩
/-- the place of a property -/
def PAt (K : PySem.W.Frag) (C : Addr) (f : Str) (g : Addr) : Prop := ∃ p, PySem.W.findIn K (.ref C) f = some (some (.ref p)) ∧ PySem.W.specialIn K (.ref p) "__get__" = some (some (.builtin "property.__get__")) ∧ PySem.W.takesIn K (.ref p) = some true ∧ ∃ rest, PySem.W.recIn K p "property" = some (.ref g :: rest)
theorem pro_D {n : Nat} {x y qual : Str} {params : Arguments} {body : List Stmt} {scope : Scope} {f : Addr} {fd : FuncData} {N ps : List Str} {k : Nat} {C : DOs} (sc : SCls K (cl n)) (hm : PAt K (cl n) x f) (F : FunD K y qual params body scope [] [] f fd) (b : Binds K fd ps []) (S : FnScope N ps scope) (hl : ∀ ds M Φ, C ds M Φ → ds.length = ps.length)
    (hbody : ∀ (cdv : Value) (A : Around) (outer : List PySem.Env) (s : Shared) (H : Hp) (E : XK), Room k (A.deeper (envOfC qual scope s.heap.objs.size f cdv)) →
      ∃ W, DSs cl (cxOf CX0 P w K mg base N qual scope f cdv A outer s H E).nox body W ∧ ∀ ds M Φ, C ds M Φ → W (retD Φ) (startD N ds) M) : DPro P w K mg base cl (k + 1) n x C := by
  obtain ⟨p, h1, h2, h3, h4⟩ := hm
  exact ⟨p, f, sc, h1, h2, h3, h4, fnr_D (fn_D F S hl hbody) b⟩
end
section
variable {cl : Nat → Addr} {K : PySem.W.Frag} {ρ : Env} {M : Mem} {Φ : Dat → Mem → Prop} {Θ : Env → Mem → Prop} {d e : Dat}
theorem i_o {n i : Nat} {f : Str} {ds : List Dat} {e : Dat} {A : Dat → Prop} (h0 : objV M d = some (n, ds)) (sc : SCls K (cl n)) (sl : ∃ p, Slot1 K (cl n) f p i) (h1 : ds[i]? = some e) (hu : e ≠ .unset) (h : A e) : ∃ c ds i e p, objV M d = some (c, ds) ∧ SCls K (cl c) ∧ Slot1 K (cl c) f p i ∧ ds[i]? = some e ∧ e ≠ .unset ∧ A e := by
  obtain ⟨p, sl⟩ := sl
  exact ⟨n, ds, i, e, p, h0, sc, sl, h1, hu, h⟩
theorem i_os {n i : Nat} {a : Addr} {f : Str} {ds ds2 : List Dat} {A : Mem → Prop} (h0 : M a = some (.obj n ds)) (sc : SCls K (cl n)) (sl : ∃ p, Slot1 K (cl n) f p i) (e : ds.set i d = ds2) (h : A (M.put a (.obj n ds2))) : OFld K cl f d (.v (.ref a)) M A := by
  subst e
  obtain ⟨p, sl⟩ := sl
  exact ⟨a, n, ds, i, p, rfl, h0, sc, sl, h⟩
theorem i_isO {n : Nat} {ds : List Dat} {A : Prop} (h0 : objV M d = some (n, ds)) (h : A) : (∃ ds, objV M d = some (n, ds)) ∧ A := ⟨⟨ds, h0⟩, h⟩
theorem i_isL {ds : List Dat} {A : Prop} (h0 : lstV M d = some ds) (h : A) : isLst M d ∧ A := ⟨⟨ds, h0⟩, h⟩
/-- d.append(e), d a cell -/
theorem i_none {A : Prop} (h : A) : A := h
end
end DL
set_option maxRecDepth 100000
set_option maxHeartbeats 2000000
/-! D layer, part P: texts and lists of texts: steps. -/
namespace DL
open PySem PySem.Spec PyProof.Rows L2 SlX
abbrev dS (s : Str) : Dat := .v (.str s)
abbrev dI (i : Int) : Dat := .v (.int i)
abbrev dB (b : Bool) : Dat := .v (.bl b)
abbrev dSs (ws : List Str) : List Dat := ws.map fun w => .v (.str w)
def okS (s : Str) : Prop := PyData.strOk s = true
def okSs (ws : List Str) : Prop := ∀ w ∈ ws, okS w
section
variable {cl : Nat → Addr} {K : PySem.W.Frag} {ρ : Env} {M : Mem} {Φ : Dat → Mem → Prop} {Θ : Env → Mem → Prop} {d e : Dat}
theorem okSs_nil : okSs [] := fun _ h => by cases h
theorem okSs_cons {w : Str} {ws : List Str} : okSs (w :: ws) ↔ okS w ∧ okSs ws := by
  unfold okSs
  simp
theorem okSs_append {ws vs : List Str} : okSs (ws ++ vs) ↔ okSs ws ∧ okSs vs := by
  unfold okSs
  constructor
  · intro h; exact ⟨fun w hw => h w (List.mem_append_left _ hw), fun w hw => h w (List.mem_append_right _ hw)⟩
  · intro ⟨h1, h2⟩ w hw
    rcases List.mem_append.mp hw with q | q
    · exact h1 w q
    · exact h2 w q
theorem okSs_sub {ws vs : List Str} (h : okSs ws) (k : ∀ v ∈ vs, v ∈ ws) : okSs vs := fun v hv => h v (k v hv)
theorem shaped_int {i : Int} : SeqAt.shaped (.int i) = true := rfl
theorem shaped_non : SeqAt.shaped .none = true := rfl
theorem shaped_str {s : Str} (h : okS s) : SeqAt.shaped (.str s) = true := by
  unfold SeqAt.shaped
  simp only [PyData.canLay0, PyData.depth]
  rw [show PyData.strOk s = true from h]
  rfl
theorem canAll_strs {ws : List Str} (h : okSs ws) : PyData.canLayAll0 (ws.map .str) = true := by
  induction ws with
  | nil => rfl
  | cons w ws ih =>
    obtain ⟨h1, h2⟩ := okSs_cons.mp h
    simp only [List.map_cons, PyData.canLayAll0, PyData.canLay0, ih h2, Bool.and_true]
    exact h1
theorem depthAll_strs (ws : List Str) : PyData.depthAll (ws.map .str) = 0 := by
  induction ws with
  | nil => rfl
  | cons w ws ih => simp only [List.map_cons, PyData.depthAll, PyData.depth, ih]; rfl
theorem shaped_strsL {ws : List Str} (h : okSs ws) : SeqAt.shaped (.list (ws.map .str)) = true := by
  unfold SeqAt.shaped
  simp only [PyData.canLay0, PyData.depth, canAll_strs h, depthAll_strs]
  rfl
theorem shaped_strsT {ws : List Str} (h : okSs ws) : SeqAt.shaped (.tuple (ws.map .str)) = true := by
  unfold SeqAt.shaped
  simp only [PyData.canLay0, PyData.depth, canAll_strs h, depthAll_strs]
  rfl
theorem pdM_str {s : Str} : pdM M (.v (.str s)) = some (.str s) := rfl
theorem pdM_int {s : Int} : pdM M (.v (.int s)) = some (.int s) := rfl
theorem pdM_lst {es : List Dat} {fs : List PyData} (h : lstV M d = some es) (k : pdFs es = some fs) : pdM M d = some (.list fs) := by
  cases d with
  | lst x => cases h; show (pdFs _).map _ = _; rw [k]; rfl
  | v x =>
    cases x with
    | ref p =>
      change (match M p with | some (.lst ds) => some ds | _ => none) = _ at h
      show (match M p with | some (.lst ds) => (pdFs ds).map PyData.list | _ => none) = _
      split at h
      · cases h; rw [k]; rfl
      · cases h
    | _ => cases h
  | _ => cases h
theorem i_eqS {b0 : Bool} {a b : Str} (ha : okS a) (hb : okS b) (e0 : (decide (a = b)) = b0) (h : Φ (.v (.bl b0)) M) : oEq (.v (.str a)) (.v (.str b)) M Φ := by
  subst e0
  refine ⟨_, _, rfl, rfl, shaped_str ha, shaped_str hb, ?_⟩
  have : PyData.eqv (.str a) (.str b) = decide (a = b) := by
    simp only [PyData.eqv]
    rw [Bool.eq_iff_iff]; simp
  rw [this]; exact h
theorem i_neS {b0 : Bool} {a b : Str} (ha : okS a) (hb : okS b) (e0 : (!decide (a = b)) = b0) (h : Φ (.v (.bl b0)) M) : oNe (.v (.str a)) (.v (.str b)) M Φ := by
  subst e0
  refine ⟨_, _, rfl, rfl, shaped_str ha, shaped_str hb, ?_⟩
  have : PyData.eqv (.str a) (.str b) = decide (a = b) := by
    simp only [PyData.eqv]
    rw [Bool.eq_iff_iff]; simp
  rw [this]; exact h
theorem i_eqI {b0 : Bool} {a b : Int} (e0 : (decide (a = b)) = b0) (h : Φ (.v (.bl b0)) M) : oEq (.v (.int a)) (.v (.int b)) M Φ := by
  subst e0
  refine ⟨_, _, rfl, rfl, rfl, rfl, ?_⟩
  have : PyData.eqv (.int a) (.int b) = decide (a = b) := by
    simp only [PyData.eqv]
    rw [Bool.eq_iff_iff]; simp
  rw [this]; exact h
theorem i_neI {b0 : Bool} {a b : Int} (e0 : (!decide (a = b)) = b0) (h : Φ (.v (.bl b0)) M) : oNe (.v (.int a)) (.v (.int b)) M Φ := by
  subst e0
  refine ⟨_, _, rfl, rfl, rfl, rfl, ?_⟩
  have : PyData.eqv (.int a) (.int b) = decide (a = b) := by
    simp only [PyData.eqv]
    rw [Bool.eq_iff_iff]; simp
  rw [this]; exact h
theorem i_eqSs {b0 : Bool} {ws vs : List Str} (h1 : lstV M d = some (dSs ws)) (h2 : lstV M e = some (dSs vs)) (ha : okSs ws) (hb : okSs vs) (e0 : (decide (ws = vs)) = b0) (h : Φ (.v (.bl b0)) M) : oEq d e M Φ := by
  subst e0
  refine ⟨_, _, pdM_lst h1 (pdFs_strs ws), pdM_lst h2 (pdFs_strs vs), shaped_strsL ha, shaped_strsL hb, ?_⟩
  rw [show PyData.eqv (.list (ws.map .str)) (.list (vs.map .str)) = decide (ws = vs) from by simp only [PyData.eqv]; exact eqvAll_strs ws vs]; exact h
theorem i_neSs {b0 : Bool} {ws vs : List Str} (h1 : lstV M d = some (dSs ws)) (h2 : lstV M e = some (dSs vs)) (ha : okSs ws) (hb : okSs vs) (e0 : (!decide (ws = vs)) = b0) (h : Φ (.v (.bl b0)) M) : oNe d e M Φ := by
  subst e0
  refine ⟨_, _, pdM_lst h1 (pdFs_strs ws), pdM_lst h2 (pdFs_strs vs), shaped_strsL ha, shaped_strsL hb, ?_⟩
  rw [show PyData.eqv (.list (ws.map .str)) (.list (vs.map .str)) = decide (ws = vs) from by simp only [PyData.eqv]; exact eqvAll_strs ws vs]; exact h
theorem i_neSt {b0 : Bool} {ws vs : List Str} (ha : okSs ws) (hb : okSs vs) (e0 : (!decide (ws = vs)) = b0) (h : Φ (.v (.bl b0)) M) : oNe (.tup (dSs ws)) (.tup (dSs vs)) M Φ := by
  subst e0
  refine ⟨.tuple (ws.map .str), .tuple (vs.map .str), ?_, ?_, shaped_strsT ha, shaped_strsT hb, ?_⟩
  · show (pdFs (dSs ws)).map _ = _; rw [pdFs_strs]; rfl
  · show (pdFs (dSs vs)).map _ = _; rw [pdFs_strs]; rfl
  rw [show PyData.eqv (.tuple (ws.map .str)) (.tuple (vs.map .str)) = decide (ws = vs) from by simp only [PyData.eqv]; exact eqvAll_strs ws vs]; exact h
/-- xs == [] for a list of any data -/
theorem eqvAll_nil (xs : List PyData) : PyData.eqvAll xs [] = xs.isEmpty := by cases xs <;> simp [PyData.eqvAll]
theorem i_eqNil {b0 : Bool} {es : List Dat} {fs : List PyData} (h1 : lstV M d = some es) (k : pdFs es = some fs) (hs : SeqAt.shaped (.list fs) = true) (e0 : es.isEmpty = b0) (h : Φ (.v (.bl b0)) M) : oEq d (.lst []) M Φ := by
  subst e0
  refine ⟨_, _, pdM_lst h1 k, rfl, hs, rfl, ?_⟩
  have e1 : fs.isEmpty = es.isEmpty := by
    cases es with
    | nil => cases k; rfl
    | cons x xs =>
      unfold pdFs at k
      split at k
      · cases k; rfl
      · cases k
  rw [show PyData.eqv (.list fs) (.list []) = es.isEmpty from by simp only [PyData.eqv]; rw [eqvAll_nil, e1]]; exact h
theorem i_neNil {b0 : Bool} {es : List Dat} {fs : List PyData} (h1 : lstV M d = some es) (k : pdFs es = some fs) (hs : SeqAt.shaped (.list fs) = true) (e0 : (!es.isEmpty) = b0) (h : Φ (.v (.bl b0)) M) : oNe d (.lst []) M Φ := by
  subst e0
  refine ⟨_, _, pdM_lst h1 k, rfl, hs, rfl, ?_⟩
  have e1 : fs.isEmpty = es.isEmpty := by
    cases es with
    | nil => cases k; rfl
    | cons x xs =>
      unfold pdFs at k
      split at k
      · cases k; rfl
      · cases k
  rw [show PyData.eqv (.list fs) (.list []) = es.isEmpty from by simp only [PyData.eqv]; rw [eqvAll_nil, e1]]; exact h
theorem eqV_str {a b : Str} : eqV (.str a) (.str b) = true ↔ a = b := by
  show (a == b) = true ↔ a = b
  simp
theorem inV_strs {s : Str} {ws : List Str} : inV (.str s) (ws.map .str) = decide (s ∈ ws) := by
  induction ws with
  | nil => rfl
  | cons w ws ih =>
    unfold inV at ih ⊢
    rw [List.map_cons, List.any_cons, ih]
    rw [Bool.eq_iff_iff]
    simp only [Bool.or_eq_true, decide_eq_true_eq, List.mem_cons]
    constructor
    · rintro (h | h)
      · left
        have := eqV_str.mp h
        exact this.symm
      · exact .inr h
    · rintro (h | h)
      · exact .inl (eqV_str.mpr h.symm)
      · exact .inr h
theorem flat_strs {ws : List Str} : (ws.map V.str).all flatV = true := by
  rw [List.all_map]
  exact List.all_eq_true.mpr fun _ _ => rfl
theorem cutD_tail {d : Dat} {ds : List Dat} : cutD (d :: ds) (some 1) none = ds := by
  unfold cutD
  have h1 : HT.sIx (d :: ds).length 0 (some 1) = 1 := by simp [HT.sIx]
  have h2 : HT.sIx (d :: ds).length (d :: ds).length none = ds.length + 1 := by simp [HT.sIx]
  rw [h1, h2]
  simp
theorem atI_nat {α : Type} {ds : List α} {n : Nat} (h : n < ds.length) : atI ds (n : Int) = ds[n]? := by
  unfold atI ixN
  have h1 : (0 : Int) ≤ (n : Int) := by omega
  have h2 : (n : Int) < (ds.length : Int) := by omega
  simp [h1, h2]
theorem atI0 {α : Type} {d : α} {ds : List α} : atI (d :: ds) 0 = some d := atI_nat (n := 0) (by simp)
theorem i_inS {b0 : Bool} {s : Str} {ws : List Str} (h1 : seqV M d = some (dSs ws)) (e0 : (decide (s ∈ ws)) = b0) (h : Φ (.v (.bl b0)) M) : oInA false (.v (.str s)) d M Φ := by
  subst e0
  refine .inl (.seq (ys := ws.map .str) (by rw [h1, List.map_map]; rfl) rfl flat_strs ?_)
  rw [inV_strs]; exact h
theorem i_ninS {b0 : Bool} {s : Str} {ws : List Str} (h1 : seqV M d = some (dSs ws)) (e0 : (!decide (s ∈ ws)) = b0) (h : Φ (.v (.bl b0)) M) : oInA true (.v (.str s)) d M Φ := by
  subst e0
  refine .inl (.seq (ys := ws.map .str) (by rw [h1, List.map_map]; rfl) rfl flat_strs ?_)
  rw [inV_strs]; exact h
end
end DL
namespace DL
open PySem PySem.Spec PyProof.Rows L2 SlX
section
variable {ρ : Env} {M : Mem} {DD : DEnds} {Wg : WG} {W : WS} {gd : Mem → Prop}
theorem for_list {α : Type} (xs : List α) (f : α → Dat) (P : Nat → Env → Mem → Prop) (h0 : P 0 ρ M) (hg : ∀ i ρ' M', P i ρ' M' → gd M')
    (hs : ∀ i x ρ' M', xs[i]? = some x → P i ρ' M' → Wg (f x) ρ' M' fun ρ2 M2 => W { DD with nx := P (i + 1), ct := P (i + 1), bk := DD.nx } ρ2 M2)
    (he : ∀ ρ' M', P xs.length ρ' M' → DD.nx ρ' M') : wForB Wg W DD ρ (xs.map f) gd M := by
  refine ⟨P, h0, fun i d ρ' M' hd hP => ⟨hg i ρ' M' hP, ?_⟩, fun ρ' M' hP => ⟨hg _ ρ' M' hP, ?_⟩⟩
  · rw [List.getElem?_map] at hd
    cases hx : xs[i]? with
    | none => rw [hx] at hd; cases hd
    | some x => rw [hx] at hd; cases hd; exact hs i x ρ' M' hx hP
  · rw [List.length_map] at hP
    exact he ρ' M' hP
theorem for_enum {α : Type} (xs : List α) (f : α → Dat) (P : Nat → Env → Mem → Prop) (h0 : P 0 ρ M) (hg : ∀ i ρ' M', P i ρ' M' → gd M')
    (hs : ∀ i x ρ' M', xs[i]? = some x → P i ρ' M' → Wg (.tup [.v (.int (i : Nat)), f x]) ρ' M' fun ρ2 M2 => W { DD with nx := P (i + 1), ct := P (i + 1), bk := DD.nx } ρ2 M2)
    (he : ∀ ρ' M', P xs.length ρ' M' → DD.nx ρ' M') : wForB Wg W DD ρ (enumD (xs.map f)) gd M := by
  refine ⟨P, h0, fun i d ρ' M' hd hP => ⟨hg i ρ' M' hP, ?_⟩, fun ρ' M' hP => ⟨hg _ ρ' M' hP, ?_⟩⟩
  · rw [enumD_get, List.getElem?_map] at hd
    cases hx : xs[i]? with
    | none => rw [hx] at hd; cases hd
    | some x => rw [hx] at hd; cases hd; exact hs i x ρ' M' hx hP
  · rw [enumD_len, List.length_map] at hP
    exact he ρ' M' hP
theorem for_rng {n : Nat} {lo : Int} (P : Nat → Env → Mem → Prop) (h0 : P 0 ρ M) (hg : ∀ i ρ' M', P i ρ' M' → gd M')
    (hs : ∀ i ρ' M', i < n → P i ρ' M' → Wg (.v (.int (lo + (i : Nat)))) ρ' M' fun ρ2 M2 => W { DD with nx := P (i + 1), ct := P (i + 1), bk := DD.nx } ρ2 M2)
    (he : ∀ ρ' M', P n ρ' M' → DD.nx ρ' M') : wForB Wg W DD ρ (rngD lo n) gd M := by
  refine for_list (List.range n) (fun i : Nat => .v (.int (lo + (i : Nat)))) P h0 hg (fun i x ρ' M' hx hP => ?_) (fun ρ' M' hP => he ρ' M' (by simpa using hP))
  obtain ⟨h1, h2⟩ := List.getElem?_eq_some_iff.mp hx
  rw [List.getElem_range] at h2
  subst h2
  exact hs i ρ' M' (by simpa using h1) hP
end
end DL
set_option maxRecDepth 100000
set_option maxHeartbeats 3200000
/-! D layer, part S: len(set(a list of unlike texts)). -/
namespace DL
open PySem PySem.Spec PyProof.Rows L2 SlX
section
variable {P : Program} {w : World} {B : Around} {Rq : Result → Shared → Prop} {It : Addr} {fa wa : List Addr} {Gp : Array GenState → Array GenState → Prop} {m : Nat} {Pv : Nat → Value → Prop} {Sv : Nat → Shared → Prop}
/-- what a set of the texts ws.take i is -/
def SetT (P : Program) (w : World) (h : Heap) (a : Addr) (ws : List Str) (i : Nat) : Prop := h.SetOf (PySem.strKind P w) a (fun x => (ws.take i).any (· == x)) i
theorem SetT.stay {h h' : Heap} {a : Addr} {ws : List Str} {i : Nat} (x : SetT P w h a ws i) (k : ∀ o, h.get? a = some o → h'.get? a = some o) : SetT P w h' a ws i := by
  obtain ⟨o, es, ep, t, e, r⟩ := x; exact ⟨o, es, ep, t, k o e, r⟩
theorem any_take {ws : List Str} {i : Nat} (hi : i < ws.length) (x : Str) : (ws.take (i + 1)).any (· == x) = ((ws.take i).any (· == x) || decide (x = ws[i])) := by
  rw [← List.take_append_getElem hi, List.any_append]
  congr 1
  rw [List.any_cons, List.any_nil, Bool.or_false, Bool.eq_iff_iff, beq_iff_eq, decide_eq_true_eq]
  exact ⟨Eq.symm, Eq.symm⟩
theorem none_take {ws : List Str} (nd : ws.Nodup) {i : Nat} (hi : i < ws.length) : (ws.take i).any (· == ws[i]) = false := by
  rw [List.any_eq_false]
  intro y hy hq
  have e : y = ws[i] := eq_of_beq hq
  rw [e] at hy
  have nd2 := nd
  rw [← List.take_append_drop i ws, List.drop_eq_getElem_cons hi] at nd2
  exact (List.nodup_append.mp nd2).2.2 _ hy _ List.mem_cons_self rfl
theorem setT_loop (Wk : WalksS P w B.in1 It fa wa Gp m Pv Sv) (S : Addr) (nS : S ∉ fa) (ws : List Str) (nd : ws.Nodup) (hm : ws.length = m) (hb : m + 2 < scanBound) (hv : ∀ i v, Pv i v → ∃ t, v = .str (ws.getD i Str.empty) t) (d : Nat) : ∀ (i : Nat) (s : Shared), m = d + i → Sv i s → SetT P w s.heap S ws i →
    (∀ s2, Moved (S :: wa) Gp s s2 → SetT P w s2.heap S ws m → Rq (.ok (.ret .none)) s2) → codeAny (model P w) B (.builtin "set.update.loop" ⟨[.ref S, .ref It], []⟩) Rq s := by
  have nw : S ∉ wa := fun q => nS (Wk.sub _ q)
  have sub : ∀ b ∈ wa, b ∈ S :: wa := fun b q => List.mem_cons_of_mem _ q
  induction d with
  | zero =>
    intro i s e hs T k
    have e : i = m := by omega
    subst e
    refine codeAny_builtin PyProof.Rows.F.entry_set_update_loop ?_; rw [Around.under_plainId PyProof.Rows.F.plain_set_update_loop _]
    show wpAny _ B.in1 (pyNext (.ref It) >>= _) _ _ s
    refine wpAny_bind (Wk.done s _ _ hs fun s2 mv => ?_)
    show wpAny _ B.in1 (ret Value.none) _ _ s2
    exact wpAny_pure (k s2 (mv.mono sub) (T.stay fun o q => mv.heap S _ nw q))
  | succ d ih =>
    intro i s e hs T k
    have lt : i < m := by omega
    have lt2 : i < ws.length := by omega
    refine codeAny_builtin PyProof.Rows.F.entry_set_update_loop ?_; rw [Around.under_plainId PyProof.Rows.F.plain_set_update_loop _]
    show wpAny _ B.in1 (pyNext (.ref It) >>= _) _ _ s
    refine wpAny_bind (Wk.item i s _ _ lt hs fun v s2 pv hs2 mv => ?_)
    obtain ⟨t, rfl⟩ := hv i v pv
    have ex : ws.getD i Str.empty = ws[i] := by rw [List.getD_eq_getElem?_getD, List.getElem?_eq_getElem lt2] <;> rfl
    rw [ex]
    have T2 : SetT P w s2.heap S ws i := T.stay fun o q => mv.heap S _ nw q
    show wpAny _ B.in1 (holding [Value.str ws[i] t] (setAdd S (.str ws[i] t)) >>= _) _ _ s2
    refine wpAny_bind (wpAny_holding ?_)
    unfold setAdd
    refine wpAny_holding (wpAny_bind ((PySem.strKind P w).pyHash (k := ws[i]) (strKind_is _ _ _ _) ?_))
    refine wpAny_setAddHashed_of (knd := PySem.strKind P w) (s := { s2 with toks := s2.toks + 1 }) (strKind_is _ _ _ _) rfl T2 (by omega) fun h3 sb T3 => ?_
    have T4 : SetT P w h3 S ws (i + 1) := SetOf_congr T3 (fun x => (any_take lt2 x).symm) (by rw [none_take nd lt2]; rfl)
    refine wpAny_pure ⟨plainId_quiet PyProof.Rows.F.plain_set_update_loop _, ih (i + 1) _ (by omega) (Wk.frame _ s2 _ _ hs2 (Nat.le_succ _) fun b q o z => ?_) T4 fun s4 mv4 T5 => ?_⟩
    · exact (sb.2 b (fun y : b = S => nS (y ▸ q))).trans z
    · refine k s4 (Moved.trans Wk.gtrans ((mv.mono sub).then_heap (Nat.le_succ _) fun b o q z => ?_) mv4) T5
      exact (sb.2 b (fun y : b = S => q (y ▸ List.mem_cons_self))).trans z
end
section
variable {P : Program} {w : World} {B : Around} {Eq : Value → Shared → Prop} {s : Shared}
/-- set(l), l a list of unlike texts -/
theorem setT_call {l : Addr} {its : Array Value} {ws : List Str} {Q : Value → Shared → Prop} (hh : B.handled = none) (hl : s.heap.IsList l its) (hi : StrsAre its.toList ws) (nd : ws.Nodup) (hb : ws.length + 2 < scanBound)
    (k : ∀ (h2 : Heap) (tk : Nat), SetT P w h2 s.heap.objs.size ws ws.length → (∀ b o, b < s.heap.objs.size → s.heap.get? b = some o → h2.get? b = some o) → Q (.ref s.heap.objs.size) { s with heap := h2, toks := tk }) :
    wpAny (model P w) B (call (.type "set") [.ref l]) Q Eq s := by
  have hlen : ws.length = its.size := (StrsAre.len_eq hi).symm.trans Array.length_toList
  have CS := PySem.F.called_set
  obtain ⟨c, tl, hmro⟩ := CS.mro
  have hmade := CS.made; have hsub := CS.sub
  refine wpAny_call (codeAny_of_tree ?_)
  show wpAny _ _ (callAny (.type "set") _) _ _ _
  refine wpAny_pure ⟨Code.quiet_builtin _ (by decide +kernel), codeAny_builtin PySem.F.entry_type_call ?_⟩; rw [Around.under_plain (weight_type_call_type "set" [.ref l] []) rfl]
  have h1 := CS.notType; have h2 := CS.canCreate; have hct := PySem.F.typeCall_set_1 (.ref l)
  repeat (any_goals (first | assumption | wp_step))
  have nw : ∀ led : Bool, (s.heap.push { cls := .type "set", dict := none, data := .set #[] 0 (.fresh 0 0 led) }).get? s.heap.objs.size = some { cls := .type "set", dict := none, data := .set #[] 0 (.fresh 0 0 led) } := fun led => Heap.get?_push_size _ rfl
  refine codeAny_mono (code_set_new_1 (.ref l) (E := Eq) (Q₁ := fun v s2 => ∃ led : Bool, v = .ref s.heap.objs.size ∧ s2 = { s with heap := s.heap.push { cls := .type "set", dict := none, data := .set #[] 0 (.fresh 0 0 led) } }) fun led => ⟨led, rfl, rfl⟩) fun r s2 hr => ?_
  cases r with
  | error e => exact hr
  | ok fl =>
    cases fl with
    | ret obj =>
      obtain ⟨led, rfl, rfl⟩ := hr
      have tS : Shared.TypeIs { s with heap := s.heap.push { cls := .type "set", dict := none, data := .set #[] 0 (.fresh 0 0 led) } } (.ref s.heap.objs.size) "set" := ⟨_, nw led, rfl⟩
      have hli := CS.init.lookup; have hbi := CS.init.bind (.ref s.heap.objs.size)
      repeat (any_goals (first | assumption | wp_step))
      refine codeAny_mono (codeAny_call_builtin (R := wants (fun r s3 => r = .none ∧ ∃ h2 tk, s3 = { s with heap := h2, toks := tk } ∧ SetT P w h2 s.heap.objs.size ws ws.length ∧ (∀ b o, b < s.heap.objs.size → s.heap.get? b = some o → h2.get? b = some o)) Eq) CS.init.plain PySem.F.entry_set_init (check_set_init_1 tS ?_)) fun r3 s3 hr3 => ?_
      · obtain ⟨⟨oc, od, odt, os⟩, hol, hcl, nl, hdl⟩ := hl
        simp only at hcl hdl; subst hcl hdl
        have hol2 : (s.heap.push { cls := .type "set", dict := none, data := .set #[] 0 (.fresh 0 0 led) }).get? l = some { cls := .type "list", dict := od, data := .seq its nl, slots := os } := Heap.get?_push_of_some _ hol
        have a1 := PySem.F.sub_list_set; have a2 := PySem.F.sub_list_frozenset; have a3 : (Value.type "list" == Value.type "dict") = false := by decide
        have hl1 : (s.heap.push { cls := .type "set", dict := none, data := .set #[] 0 (.fresh 0 0 led) }).IsList l its := ⟨_, hol2, rfl, nl, rfl⟩
        unfold Builtin.«set.__init__» noKeywords Builtin.Frozenset.updateFrom
        generalize gI : pyIter = PI
        wp_walk
        subst gI
        refine wpAny_pyIter_list hl1 (wpAny_bind (wpAny_runValue ?_))
        have hlS : l < s.heap.objs.size := Heap.lt_size hol
        have z1 : l ≠ (s.heap.push { cls := .type "set", dict := none, data := .set #[] 0 (.fresh 0 0 led) }).objs.size := by rw [Heap.size_push]; exact Nat.ne_of_lt (Nat.lt_succ_of_lt hlS)
        have z2 : s.heap.objs.size ∉ [(s.heap.push { cls := .type "set", dict := none, data := .set #[] 0 (.fresh 0 0 led) }).objs.size, l] := by rw [Heap.size_push]; simp only [List.mem_cons, List.not_mem_nil, or_false, not_or]; exact ⟨Nat.ne_of_lt (Nat.lt_succ_self _), Nat.ne_of_gt hlS⟩
        have B3 : B.in1.in1.in1.handled = none := by simp [hh]
        refine setT_loop ((Walks.list B3 _ l z1 its).toS) s.heap.objs.size z2 ws nd hlen (by omega) (fun i v q => SS.strs_at hi i v (by rw [Array.getElem?_toList]; exact q)) its.size 0 _ rfl ⟨⟨_, Heap.get?_push_size _ rfl, rfl, rfl⟩, hl1.push _⟩ ?_ fun s4 mv T => ?_
        · refine SetOf_congr ((setObjOf_fresh (knd := PySem.strKind P w) led).setOf (Heap.get?_push_of_some _ (nw led)) (by unfold scanBound; omega)) (fun _ => rfl) rfl
        · obtain ⟨h4, g4, d4, t4, o4⟩ := s4
          have e1 : g4 = s.gens := mv.gens
          have e2 : d4 = s.drawn := mv.drawn
          have e3 : o4 = s.os := mv.os
          subst e1 e2 e3
          show wpAny _ _ _ _ _ _
          refine wpAny_pure ?_
          show wpAny _ _ (ret Value.none) _ _ _
          refine wpAny_pure ⟨rfl, h4, t4, rfl, by rw [hlen]; exact T, fun b o q e => ?_⟩
          exact mv.heap b o (by rw [Heap.size_push]; simp only [List.mem_cons, List.not_mem_nil, or_false, not_or]; exact ⟨Nat.ne_of_lt q, Nat.ne_of_lt (Nat.lt_succ_of_lt q)⟩) (Heap.get?_push_of_some _ (Heap.get?_push_of_some _ e))
      · cases r3 with
        | error e => exact hr3
        | ok f3 =>
          cases f3 with
          | ret r =>
            obtain ⟨rfl, h3, tk, rfl, T, kk⟩ := hr3
            repeat (any_goals (first | assumption | wp_step))
            exact k _ _ T kk
          | _ => exact hr3.elim
    | _ => exact hr.elim
end
section
variable {cl : Nat → Addr} {X : Cx} {a : Expr} {p p2 q pos : Pos} {Wa : WE}
def tLenSetN (K : PySem.W.Frag) (ta : TE) : TE := fun σ H Q => ta σ H fun x H1 => ∃ l, ∃ ws : List Str, x = .ref l ∧ SqL K H1 l (ws.map V.str) ∧ ws.Nodup ∧ ws.length ≤ 4000 ∧ Q (.int ws.length) H1
theorem pe_lenSetN {ta : TE} (hc : X.calm = true) (hg : Gl X "len") (hm : X.mg "len" = none) (hg2 : Gl X "set") (hm2 : X.mg "set" = none) (ha : PE X a ta) (na : starEach [a] X.env = (false, eval a X.env) :: starEach [] X.env := by rfl) :
    PE X (.Call (.Name "len" p) [.Call (.Name "set" p2) [a] [] q] [] pos) (tLenSetN X.K ta) := by
  refine ⟨fun pins s σ H Q I h => Call_ (ld_blt I hg hm boot_len (PyProof.Rows.callWith_builtin1 (PyProof.Rows.args_cons ?_ rfl) rfl rfl))⟩
  refine Call_ (ld_blt I hg2 hm2 boot_set (PyProof.Rows.callWith_type1 (PyProof.Rows.args_cons (thn (ha.run pins s σ H _ I h) fun v s1 ⟨x, H1, I1, r1, q1⟩ => PyProof.Rows.args_nil ?_) na) na rfl))
  obtain ⟨l, ws, rfl, hq, nd, hz, q1⟩ := q1
  cases r1
  obtain ⟨its, r, pl, _⟩ := I1.list hq
  refine setT_call (I1.ok.hd hc) pl.isList (by simpa using strsAre_of r) nd (by unfold scanBound; omega) fun h2 tk T kk => PyProof.Rows.args_nil ?_
  obtain ⟨o, es, ep, t, ho, hex, hd, _, _, _, hf, hn⟩ := T
  exact call_len_set ho hex hd hf (by rw [hn] <;> omega) ⟨.int ws.length, H1, (I1.kept (t' := tk) fun b o e => kk b o (Heap.lt_size e) e).tok _, ⟨_, by rw [hn]⟩, q1⟩
theorem de_lenSet (hm : X.mg "len" = none) (hm2 : X.mg "set" = none) (ha : DE cl X a Wa) (hc : X.calm = true := by rfl) (hg : Gl X "len" := by rfl) (hg2 : Gl X "set" := by rfl) (na : starEach [a] X.env = (false, eval a X.env) :: starEach [] X.env := by rfl) :
    DE cl X (.Call (.Name "len" p) [.Call (.Name "set" p2) [a] [] q] [] pos) (wLenSet Wa) := PE.imp (pe_lenSetN hc hg hm hg2 hm2 ha na) fun σ H Q ⟨G, ρ, M, Φ, st, h, k⟩ =>
  ⟨G, ρ, M, _, st, h, fun d x M1 G1 H1 s1 st1 dn1 h1 => by
    obtain ⟨ws, e, nd, hz, h1⟩ := h1
    obtain ⟨l, xs, rfl, hp, lx⟩ := st1.lstV dn1 e
    have := DenL.of_map (f := V.str) lx
    subst this
    exact ⟨l, ws, rfl, SqL.of hp, nd, hz, k _ _ _ _ _ s1 st1 (den_v.mpr rfl) h1⟩⟩
end
end DL
set_option maxRecDepth 100000
set_option maxHeartbeats 3200000
/-! D layer, part Z: list(zip(a, b)), a and b lists or tuples. -/
namespace DL
open PySem PySem.Spec PyProof.Rows L2 SlX
section
variable {P : Program} {w : World} {B : Around} {E0' : Value → Shared → Prop} {s : Shared} {z TI TO i1 i2 : Addr} {f1 f2 : List Addr} {n1 n2 i : Nat} {P1 P2 : Nat → Value → Prop} {S1 S2 : Nat → Heap → Prop}
/-- one more pair, the last one still held -/
theorem zipH_item {T : Addr} {f : Bool} {oT : Obj} {Q : Option Value → Shared → Prop} (Z : ZipSep2 z TI TO i1 i2 f1 f2) (D1 : Draws P w B.in1 i1 f1 n1 P1 S1) (D2 : Draws P w B.in1 i2 f2 n2 P2 S2) (hz : IsZipHeld s.heap z TI TO T f) (hT : s.heap.get? T = some oT)
    (hTI : IsTupOf2 s.heap TI (.ref i1) (.ref i2)) (a1 : S1 i s.heap) (a2 : S2 i s.heap) (l1 : i < n1) (l2 : i < n2)
    (k : ∀ x y h2 tk, P1 i x → P2 i y → IsZipHeld h2 z TI TO T true → S1 (i + 1) h2 → S2 (i + 1) h2 → IsTupOf2 h2 s.heap.objs.size x y → h2.objs.size = s.heap.objs.size + 1 → (∀ c o, c ≠ z → c ≠ i1 → c ≠ i2 → s.heap.get? c = some o → h2.get? c = some o) → Q (some (.ref s.heap.objs.size)) { s with heap := h2, toks := tk }) :
    wpAny (model P w) B (pyNext (.ref z)) Q E0' s := by
  have ty : s.TypeIs (.ref z) "zip" := ⟨_, hz, rfl⟩
  unfold pyNext
  refine wpAny_bind (wpAny_attempt (wpAny_callSpecial?_slot (name := Str.ofString "__next__") ty F.slot_zip_next (wpAny_call_entry F.slot_zip_next ty F.entry_zip_next ?_ (F.args_zip_next_1 _))))
  show wpAny _ _ (field (.ref z) 2 >>= _) _ _ _
  refine wpAny_bind (wpAny_field hz rfl (x := .bool false) rfl ?_)
  show wpAny _ _ (field (.ref z) 3 >>= _) _ _ _
  refine wpAny_bind (wpAny_field hz rfl (x := .ref TI) rfl (wpAny_bind (wpAny_seqItems hTI rfl ?_)))
  show wpAny _ _ (Builtin.SmallTypes.ownedTupleIsFree (.ref z) >>= _) _ _ _
  refine wpAny_bind (wpAny_tupleHeld_zip hz hT fun g1 hz1 sb1 => ?_)
  simp only [Bool.false_eq_true, if_false]
  refine wpAny_bind ?_
  rw [← Array.forIn_toList]; simp only [List.forIn_cons, List.forIn_nil]
  refine wpAny_bind (wpAny_bind (wpAny_holding ?_))
  show wpAny _ _ (Builtin.SmallTypes.nextOf (.ref i1) >>= _) _ _ _
  refine wpAny_bind (D1.item i { s with heap := g1 } _ _ l1 (D1.over a1 sb1 Z.zf1) fun x g2 t2 px b1 sb2 => wpAny_pure (wpAny_pure ?_))
  refine wpAny_bind (wpAny_bind (wpAny_holding ?_))
  show wpAny _ _ (Builtin.SmallTypes.nextOf (.ref i2) >>= _) _ _ _
  refine wpAny_bind (D2.item i { s with heap := g2, toks := t2 } _ _ l2 (D2.over (D2.over a2 sb1 Z.zf2) sb2 Z.sep1_2) fun y g3 t3 py b2 sb3 => wpAny_pure (wpAny_pure (wpAny_pure ?_)))
  show wpAny _ _ (newTuple [x, y] >>= _) _ _ _
  refine wpAny_bind (wpAny_newTuple ?_)
  replace sb2 : Heap.SameBut i1 g1 g2 := sb2
  replace sb3 : Heap.SameBut i2 g2 g3 := sb3
  have sz : g3.objs.size = s.heap.objs.size := by rw [sb3.1, sb2.1, sb1.1]
  have hz3 : IsZipHeld g3 z TI TO T true := sb3.extBut _ _ Z.zi2 (sb2.extBut _ _ Z.zi1 hz1)
  have kp : ∀ c o, c ≠ z → c ≠ i1 → c ≠ i2 → s.heap.get? c = some o → g3.get? c = some o := fun c o c1 c2 c3 e => sb3.extBut _ _ c3 (sb2.extBut _ _ c2 (sb1.extBut _ _ c1 e))
  have b13 : S1 (i + 1) g3 := D1.over b1 sb3 Z.sep2_1
  refine wpAny_pure ⟨_, rfl, ?_⟩
  have tp : IsTupOf2 (g3.push { cls := .type "tuple", data := .seq #[x, y] }) g3.objs.size x y := Heap.get?_push_size _ rfl
  have sz4 : (g3.push { cls := .type "tuple", data := .seq #[x, y] }).objs.size = g3.objs.size + 1 := Heap.size_push ..
  have up : ∀ c o, g3.get? c = some o → (g3.push { cls := .type "tuple", data := .seq #[x, y] }).get? c = some o := fun c o e => Heap.get?_push_of_some _ e
  show wpAny _ _ _ _ _ _
  refine wpAny_pure ?_
  show Q (some (.ref g3.objs.size)) _
  rw [sz] at tp sz4 ⊢
  exact k x y _ t3 px py (up _ _ hz3) (D1.frame _ _ _ b13 fun b _ o e => up b o e) (D2.frame _ _ _ b2 fun b _ o e => up b o e) tp sz4 fun c o c1 c2 c3 e => up c o (kp c o c1 c2 c3 e)
theorem zipH_end {T : Addr} {f : Bool} {oT : Obj} {Q : Option Value → Shared → Prop} (Z : ZipSep2 z TI TO i1 i2 f1 f2) (D1 : Draws P w B.in1 i1 f1 n1 P1 S1) (D2 : Draws P w B.in1 i2 f2 n2 P2 S2) (hz : IsZipHeld s.heap z TI TO T f) (hT : s.heap.get? T = some oT)
    (hTI : IsTupOf2 s.heap TI (.ref i1) (.ref i2)) (a1 : S1 i s.heap) (a2 : S2 i s.heap) (l1 : i ≤ n1) (l2 : i ≤ n2) (he : i = n1 ∨ i = n2)
    (k : ∀ h2 tk, (∀ c o, c ≠ z → c ≠ i1 → c ≠ i2 → s.heap.get? c = some o → h2.get? c = some o) → Q none { s with heap := h2, toks := tk }) :
    wpAny (model P w) B (pyNext (.ref z)) Q E0' s := by
  have ty : s.TypeIs (.ref z) "zip" := ⟨_, hz, rfl⟩
  have fin : ∀ (h2 : Heap) (tk : Nat) (e : Addr), (∀ c o, c ≠ z → c ≠ i1 → c ≠ i2 → s.heap.get? c = some o → h2.get? c = some o) → (∃ o, h2.get? e = some o ∧ o.cls = .type "StopIteration") → wpAny (model P w) B (do
      if (← isInstance (.ref e) (.type "StopIteration")) then return none else throw (.ref e)) Q E0' { s with heap := h2, toks := tk } := fun h2 tk e kk ⟨o, ho, hc⟩ => by
    refine wpAny_bind (wpAny_isInstance (T := "StopIteration") (b := true) ⟨o, ho, hc⟩ isSubtype_stop ?_)
    exact wpAny_pure (k h2 tk kk)
  unfold pyNext
  refine wpAny_bind (wpAny_attempt (wpAny_callSpecial?_slot (name := Str.ofString "__next__") ty F.slot_zip_next (wpAny_call_entry F.slot_zip_next ty F.entry_zip_next ?_ (F.args_zip_next_1 _))))
  show wpAny _ _ (field (.ref z) 2 >>= _) _ _ _
  refine wpAny_bind (wpAny_field hz rfl (x := .bool false) rfl ?_)
  show wpAny _ _ (field (.ref z) 3 >>= _) _ _ _
  refine wpAny_bind (wpAny_field hz rfl (x := .ref TI) rfl (wpAny_bind (wpAny_seqItems hTI rfl ?_)))
  show wpAny _ _ (Builtin.SmallTypes.ownedTupleIsFree (.ref z) >>= _) _ _ _
  refine wpAny_bind (wpAny_tupleHeld_zip hz hT fun g1 hz1 sb1 => ?_)
  simp only [Bool.false_eq_true, if_false]
  refine wpAny_bind ?_
  rw [← Array.forIn_toList]; simp only [List.forIn_cons, List.forIn_nil]
  refine wpAny_bind (wpAny_bind (wpAny_holding ?_))
  show wpAny _ _ (Builtin.SmallTypes.nextOf (.ref i1) >>= _) _ _ _
  by_cases q1 : i < n1
  · have q2 : i = n2 := by omega
    refine wpAny_bind (D1.item i { s with heap := g1 } _ _ q1 (D1.over a1 sb1 Z.zf1) fun x g2 t2 px b1 sb2 => wpAny_pure (wpAny_pure ?_))
    replace sb2 : Heap.SameBut i1 g1 g2 := sb2
    refine wpAny_bind (wpAny_bind (wpAny_holding ?_))
    show wpAny _ _ (Builtin.SmallTypes.nextOf (.ref i2) >>= _) _ _ _
    refine wpAny_bind (D2.done { s with heap := g2, toks := t2 } _ _ (q2 ▸ D2.over (D2.over a2 sb1 Z.zf2) sb2 Z.sep1_2) fun h3 e eb ho => ?_)
    exact fin h3 t2 e (fun c o c1 c2 c3 x => eb _ _ c3 (sb2.extBut _ _ c2 (sb1.extBut _ _ c1 x))) ho
  · have q2 : i = n1 := by omega
    refine wpAny_bind (D1.done { s with heap := g1 } _ _ (q2 ▸ D1.over a1 sb1 Z.zf1) fun h3 e eb ho => ?_)
    exact fin h3 _ e (fun c o c1 c2 c3 x => eb _ _ c2 (sb1.extBut _ _ c1 x)) ho
end
/-- the pairs made -/
structure ZG (P1 P2 : Nat → Value → Prop) (lo : Addr) (h : Heap) (as : List Addr) : Prop where
  rise : as.Pairwise (· < ·)
  above : ∀ a ∈ as, lo < a
  pairs : ∀ (j : Nat) (a : Addr), as[j]? = some a → ∃ x y, P1 j x ∧ P2 j y ∧ IsTupOf2 h a x y
theorem ZG.nil {P1 P2 : Nat → Value → Prop} {lo : Addr} {h : Heap} : ZG P1 P2 lo h [] := ⟨.nil, (fun a q => nomatch q), fun j a q => by simp at q⟩
theorem ZG.stay {P1 P2 : Nat → Value → Prop} {lo : Addr} {h h2 : Heap} {as : List Addr} (g : ZG P1 P2 lo h as) (k : ∀ a ∈ as, ∀ o, h.get? a = some o → h2.get? a = some o) : ZG P1 P2 lo h2 as :=
  ⟨g.rise, g.above, fun j a q => by
    obtain ⟨x, y, p1, p2, t⟩ := g.pairs j a q
    exact ⟨x, y, p1, p2, k a (List.mem_of_getElem? q) _ t⟩⟩
theorem ZG.snoc {P1 P2 : Nat → Value → Prop} {lo b : Addr} {h : Heap} {as : List Addr} {x y : Value} (g : ZG P1 P2 lo h as) (hb : lo < b) (hr : ∀ a ∈ as, a < b) (p1 : P1 as.length x) (p2 : P2 as.length y) (t : IsTupOf2 h b x y) : ZG P1 P2 lo h (as ++ [b]) := by
  refine ⟨List.pairwise_append.mpr ⟨g.rise, List.pairwise_singleton _ _, fun a ha c hc => by rw [List.mem_singleton.mp hc]; exact hr a ha⟩, fun a ha => ?_, fun j a hj => ?_⟩
  · rcases List.mem_append.mp ha with ha | ha
    · exact g.above a ha
    · rw [List.mem_singleton.mp ha]; exact hb
  · by_cases hlt : j < as.length
    · rw [List.getElem?_append_left hlt] at hj
      exact g.pairs j a hj
    · rw [List.getElem?_append_right (by omega)] at hj
      by_cases e : j - as.length = 0
      · rw [e] at hj
        have : b = a := by simpa using hj
        subst this
        have : j = as.length := by omega
        subst this
        exact ⟨x, y, p1, p2, t⟩
      · rw [List.getElem?_eq_none (by simp; omega)] at hj
        cases hj
section
variable {P : Program} {w : World} {B : Around} {Rq : Result → Shared → Prop} {Eq : Value → Shared → Prop} {s : Shared} {z TI TO i1 i2 S : Addr} {f1 f2 : List Addr} {n1 n2 : Nat} {P1 P2 : Nat → Value → Prop} {S1 S2 : Nat → Heap → Prop}
def ZSt (z TI TO i1 i2 S : Addr) (S1 S2 : Nat → Heap → Prop) (i : Nat) (h : Heap) : Prop := IsTupOf2 h TI (.ref i1) (.ref i2) ∧ S1 i h ∧ S2 i h ∧
  ((i = 0 ∧ IsZip h z TI TO .none ∧ ∃ a b, IsTupOf2 h TO a b) ∨ ∃ T f oT, IsZipHeld h z TI TO T f ∧ h.get? T = some oT ∧ T ≠ z ∧ T ≠ i1 ∧ T ≠ i2 ∧ T ≠ S)
theorem zst_item {i : Nat} {Q : Option Value → Shared → Prop} (Z : ZipSep2 z TI TO i1 i2 f1 f2) (D1 : Draws P w B.in1 i1 f1 n1 P1 S1) (D2 : Draws P w B.in1 i2 f2 n2 P2 S2) (st : ZSt z TI TO i1 i2 S S1 S2 i s.heap) (hS : S < s.heap.objs.size) (l1 : i < n1) (l2 : i < n2)
    (k : ∀ x y h2 tk, P1 i x → P2 i y → ZSt z TI TO i1 i2 S S1 S2 (i + 1) h2 → IsTupOf2 h2 s.heap.objs.size x y → s.heap.objs.size < h2.objs.size → (∀ c o, c ≠ z → c ≠ TO → c ≠ i1 → c ≠ i2 → s.heap.get? c = some o → h2.get? c = some o) → Q (some (.ref s.heap.objs.size)) { s with heap := h2, toks := tk }) :
    wpAny (model P w) B (pyNext (.ref z)) Q Eq s := by
  obtain ⟨tI, a1, a2, st⟩ := st
  obtain ⟨_, lv1⟩ := D1.live _ _ a1
  obtain ⟨_, lv2⟩ := D2.live _ _ a2
  rcases st with ⟨e, hz, a, b, hO⟩ | ⟨T, f, oT, hz, hT, t1, t2, t3, t4⟩
  · refine wpAny_pyNext_zipD2_item Z D1 D2 hz tI hO a1 a2 l1 l2 fun x y h2 tk p1 p2 g1 g2 b1 b2 tp sz kp => k x y h2 tk p1 p2 ⟨kp _ _ Z.TIz Z.TITO Z.TIi1 Z.TIi2 tI, b1, b2, .inr ⟨_, false, _, g1, tp, ?_, ?_, ?_, ?_⟩⟩ tp (by rw [sz]; exact Nat.lt_succ_self _) kp
    · exact Nat.ne_of_gt (Heap.lt_size hz)
    · exact Nat.ne_of_gt (Heap.lt_size lv1)
    · exact Nat.ne_of_gt (Heap.lt_size lv2)
    · exact Nat.ne_of_gt hS
  · exact zipH_item Z D1 D2 hz hT tI a1 a2 l1 l2 fun x y h2 tk p1 p2 g1 b1 b2 tp sz kp => k x y h2 tk p1 p2 ⟨kp _ _ Z.TIz Z.TIi1 Z.TIi2 tI, b1, b2, .inr ⟨T, true, oT, g1, kp _ _ t1 t2 t3 hT, t1, t2, t3, t4⟩⟩ tp (by rw [sz]; exact Nat.lt_succ_self _) fun c o c1 _ c3 c4 e => kp c o c1 c3 c4 e
theorem zst_end {i : Nat} {Q : Option Value → Shared → Prop} (Z : ZipSep2 z TI TO i1 i2 f1 f2) (D1 : Draws P w B.in1 i1 f1 n1 P1 S1) (D2 : Draws P w B.in1 i2 f2 n2 P2 S2) (st : ZSt z TI TO i1 i2 S S1 S2 i s.heap) (l1 : i ≤ n1) (l2 : i ≤ n2) (he : i = n1 ∨ i = n2)
    (k : ∀ h2 tk, (∀ c o, c ≠ z → c ≠ TO → c ≠ i1 → c ≠ i2 → s.heap.get? c = some o → h2.get? c = some o) → Q none { s with heap := h2, toks := tk }) : wpAny (model P w) B (pyNext (.ref z)) Q Eq s := by
  obtain ⟨tI, a1, a2, st⟩ := st
  rcases st with ⟨e, hz, a, b, hO⟩ | ⟨T, f, oT, hz, hT, t1, t2, t3, t4⟩
  · exact wpAny_pyNext_zipD2_end Z D1 D2 hz tI hO a1 a2 l1 l2 he k
  · exact zipH_end Z D1 D2 hz hT tI a1 a2 l1 l2 he fun h2 tk kp => k h2 tk fun c o c1 _ c3 c4 e => kp c o c1 c3 c4 e
theorem ZSt.stay {i : Nat} {h h2 : Heap} (st : ZSt z TI TO i1 i2 S S1 S2 i h) (D1 : Draws P w B i1 f1 n1 P1 S1) (D2 : Draws P w B i2 f2 n2 P2 S2) (s1 : S ∉ f1) (s2 : S ∉ f2) (nz : z ≠ S) (nI : TI ≠ S) (nO : TO ≠ S) (k : ∀ b o, b ≠ S → h.get? b = some o → h2.get? b = some o) : ZSt z TI TO i1 i2 S S1 S2 i h2 := by
  obtain ⟨tI, a1, a2, st⟩ := st
  refine ⟨k _ _ nI tI, D1.frame _ _ _ a1 fun b q o e => k b o (fun y => s1 (y ▸ q)) e, D2.frame _ _ _ a2 fun b q o e => k b o (fun y => s2 (y ▸ q)) e, ?_⟩
  rcases st with ⟨e, hz, a, b, hO⟩ | ⟨T, f, oT, hz, hT, t1, t2, t3, t4⟩
  · exact .inl ⟨e, k _ _ nz hz, a, b, k _ _ nO hO⟩
  · exact .inr ⟨T, f, oT, k _ _ nz hz, k _ _ t4 hT, t1, t2, t3, t4⟩
/-- the cells that change -/
def Zch (z TO i1 i2 S : Addr) (h h2 : Heap) : Prop := ∀ b o, b ≠ S → b ≠ z → b ≠ TO → b ≠ i1 → b ≠ i2 → h.get? b = some o → h2.get? b = some o
theorem zl_loop (Z : ZipSep2 z TI TO i1 i2 f1 f2) (D1 : Draws P w B.in1.in1 i1 f1 n1 P1 S1) (D2 : Draws P w B.in1.in1 i2 f2 n2 P2 S2) (s1 : S ∉ f1) (s2 : S ∉ f2) (nz : z < S) (nI : TI < S) (nO : TO < S) (n1' : i1 < S) (n2' : i2 < S) (res : Value) (h0 : Heap) (hn : min n1 n2 ≤ sizeLine)
    (k : ∀ h2 tk acc c as, Zch z TO i1 i2 S h0 h2 → h2.get? S = some { cls := .type "list", dict := none, data := .seq acc c, slots := #[] } → as.length = min n1 n2 → ZG P1 P2 S h2 as → acc.toList = as.map Value.ref → Rq (.ok (.ret res)) { s with heap := h2, toks := tk }) (d : Nat) :
    ∀ (i : Nat) (h : Heap) (tk c : Nat) (acc : Array Value) (as : List Addr), min n1 n2 = d + i → ZSt z TI TO i1 i2 S S1 S2 i h → Zch z TO i1 i2 S h0 h → h.get? S = some { cls := .type "list", dict := none, data := .seq acc c, slots := #[] } → acc.toList = as.map Value.ref → as.length = i → ZG P1 P2 S h as →
      codeAny (model P w) B (.builtin "list.extend.loop" ⟨[.ref S, .ref z, res], []⟩) Rq { s with heap := h, toks := tk } := by
  have szS : z ≠ S := Nat.ne_of_lt nz
  induction d with
  | zero =>
    intro i h tk c acc as e st ch hS ha hl g
    refine codeAny_builtin PySem.F.entry_extend_loop ?_; rw [Around.under_plainId PySem.F.plain_extend_loop _]
    show wpAny _ B.in1 (pyNext (.ref z) >>= _) _ _ _
    refine wpAny_bind (zst_end (s := { s with heap := h, toks := tk }) Z D1 D2 st (by omega) (by omega) (by omega) fun h2 t2 kp => ?_)
    have nS : ∀ b, S ≤ b → b ≠ z ∧ b ≠ TO ∧ b ≠ i1 ∧ b ≠ i2 := fun b hb => ⟨Nat.ne_of_gt (Nat.lt_of_lt_of_le nz hb), Nat.ne_of_gt (Nat.lt_of_lt_of_le nO hb), Nat.ne_of_gt (Nat.lt_of_lt_of_le n1' hb), Nat.ne_of_gt (Nat.lt_of_lt_of_le n2' hb)⟩
    obtain ⟨y1, y2, y3, y4⟩ := nS S (Nat.le_refl _)
    refine wpAny_pure (k h2 t2 acc c as (fun b o q1 q2 q3 q4 q5 q => kp b o q2 q3 q4 q5 (ch b o q1 q2 q3 q4 q5 q)) (kp _ _ y1 y2 y3 y4 hS) (by omega) (g.stay fun a q o q' => ?_) ha)
    obtain ⟨y1, y2, y3, y4⟩ := nS a (Nat.le_of_lt (g.above a q))
    exact kp a o y1 y2 y3 y4 q'
  | succ d ih =>
    intro i h tk c acc as e st ch hS ha hl g
    have hsz : acc.size = i := by rw [← Array.length_toList, ha, List.length_map, hl]
    refine codeAny_builtin PySem.F.entry_extend_loop ?_; rw [Around.under_plainId PySem.F.plain_extend_loop _]
    show wpAny _ B.in1 (pyNext (.ref z) >>= _) _ _ _
    have lS : S < h.objs.size := Heap.lt_size hS
    refine wpAny_bind (zst_item (s := { s with heap := h, toks := tk }) Z D1 D2 st lS (by omega) (by omega) fun x y h2 t2 p1 p2 st2 tp lt kp => ?_)
    have nS : ∀ b, S ≤ b → b ≠ z ∧ b ≠ TO ∧ b ≠ i1 ∧ b ≠ i2 := fun b hb => ⟨Nat.ne_of_gt (Nat.lt_of_lt_of_le nz hb), Nat.ne_of_gt (Nat.lt_of_lt_of_le nO hb), Nat.ne_of_gt (Nat.lt_of_lt_of_le n1' hb), Nat.ne_of_gt (Nat.lt_of_lt_of_le n2' hb)⟩
    have kS : ∀ b o, S ≤ b → h.get? b = some o → h2.get? b = some o := fun b o hb q => by
      obtain ⟨y1, y2, y3, y4⟩ := nS b hb
      exact kp b o y1 y2 y3 y4 q
    have hS2 := kS S _ (Nat.le_refl _) hS
    have up : ∀ b o, b ≠ S → h2.get? b = some o → (h2.update S (Obj.mapSeq (·.push (Value.ref h.objs.size)))).get? b = some o := fun b o hb q => (Heap.get?_update_other _ _ (Ne.symm hb)).trans q
    show wpAny _ B.in1 (updateSeq S (·.push (Value.ref h.objs.size)) >>= _) _ _ _
    refine wpAny_bind (wpAny_updateSeq hS2 rfl (wpAny_pure ⟨plainId_quiet PySem.F.plain_extend_loop _, ih (i + 1) _ t2 _ (acc.push (Value.ref h.objs.size)) (as ++ [h.objs.size]) (by omega) (st2.stay D1 D2 s1 s2 szS (Nat.ne_of_lt nI) (Nat.ne_of_lt nO) up)
      (fun b o q1 q2 q3 q4 q5 q => up b o q1 (kp b o q2 q3 q4 q5 (ch b o q1 q2 q3 q4 q5 q))) (Heap.get?_update_self _ hS2 rfl) (by rw [Array.toList_push, ha, List.map_append]; rfl) (by rw [List.length_append, hl]; rfl) ?_⟩) (by rw [hsz]; omega) (by show (acc.push (Value.ref h.objs.size)).size ≤ sizeLine + 1; rw [Array.size_push, hsz]; omega))
    refine (g.stay (h2 := h2.update S (Obj.mapSeq (·.push (Value.ref h.objs.size)))) fun a q o q' => ?_).snoc lS (fun a q => ?_) (hl ▸ p1) (hl ▸ p2) (up _ _ (Nat.ne_of_gt lS) tp)
    · have := g.above a q
      exact up _ _ (Nat.ne_of_gt this) (kS a o (Nat.le_of_lt this) q')
    · obtain ⟨j, hj⟩ := List.mem_iff_getElem?.mp q
      obtain ⟨_, _, _, _, t⟩ := g.pairs j a hj
      exact Heap.lt_size t
end
theorem zip_nolen : typeLookup (.type "zip") "__len__" = pure none := by rw [typeLookup_type, builtinLookup_eq_fast]; kernel_rfl
theorem zip_nohint : typeLookup (.type "zip") "__length_hint__" = pure none := by rw [typeLookup_type, builtinLookup_eq_fast]; kernel_rfl
section
variable {P : Program} {w : World} {B : Around} {Rq : Result → Shared → Prop} {Eq : Value → Shared → Prop} {s : Shared} {z TI TO i1 i2 S : Addr} {f1 f2 : List Addr} {n1 n2 : Nat} {P1 P2 : Nat → Value → Prop} {S1 S2 : Nat → Heap → Prop}
theorem zl_init (Z : ZipSep2 z TI TO i1 i2 f1 f2) (D1 : Draws P w B.in1.in1 i1 f1 n1 P1 S1) (D2 : Draws P w B.in1.in1 i2 f2 n2 P2 S2) (s1 : S ∉ f1) (s2 : S ∉ f2) (nz : z < S) (nI : TI < S) (nO : TO < S) (m1 : i1 < S) (m2 : i2 < S) (hn : min n1 n2 ≤ sizeLine)
    (tI : IsTupOf2 s.heap TI (.ref i1) (.ref i2)) (a1 : S1 0 s.heap) (a2 : S2 0 s.heap) (hz : IsZip s.heap z TI TO .none) {u v : Value} (hO : IsTupOf2 s.heap TO u v) (hS : s.heap.get? S = some { cls := .type "list", data := .seq #[] })
    (k : ∀ h2 tk acc c as, Zch z TO i1 i2 S s.heap h2 → h2.get? S = some { cls := .type "list", dict := none, data := .seq acc c, slots := #[] } → as.length = min n1 n2 → ZG P1 P2 S h2 as → acc.toList = as.map Value.ref → Rq (.ok (.ret .none)) { s with heap := h2, toks := tk }) :
    wpAny (model P w) B.in1 (Builtin.«list.__init__» ⟨[.ref S, .ref z], []⟩)
      (fun fin s' => match fin with | .done f => Rq (.ok f) s' | .again c' => c'.quiet = true ∧ codeAny (model P w) B c' Rq s') (fun e s' => Rq (.error e) s') s := by
  have szS : z ≠ S := Nat.ne_of_lt nz
  have st0 : ZSt z TI TO i1 i2 S S1 S2 0 s.heap := ⟨tI, a1, a2, .inl ⟨rfl, hz, u, v, hO⟩⟩
  have go : ∀ (h : Heap) (tk c : Nat), (∀ b o, b ≠ S → s.heap.get? b = some o → h.get? b = some o) → h.get? S = some { cls := .type "list", dict := none, data := .seq #[] c, slots := #[] } → codeAny (model P w) B (.builtin "list.extend.loop" ⟨[.ref S, .ref z, .none], []⟩) Rq { s with heap := h, toks := tk } := fun h tk c kp hS2 =>
    zl_loop Z D1 D2 s1 s2 nz nI nO m1 m2 .none s.heap hn k (min n1 n2) 0 h tk c #[] [] rfl (st0.stay D1 D2 s1 s2 szS (Nat.ne_of_lt nI) (Nat.ne_of_lt nO) kp) (fun b o q1 _ _ _ _ q => kp b o q1 q) hS2 rfl rfl .nil
  have oth : ∀ (h : Heap) (f : Obj → Obj), ∀ b o, b ≠ S → h.get? b = some o → (h.update S f).get? b = some o := fun h f b o hb q => (Heap.get?_update_other _ _ (Ne.symm hb)).trans q
  show wpAny _ _ (do let old ← Builtin.List.listItems (.ref S); Builtin.List.listUpdate (.ref S) (fun _ => #[]); letGo old.toList.reverse; Builtin.List.listExtendWith (.ref S) (.ref z) .none) _ _ s
  refine wpAny_bind ?_
  unfold Builtin.List.listItems
  refine wpAny_bind (wpAny_seqItems hS rfl (wpAny_pure ?_))
  show wpAny _ _ (updateSeq S (fun _ => #[]) >>= fun _ => letGo (#[] : Array Value).toList.reverse >>= fun _ => Builtin.List.listExtendWith (.ref S) (.ref z) .none) _ _ s
  refine wpAny_bind (wpAny_updateSeq hS rfl (wpAny_bind (wpAny_letGo ?_)))
  have hS2 := Heap.get?_update_self (Obj.mapSeq (fun _ => (#[] : Array Value))) hS rfl
  have k2 := oth s.heap (Obj.mapSeq (fun _ => (#[] : Array Value)))
  generalize eh : s.heap.update S (Obj.mapSeq (fun _ => (#[] : Array Value))) = h2 at hS2 k2 ⊢
  have tz : Shared.TypeIs { s with heap := h2 } (.ref z) "zip" := ⟨_, k2 _ _ szS hz, rfl⟩
  unfold Builtin.List.listExtendWith
  refine wpAny_bind (wpAny_typeOf tz ?_)
  have q1 : Builtin.List.listSameRef (.ref S) (.ref z) = false := by simp [Builtin.List.listSameRef, Ne.symm szS]
  have q2 : (Value.type "zip" == Value.type "list") = false := by decide
  have q3 : (Value.type "zip" == Value.type "tuple") = false := by decide
  simp only [q1, q2, q3, Bool.or_false, Bool.false_eq_true, if_false]
  refine wpAny_bind (wpAny_pyIter_zip (s := { s with heap := h2 }) (k2 _ _ szS hz) (wpAny_bind (wpAny_holding ?_)))
  unfold Builtin.List.listLengthHint
  refine wpAny_bind (wpAny_specialOf tz zip_nolen ?_)
  show wpAny _ B.in1 (specialOf (Value.ref z) (Str.ofString "__length_hint__") >>= _) _ _ _
  refine wpAny_bind (wpAny_specialOf tz zip_nohint (wpAny_pure ?_))
  show wpAny _ B.in1 (rule "list.extend.makes-room" >>= fun _ => Builtin.List.listTouch (.ref S) >>= fun _ => again (.builtin "list.extend.loop" ⟨[.ref S, .ref z, .none], []⟩)) _ _ _
  refine wpAny_bind (wpAny_rule (wpAny_bind ?_))
  show wpAny _ B.in1 (updateSeq S (·.push .none) >>= fun _ => updateSeq S (·.pop)) _ _ _
  refine wpAny_bind (wpAny_updateSeq hS2 rfl ?_)
  have hS3 := Heap.get?_update_self (Obj.mapSeq (·.push Value.none)) hS2 rfl
  refine wpAny_updateSeq (hz := by seq_fits) hS3 rfl ?_
  have hS4 := Heap.get?_update_self (Obj.mapSeq (·.pop)) hS3 rfl
  exact wpAny_pure ⟨plainId_quiet PySem.F.plain_extend_loop _, go _ _ _ (fun b o hb q => oth _ _ b o hb (oth _ _ b o hb (k2 b o hb q))) hS4⟩
theorem zl_call {Q : Value → Shared → Prop} (Z : ZipSep2 z TI TO i1 i2 f1 f2) (D1 : Draws P w B.in1.in1.in1 i1 f1 n1 P1 S1) (D2 : Draws P w B.in1.in1.in1 i2 f2 n2 P2 S2) (s1 : ∀ b ∈ f1, b < s.heap.objs.size) (s2 : ∀ b ∈ f2, b < s.heap.objs.size) (hn : min n1 n2 ≤ sizeLine)
    (tI : IsTupOf2 s.heap TI (.ref i1) (.ref i2)) (a1 : S1 0 s.heap) (a2 : S2 0 s.heap) (hz : IsZip s.heap z TI TO .none) {u v : Value} (hO : IsTupOf2 s.heap TO u v)
    (k : ∀ h2 tk acc c as, (∀ b o, b ≠ z → b ≠ TO → b ≠ i1 → b ≠ i2 → s.heap.get? b = some o → h2.get? b = some o) → h2.get? s.heap.objs.size = some { cls := .type "list", dict := none, data := .seq acc c, slots := #[] } → as.length = min n1 n2 → ZG P1 P2 s.heap.objs.size h2 as → acc.toList = as.map Value.ref → Q (.ref s.heap.objs.size) { s with heap := h2, toks := tk }) :
    wpAny (model P w) B (call (.type "list") [.ref z]) Q Eq s := by
  refine callType_codes (Q₁ := fun v s2 => v = .ref s.heap.objs.size ∧ s2 = { s with heap := s.heap.push { cls := .type "list", data := .seq #[] } }) PySem.F.called_list (PySem.F.typeCall_list_1 _) PySem.F.entry_list_init (code_list_new _ ⟨rfl, rfl⟩) fun v s2 e => ?_
  obtain ⟨rfl, rfl⟩ := e
  have nw : (s.heap.push { cls := .type "list", data := .seq #[] }).get? s.heap.objs.size = some { cls := .type "list", data := .seq #[] } := Heap.get?_push_size _ rfl
  have up : ∀ b o, s.heap.get? b = some o → (s.heap.push { cls := .type "list", data := .seq #[] }).get? b = some o := fun b o q => Heap.get?_push_of_some _ q
  obtain ⟨_, lv1⟩ := D1.live _ _ a1
  obtain ⟨_, lv2⟩ := D2.live _ _ a2
  refine ⟨⟨_, nw, rfl⟩, PySem.F.args_list_init_2 _ _, zl_init (B := B.in1) (s := { s with heap := s.heap.push { cls := .type "list", data := .seq #[] } }) Z D1 D2 (fun q => Nat.lt_irrefl _ (s1 _ q)) (fun q => Nat.lt_irrefl _ (s2 _ q)) (Heap.lt_size hz) (Heap.lt_size tI) (Heap.lt_size hO) (Heap.lt_size lv1) (Heap.lt_size lv2) hn (up _ _ tI)
    (D1.frame _ _ _ a1 fun b _ o q => up b o q) (D2.frame _ _ _ a2 fun b _ o q => up b o q) (up _ _ hz) (up _ _ hO) nw fun h2 tk acc c as ch hS hl g ha => ⟨rfl, k h2 tk acc c as (fun b o q1 q2 q3 q4 q => ch b o (Nat.ne_of_lt (Heap.lt_size q)) q1 q2 q3 q4 (up b o q)) hS hl g ha⟩⟩
end
end DL
set_option maxRecDepth 100000
set_option maxHeartbeats 3200000
/-! D layer, part Y: many new objects at once; list(zip(..)), list(d.items()), dict(list of pairs). -/
namespace DL
open PySem PySem.Spec PyProof.Rows L2 SlX
/-- H with the new objects N -/
def ovl (H N : Hp) : Hp := fun b => match N b with
  | some o => some o
  | none => H b
theorem ovl_new {H N : Hp} {b : Addr} {o : HO} (h : N b = some o) : ovl H N b = some o := by unfold ovl; rw [h]
theorem ovl_old {H N : Hp} {b : Addr} (h : N b = none) : ovl H N b = H b := by unfold ovl; rw [h]
theorem ovl_keep {H N : Hp} (h : ∀ b o, N b = some o → H b = none) {b : Addr} {o : HO} (e : H b = some o) : ovl H N b = some o := by
  cases q : N b with
  | none => rw [ovl_old q]; exact e
  | some u => rw [h b u q] at e; cases e
section
variable {X : Cx} {pins : List (Addr × Obj)} {σ : L2.St} {H N : Hp} {s : Shared} {h' : Heap} {tk : Nat}
theorem inv_grow (I : Inv X pins σ H s) (k : ∀ b o, s.heap.get? b = some o → h'.get? b = some o) (fr : ∀ b o, N b = some o → s.heap.objs.size ≤ b) (nw : ∀ b o, N b = some o → ObjOk X.prog X.w (ovl H N) h' b o) : Inv X pins σ (ovl H N) { s with heap := h', toks := tk } := by
  have hn : ∀ b o, N b = some o → H b = none := fun b o e => I.hok.fresh (fr b o e)
  have lo : ∀ b o, s.heap.get? b = some o → N b = none := fun b o e => by
    cases q : N b with
    | none => rfl
    | some u => exact absurd (Heap.lt_size e) (Nat.not_lt.mpr (fr b u q))
  have kp : ∀ b u, H b = some u → ovl H N b = some u := fun b u e => ovl_keep hn e
  refine I.call' (ch := []) rfl ⟨fun b o q _ _ _ => k b o q, fun b o q _ _ _ => ⟨o.slots, k b o q⟩, fun b o q n _ => by rw [ovl_old (lo b o q)]; exact n, fun b o q _ => ⟨o, k b o q⟩, fun b xs q => kp b _ q, fun b o u q => kp b _ q, fun b ps q => ⟨#[], by rw [kp b _ q]; simp⟩⟩ (fun b u q => ?_) I.bare fun b z => by simp at z
  cases e : N b with
  | some o =>
    rw [ovl_new e] at q; cases q
    exact nw b _ e
  | none =>
    rw [ovl_old e] at q
    exact (I.hok b u q).stay (fun d v _ y => k d v y) (fun d y => kp d _ y) fun d xs y => kp d _ y
end
section
variable {cl : Nat → Addr} {G H N : Hp} {M : Mem} {ρ : Env} {σ : L2.St}
theorem StOk.grow (st : StOk cl G H ρ M σ) (hn : ∀ b o, N b = some o → H b = none) : StOk cl (ovl G N) (ovl H N) ρ M σ := by
  have gn : ∀ b o, N b = some o → G b = none := fun b o e => st.gnone (hn b o e)
  have eG : Exh G (ovl G N) := fun b o e => ovl_keep gn e
  refine ⟨fun b o e => ?_, fun a c h => ?_, st.len, env_mono (e := eG) st.env⟩
  · cases q : N b with
    | some u => rw [ovl_new q] at e ⊢; exact e
    | none => rw [ovl_old q] at e ⊢; exact st.ex b o e
  · obtain ⟨g, k⟩ := st.mem a c h
    obtain ⟨oa, hoa, _⟩ := st.mut h
    have na : N a = none := by
      cases q : N a with
      | none => rfl
      | some u => rw [hn a u q] at hoa; cases hoa
    refine ⟨by rw [ovl_old na]; exact g, k.frame eG (ovl_old na) (fun y hy => ?_) (fun y hy => ovl_keep hn hy)⟩
    have ny : N y = none := by
      cases q : N y with
      | none => rfl
      | some u => rw [hn y u q] at hy; cases hy
    exact ⟨ovl_old ny, fun q => by rw [ovl_old ny]; exact q⟩
theorem StOk.grow_step (st : StOk cl G H ρ M σ) (hn : ∀ b o, N b = some o → H b = none) : Step G H M (ovl G N) (ovl H N) M := by
  have gn : ∀ b o, N b = some o → G b = none := fun b o e => st.gnone (hn b o e)
  refine ⟨fun b o e => ovl_keep gn e, fun b u h _ _ => ovl_keep hn h, fun b h => ?_, fun b h => .inl h, fun b h => ?_⟩
  · cases q : H b with
    | none => exact (h q).elim
    | some o => rw [ovl_keep hn q]; exact fun z => nomatch z
  · cases q : N b with
    | some o => exact .inr (.inl (hn b o q))
    | none => rw [ovl_old q] at h; exact .inl h
end
/-! ### new objects by a list of places -/
def atL (L : List (Addr × HO)) : Hp := fun b => L.lookup b
theorem atL_mem {L : List (Addr × HO)} {b : Addr} {o : HO} (h : atL L b = some o) : (b, o) ∈ L := by
  unfold atL at h
  induction L with
  | nil => cases h
  | cons x L ih =>
    obtain ⟨a, u⟩ := x
    rw [List.lookup_cons] at h
    cases q : b == a with
    | true =>
      rw [q] at h
      have e1 : u = o := by simpa using h
      have e2 : b = a := eq_of_beq q
      subst e1 e2
      exact List.mem_cons_self
    | false => rw [q] at h; exact List.mem_cons_of_mem _ (ih h)
theorem atL_of {L : List (Addr × HO)} (nd : (L.map (·.1)).Nodup) {b : Addr} {o : HO} (h : (b, o) ∈ L) : atL L b = some o := by
  unfold atL
  induction L with
  | nil => cases h
  | cons x L ih =>
    obtain ⟨a, u⟩ := x
    rw [List.map_cons, List.nodup_cons] at nd
    rw [List.lookup_cons]
    rcases List.mem_cons.mp h with e | h2
    · cases e
      simp
    · have : (b == a) = false := by
        rw [beq_eq_false_iff_ne]
        intro e
        subst e
        exact nd.1 (List.mem_map.mpr ⟨_, h2, rfl⟩)
      rw [this]
      exact ih nd.2 h2
/-- a new list of new pairs -/
def pairL (S : Addr) (as : List Addr) (ps : List (V × V)) : List (Addr × HO) := (S, .lst (as.map V.ref)) :: (as.zip (ps.map fun p => HO.tup [p.1, p.2]))
theorem pairL_nd {S : Addr} {as : List Addr} {ps : List (V × V)} (hl : as.length = ps.length) (nd : as.Nodup) (nS : S ∉ as) : ((pairL S as ps).map (·.1)).Nodup := by
  unfold pairL
  rw [List.map_cons, List.map_fst_zip (by simp [hl])]
  exact List.nodup_cons.mpr ⟨nS, nd⟩
theorem pairL_mem {S : Addr} {as : List Addr} {ps : List (V × V)} {b : Addr} {o : HO} (h : (b, o) ∈ pairL S as ps) : (b = S ∧ o = .lst (as.map V.ref)) ∨ ∃ (j : Nat) (p : V × V), as[j]? = some b ∧ ps[j]? = some p ∧ o = .tup [p.1, p.2] := by
  unfold pairL at h
  rcases List.mem_cons.mp h with e | h
  · cases e; exact .inl ⟨rfl, rfl⟩
  · right
    obtain ⟨j, hj⟩ := List.mem_iff_getElem?.mp h
    rw [List.getElem?_zip_eq_some] at hj
    obtain ⟨h1, h2⟩ := hj
    rw [List.getElem?_map] at h2
    cases q : ps[j]? with
    | none => rw [q] at h2; cases h2
    | some p => rw [q] at h2; exact ⟨j, p, h1, q, (Option.some.inj h2).symm⟩
/-- what list(zip(..)) and list(d.items()) give -/
def rNewPairs (ps : List (V × V)) (H : Hp) (Q : VK) : Prop := ∀ (S : Addr) (as : List Addr) (N : Hp), as.length = ps.length → H S = none → (∀ b o, N b = some o → H b = none) → N S = some (.lst (as.map V.ref)) → (∀ (j : Nat) (a : Addr) (p : V × V), as[j]? = some a → ps[j]? = some p → N a = some (.tup [p.1, p.2])) → Q (.ref S) (ovl H N)
section
variable {X : Cx} {e1 e2 : Expr} {ta : TA} {p p2 q pos : Pos}
/-- what a list or a tuple is walked as -/
structure SqI (P : Program) (w : World) (h : Heap) (a : Addr) (its : List Value) where
  o : Obj
  Hb : Heap → Prop
  St : Addr → Nat → Heap → Prop
  beg : Begins (.ref a) o Hb
  now : Hb h
  lt : a < h.objs.size
  drw : ∀ (B : Around) (it : Addr), B.handled = none → a ≠ it → Draws P w B it [it, a] its.length (fun i v => its[i]? = some v) (St it)
  bgn : ∀ (it : Addr) (h' : Heap), h'.get? it = some o → Hb h' → St it 0 h'
def sqiL {P : Program} {w : World} {h : Heap} {a : Addr} {its : List Value} (hl : h.IsList a its.toArray) : SqI P w h a its where
  o := { cls := .type "list_iterator", data := .fields #[.ref a, .int 0 0] }
  Hb := fun h => h.IsList a its.toArray
  St := fun it i h => h.IsListIter it a i ∧ h.IsList a its.toArray
  beg := begins_list a its.toArray
  now := hl
  lt := let ⟨_, ho, _⟩ := hl; Heap.lt_size ho
  drw := fun B it hh ne => by
    have := Draws.list (prog := P) (w := w) hh it a ne its.toArray
    simpa using this
  bgn := fun it h' e k => ⟨⟨_, e, rfl, rfl⟩, k⟩
def sqiT {P : Program} {w : World} {h : Heap} {a : Addr} {its : List Value} (hl : h.IsTuple a its.toArray) : SqI P w h a its where
  o := { cls := .type "tuple_iterator", data := .fields #[.ref a, .int 0 0] }
  Hb := fun h => h.IsTuple a its.toArray
  St := fun it i h => h.IsTupleIter it a i ∧ h.IsTuple a its.toArray
  beg := begins_tuple a its.toArray
  now := hl
  lt := let ⟨_, ho, _⟩ := hl; Heap.lt_size ho
  drw := fun B it hh ne => by
    have := Draws.tuple (prog := P) (w := w) hh it a ne its.toArray
    simpa using this
  bgn := fun it h' e k => ⟨⟨_, e, rfl, rfl⟩, k⟩
def tListZip (K : PySem.W.Frag) (ta : TA) : TE := fun σ H Q => ta σ H fun vs H1 => ∃ a b xs ys, vs = [.ref a, .ref b] ∧ (SqL K H1 a xs ∨ SqT K H1 a xs) ∧ (SqL K H1 b ys ∨ SqT K H1 b ys) ∧ xs.length = ys.length ∧ xs.length ≤ sizeLine ∧ rNewPairs (xs.zip ys) H1 Q
theorem zip_laid {pins : List (Addr × Obj)} {σ : L2.St} {H : Hp} {s : Shared} {h' : Heap} {tk c : Nat} {S : Addr} {acc : Array Value} {as : List Addr} {xs ys : List V} {us vs : List Value} (I : Inv X pins σ H s) (r1 : Vals xs us) (r2 : Vals ys vs) (hl : xs.length = ys.length) (hz : xs.length ≤ sizeLine)
    (k : ∀ b o, s.heap.get? b = some o → h'.get? b = some o) (hS : h'.get? S = some { cls := .type "list", dict := none, data := .seq acc c, slots := #[] }) (lS : s.heap.objs.size ≤ S) (la : as.length = min us.length vs.length) (g : ZG (fun i v => us[i]? = some v) (fun i v => vs[i]? = some v) S h' as) (ha : acc.toList = as.map Value.ref) {Q : VK} (q : rNewPairs (xs.zip ys) H Q) :
    EP X pins σ Q (.ref S) { s with heap := h', toks := tk } := by
  have l1 := r1.length
  have l2 := r2.length
  have lp : as.length = (xs.zip ys).length := by rw [List.length_zip]; omega
  have nd : as.Nodup := g.rise.imp fun h => Nat.ne_of_lt h
  have nS : S ∉ as := fun m => Nat.lt_irrefl _ (g.above S m)
  have ndL := pairL_nd (S := S) lp nd nS
  have lo : ∀ b o, atL (pairL S as (xs.zip ys)) b = some o → s.heap.objs.size ≤ b := fun b o e => by
    rcases pairL_mem (atL_mem e) with ⟨e1, _⟩ | ⟨j, p, e1, _, _⟩
    · rw [e1]; exact lS
    · exact Nat.le_trans lS (Nat.le_of_lt (g.above b (List.mem_of_getElem? e1)))
  have J : Inv X pins σ (ovl H (atL (pairL S as (xs.zip ys)))) { s with heap := h', toks := tk } := inv_grow I k lo fun b o e => by
    rcases pairL_mem (atL_mem e) with ⟨e1, e2⟩ | ⟨j, p, e1, e2, e3⟩
    · subst e1 e2
      refine ⟨by rw [List.length_map, lp, List.length_zip]; omega, acc.toList, c, ?_, by rw [Array.toArray_toList]; exact hS⟩
      rw [ha]
      exact LiI.vals_refs as
    · subst e3
      obtain ⟨x, y, px, py, t⟩ := g.pairs j b e1
      obtain ⟨f1, f2⟩ := List.getElem?_zip_eq_some.mp e2
      obtain ⟨u, hu, ru⟩ := r1.get f1
      obtain ⟨v, hv, rv⟩ := r2.get f2
      have e1 : u = x := Option.some.inj (hu.symm.trans px)
      have e2 : v = y := Option.some.inj (hv.symm.trans py)
      subst e1 e2
      exact ⟨by show 2 ≤ sizeLine; decide, [u, v], .cons ru (.cons rv .nil), ⟨_, t, rfl, _, rfl⟩⟩
  refine ⟨.ref S, _, J, rfl, q S as _ lp (I.hok.fresh lS) (fun b o e => I.hok.fresh (lo b o e)) (atL_of ndL List.mem_cons_self) fun j a p h1 h2 => atL_of ndL (List.mem_cons_of_mem _ ?_)⟩
  refine List.mem_iff_getElem?.mpr ⟨j, ?_⟩
  rw [List.getElem?_zip_eq_some]
  exact ⟨h1, by rw [List.getElem?_map, h2]; rfl⟩
theorem pe_listZip (hc : X.calm = true) (hg : Gl X "list") (hm : X.mg "list" = none) (hg2 : Gl X "zip") (hm2 : X.mg "zip" = none) (ha : PA X [e1, e2] ta)
    (hs : starEach [.Call (.Name "zip" p2) [e1, e2] [] q] X.env = (false, eval (.Call (.Name "zip" p2) [e1, e2] [] q) X.env) :: starEach [] X.env := by rfl)
    (hs2 : starEach [e1, e2] X.env = (false, eval e1 X.env) :: starEach [e2] X.env := by rfl) (hpl : (backTo q (starEach [e2] X.env)).any (·.1) = false := by rfl) :
    PE X (.Call (.Name "list" p) [.Call (.Name "zip" p2) [e1, e2] [] q] [] pos) (tListZip X.K ta) := by
  refine ⟨fun pins s σ H Q I h => ?_⟩
  refine Call_ (ld_blt I hg hm boot_list (PyProof.Rows.callWith_type1 (PyProof.Rows.args_cons ?_ hs) hs rfl))
  refine Call_ (ld_blt I hg2 hm2 PyProof.Rows.boot_zip (PyProof.Rows.callWith_type1 (thn (ha.run q pins s σ H _ I h) fun us s1 ⟨vs, H1, I1, r1, q1⟩ => ?_) hs2 hpl))
  obtain ⟨a, b, xs, ys, ex, hx, hy, hl, hz, q1⟩ := q1
  subst ex
  cases r1 with
  | cons r rr =>
    cases rr with
    | cons r' rr =>
      cases rr
      cases r
      cases r'
      have hA : X.A.handled = none := I1.ok.hd hc
      obtain ⟨us, ru, SA⟩ : ∃ us, Vals xs us ∧ Nonempty (SqI X.prog X.w s1.heap a us) := by
        rcases hx with hx | hx
        · obtain ⟨its, rv, p1, _⟩ := I1.list hx
          exact ⟨its, rv, ⟨sqiL p1.isList⟩⟩
        · obtain ⟨its, rv, p1, _⟩ := I1.tuple hx
          exact ⟨its, rv, ⟨sqiT (show s1.heap.IsTuple a its.toArray from p1)⟩⟩
      obtain ⟨vs, rv, SB⟩ : ∃ us, Vals ys us ∧ Nonempty (SqI X.prog X.w s1.heap b us) := by
        rcases hy with hx | hx
        · obtain ⟨its, rv, p1, _⟩ := I1.list hx
          exact ⟨its, rv, ⟨sqiL p1.isList⟩⟩
        · obtain ⟨its, rv, p1, _⟩ := I1.tuple hx
          exact ⟨its, rv, ⟨sqiT (show s1.heap.IsTuple b its.toArray from p1)⟩⟩
      obtain ⟨A1⟩ := SA
      obtain ⟨A2⟩ := SB
      refine zip_begins2 A1.beg A2.beg A1.now A2.now fun h2 g1 g2 g3 g4 g5 sz kp => PyProof.Rows.args_nil ?_
      have below : ∀ {c : Addr}, c < s1.heap.objs.size → ∀ b' ∈ [c], b' < s1.heap.objs.size := fun hc b' q => by rw [List.mem_singleton.mp q]; exact hc
      have Z := zip_sep2 (N := s1.heap.objs.size) (below A1.lt) (below A2.lt)
      have l1 := ru.length
      have l2 := rv.length
      have D1 := A1.drw X.A.in1.in1.in1 s1.heap.objs.size (by simp [hA]) (Nat.ne_of_lt A1.lt)
      have D2 := A2.drw X.A.in1.in1.in1 (s1.heap.objs.size + 1) (by simp [hA]) (Nat.ne_of_lt (Nat.lt_succ_of_lt A2.lt))
      have up : ∀ {c : Addr}, c < s1.heap.objs.size → c < h2.objs.size := fun {c} q => by rw [sz]; exact Nat.lt_of_lt_of_le q (Nat.le_add_right _ _)
      refine zl_call (s := { s1 with heap := h2 }) Z D1 D2 (fun b' q => ?_) (fun b' q => ?_) (by omega) g2 (A1.bgn _ _ g4 (A1.beg.keeps _ _ A1.now kp)) (A2.bgn _ _ g5 (A2.beg.keeps _ _ A2.now kp)) g1 g3 fun h3 tk acc c as k3 hS la g ha => ?_
      · rcases List.mem_cons.mp q with e | q
        · rw [e]; show _ < h2.objs.size; rw [sz]; exact Nat.lt_add_of_pos_right (by decide)
        · rw [List.mem_singleton.mp q]; exact up A1.lt
      · rcases List.mem_cons.mp q with e | q
        · rw [e]; show _ < h2.objs.size; rw [sz]; exact Nat.add_lt_add_left (by decide) _
        · rw [List.mem_singleton.mp q]; exact up A2.lt
      · have old : ∀ (c : Addr) (i : Nat), c < s1.heap.objs.size → c ≠ s1.heap.objs.size + i := fun c i q => Nat.ne_of_lt (Nat.lt_of_lt_of_le q (Nat.le_add_right _ _))
        exact zip_laid (s := s1) I1 ru rv hl hz (fun b' o q => k3 b' o (old _ 4 (Heap.lt_size q)) (old _ 3 (Heap.lt_size q)) (old _ 0 (Heap.lt_size q)) (old _ 1 (Heap.lt_size q)) (kp b' o q)) hS (by show s1.heap.objs.size ≤ h2.objs.size; rw [sz]; exact Nat.le_add_right _ _) la g ha q1
end
end DL
set_option maxRecDepth 100000
set_option maxHeartbeats 3200000
/-! D layer, part X: list(zip(..)), list(d.items()), dict(list of pairs) by data. -/
namespace DL
open PySem PySem.Spec PyProof.Rows L2 SlX
section
variable {cl : Nat → Addr} {G H H' N : Hp} {M : Mem} {ρ : Env} {σ : L2.St}
theorem StOk.grow2 (st : StOk cl G H ρ M σ) (ex : Exh H H') (hn : ∀ b o, N b = some o → H b = none ∧ H' b = some o) : StOk cl (ovl G N) H' ρ M σ := by
  have gn : ∀ b o, N b = some o → G b = none := fun b o e => st.gnone (hn b o e).1
  have eG : Exh G (ovl G N) := fun b o e => ovl_keep gn e
  refine ⟨fun b o e => ?_, fun a c h => ?_, st.len, env_mono (e := eG) st.env⟩
  · cases q : N b with
    | some u => rw [ovl_new q] at e; cases e; exact (hn b _ q).2
    | none => rw [ovl_old q] at e; exact ex b o (st.ex b o e)
  · obtain ⟨g, k⟩ := st.mem a c h
    obtain ⟨oa, hoa, _⟩ := st.mut h
    have na : ∀ {y o}, H y = some o → N y = none := fun {y o} hy => by
      cases q : N y with
      | none => rfl
      | some u => rw [(hn y u q).1] at hy; cases hy
    refine ⟨by rw [ovl_old (na hoa)]; exact g, k.frame eG ((ex _ _ hoa).trans hoa.symm) (fun y hy => ⟨(ex _ _ hy).trans hy.symm, fun q => by rw [ovl_old (na hy)]; exact q⟩) (fun y hy => ex _ _ hy)⟩
theorem StOk.grow2_step (st : StOk cl G H ρ M σ) (ex : Exh H H') (hn : ∀ b o, N b = some o → H b = none ∧ H' b = some o) : Step G H M (ovl G N) H' M := by
  have gn : ∀ b o, N b = some o → G b = none := fun b o e => st.gnone (hn b o e).1
  refine ⟨fun b o e => ovl_keep gn e, fun b u h _ _ => ex _ _ h, fun b h => ?_, fun b h => .inl h, fun b h => ?_⟩
  · cases q : H b with
    | none => exact (h q).elim
    | some o => rw [ex _ _ q]; exact fun z => nomatch z
  · cases q : N b with
    | some o => exact .inr (.inl (hn b o q).1)
    | none => rw [ovl_old q] at h; exact .inl h
def pairD (as bs : List Dat) : List Dat := List.zipWith (fun x y => .tup [x, y]) as bs
theorem denL_ix {ds : List Dat} {xs : List V} (hl : xs.length = ds.length) (h : ∀ (j : Nat) d x, ds[j]? = some d → xs[j]? = some x → Den cl G d x) : DenL cl G ds xs := by
  induction ds generalizing xs with
  | nil => exact denL_nil.mpr (List.length_eq_zero_iff.mp hl)
  | cons d ds ih =>
    cases xs with
    | nil => simp at hl
    | cons x xs => exact denL_cons.mpr ⟨x, xs, rfl, h 0 d x rfl rfl, ih (by simpa using hl) fun j d' x' h1 h2 => h (j + 1) d' x' (by simpa using h1) (by simpa using h2)⟩
theorem den_pairs {S : Addr} {as : List Addr} {ds es : List Dat} {xs ys : List V} (l1 : DenL cl G ds xs) (l2 : DenL cl G es ys) (hl : ds.length = es.length) (la : as.length = ds.length) (eG : Exh G (ovl G N)) (hS : N S = some (.lst (as.map V.ref)))
    (hp : ∀ (j : Nat) (a : Addr) (x y : V), as[j]? = some a → xs[j]? = some x → ys[j]? = some y → N a = some (.tup [x, y])) : Den cl (ovl G N) (.lst (pairD ds es)) (.ref S) := by
  refine den_lst.mpr ⟨S, _, rfl, ovl_new hS, denL_ix (by simp [pairD, la, hl]) fun j d v h1 h2 => ?_⟩
  unfold pairD at h1
  rw [List.getElem?_zipWith] at h1
  cases q1 : ds[j]? with
  | none => rw [q1] at h1; cases h1
  | some d1 =>
    cases q2 : es[j]? with
    | none => rw [q1, q2] at h1; cases h1
    | some d2 =>
      rw [q1, q2] at h1
      cases h1
      rw [List.getElem?_map] at h2
      cases q3 : as[j]? with
      | none => rw [q3] at h2; cases h2
      | some a =>
        rw [q3] at h2
        cases h2
        obtain ⟨x, hx, n1⟩ := l1.get q1
        obtain ⟨y, hy, n2⟩ := l2.get q2
        exact den_tup.mpr ⟨a, [x, y], rfl, ovl_new (hp j a x y q3 hx hy), denL_cons.mpr ⟨x, [y], rfl, n1.mono eG, .one (n2.mono eG)⟩⟩
end
section
variable {cl : Nat → Addr} {X : Cx} {e e1 e2 : Expr} {p p2 q pos apos cpos : Pos} {Wr : WA} {We : WE}
def wListZip (Wr : WA) : WE := fun ρ M Φ => Wr ρ M fun ds M1 => ∃ a b as bs, ds = [a, b] ∧ seqV M1 a = some as ∧ seqV M1 b = some bs ∧ as.length = bs.length ∧ as.length ≤ sizeLine ∧ Φ (.lst (pairD as bs)) M1
theorem de_listZip (hm : X.mg "list" = none) (hm2 : X.mg "zip" = none) (ha : DA cl X [e1, e2] Wr) (hc : X.calm = true := by rfl) (hg : Gl X "list" := by rfl) (hg2 : Gl X "zip" := by rfl)
    (hs : starEach [.Call (.Name "zip" p2) [e1, e2] [] q] X.env = (false, eval (.Call (.Name "zip" p2) [e1, e2] [] q) X.env) :: starEach [] X.env := by rfl)
    (hs2 : starEach [e1, e2] X.env = (false, eval e1 X.env) :: starEach [e2] X.env := by rfl) (hpl : (backTo q (starEach [e2] X.env)).any (·.1) = false := by rfl) :
    DE cl X (.Call (.Name "list" p) [.Call (.Name "zip" p2) [e1, e2] [] q] [] pos) (wListZip Wr) := PE.imp (pe_listZip hc hg hm hg2 hm2 ha hs hs2 hpl) fun σ H Q ⟨G, ρ, M, Φ, st, h, k⟩ =>
  ⟨G, ρ, M, _, st, h, fun ds vs M1 G1 H1 s1 st1 dn1 h1 => by
    obtain ⟨a, b, as, bs, e, ha, hb, hl, hz, h1⟩ := h1
    subst e
    obtain ⟨x, y, rfl, n1, n2⟩ := denL_2 dn1
    obtain ⟨pa, xs, rfl, hpa, la⟩ := st1.seqV n1 ha
    obtain ⟨pb, ys, rfl, hpb, lb⟩ := st1.seqV n2 hb
    refine ⟨pa, pb, xs, ys, rfl, sq_or hpa, sq_or hpb, by rw [la.length, lb.length]; exact hl, by rw [la.length]; exact hz, fun S ps N lp hS hn nS np => ?_⟩
    have hn2 : ∀ b o, N b = some o → H1 b = none ∧ ovl H1 N b = some o := fun b o e => ⟨hn b o e, ovl_new e⟩
    have ex : Exh H1 (ovl H1 N) := fun b o e => ovl_keep hn e
    refine k _ _ _ _ _ (s1.trans (st1.grow2_step ex hn2)) (st1.grow2 ex hn2) (den_pairs la lb hl (by rw [lp, List.length_zip, la.length, lb.length]; omega) (st1.grow2_step ex hn2).ex nS fun j a x y q1 q2 q3 => np j a (x, y) q1 (List.getElem?_zip_eq_some.mpr ⟨q2, q3⟩)) h1⟩
def kD : Key → Dat
  | .inl i => .v (.int i)
  | .inr s => .v (.str s)
theorem kD_den {G : Hp} (k : Key) : Den cl G (kD k) (kV k) := by
  cases k with
  | inl i => exact den_v.mpr rfl
  | inr s => exact den_v.mpr rfl
def wListItems (We : WE) : WE := fun ρ M Φ => We ρ M fun d M1 => ∃ ks es, dicV M1 d = some (ks, es) ∧ Φ (.lst (pairD (ks.map kD) es)) M1
theorem denL_keys {G : Hp} (ks : List Key) : DenL cl G (ks.map kD) (ks.map kV) := by
  induction ks with
  | nil => exact denL_nil.mpr rfl
  | cons k ks ih => exact denL_cons.mpr ⟨_, _, rfl, kD_den k, ih⟩
theorem de_listItems (hm : X.mg "list" = none) (he : DE cl X e We) (hc : X.calm = true := by rfl) (hg : Gl X "list" := by rfl) (hbase : attributeBase e "items" X.env (eval e X.env) = eval e X.env := by rfl) (hline : (apos.endLine == cpos.line) = true := by rfl)
    (hs : starEach [.Call (.Attribute e "items" apos) [] [] cpos] X.env = (false, eval (.Call (.Attribute e "items" apos) [] [] cpos) X.env) :: starEach [] X.env := by rfl) :
    DE cl X (.Call (.Name "list" p) [.Call (.Attribute e "items" apos) [] [] cpos] [] pos) (wListItems We) := PE.imp (LiI.pe_listItems hc he hg hm boot_list hbase hline hs) fun σ H Q ⟨G, ρ, M, Φ, st, h, k⟩ =>
  ⟨G, ρ, M, _, st, h, fun d x M1 G1 H1 s1 st1 dn1 h1 => by
    obtain ⟨ks, es, e, h1⟩ := h1
    obtain ⟨pd, ws, rfl, hp, hk, l⟩ := st1.dicV dn1 e
    refine ⟨pd, ws, rfl, hp, fun H' S ts ex hS hts nS eS ps => ?_⟩
    have lt : ts.length = ws.length := ps.length
    refine (fun (N : Hp) (hN : N = fun b => if b = S ∨ b ∈ ts then H' b else none) => ?_) _ rfl
    have hn2 : ∀ b o, N b = some o → H1 b = none ∧ H' b = some o := fun b o e => by
      rw [hN] at e
      change (if b = S ∨ b ∈ ts then H' b else none) = some o at e
      split at e
      · rename_i q
        refine ⟨?_, e⟩
        rcases q with q | q
        · rw [q]; exact hS
        · exact hts b q
      · cases e
    have nS' : N S = some (.lst (ts.map V.ref)) := by rw [hN]; exact (if_pos (.inl rfl)).trans eS
    refine k _ _ _ _ _ (s1.trans (st1.grow2_step ex hn2)) (st1.grow2 ex hn2) (den_pairs (xs := ws.map fun q => kV q.1) (by rw [← hk, show (ws.map fun q => kV q.1) = (ws.map (·.1)).map kV from by rw [List.map_map]; rfl]; exact denL_keys _) l ?_ ?_ (st1.grow2_step ex hn2).ex nS' fun j a x y q1 q2 q3 => ?_) h1
    · have := l.length
      rw [← hk]
      simpa using this.symm ▸ (by simp)
    · rw [lt, ← hk]; simp
    · rw [List.getElem?_map] at q2 q3
      obtain ⟨w', hw, ht⟩ := LiI.paired_get ps q1
      rw [hw] at q2 q3
      cases q2
      cases q3
      rw [hN]
      exact (if_pos (.inr (List.mem_of_getElem? q1))).trans ht⟩
theorem merge_nodup : ∀ {more kvs : List (Key × V)}, ((kvs ++ more).map (·.1)).Nodup → mergeK kvs more = kvs ++ more
  | [], kvs, _ => by rw [List.append_nil]; rfl
  | p :: r, kvs, nd => by
    have e : putK kvs p.1 p.2 = kvs ++ [p] := by
      unfold putK
      rw [if_neg]
      intro h
      obtain ⟨kv, hk, e⟩ := List.any_eq_true.mp h
      have e : kv.1 = p.1 := by simpa using e
      rw [List.map_append, List.map_cons, List.nodup_append] at nd
      exact nd.2.2 kv.1 (List.mem_map_of_mem hk) p.1 List.mem_cons_self e
    show mergeK (putK kvs p.1 p.2) r = _
    rw [e, merge_nodup (by rw [List.append_assoc]; exact nd), List.append_assoc]
    rfl
theorem pairs_back {K : PySem.W.Frag} {G H : Hp} {ρ : Env} {M : Mem} {σ : L2.St} (st : StOk cl G H ρ M σ) : ∀ (ks : List Key) (es : List Dat) (ys : List V), DenL cl G (pairD (ks.map kD) es) ys → ks.length = es.length → ∃ (ps : List Addr) (vs : List V), ys = ps.map V.ref ∧ DenL cl G es vs ∧ Paired (fun (p : Addr) (kv : Key × V) => SqT K H p [kV kv.1, kv.2]) ps (ks.zip vs)
  | [], [], ys, l, _ => ⟨[], [], denL_nil.mp l, denL_nil.mpr rfl, .nil⟩
  | [], _ :: _, _, _, hl => by simp at hl
  | _ :: _, [], _, _, hl => by simp at hl
  | kk :: ks, e :: es, ys, l, hl => by
    have l' : DenL cl G (.tup [kD kk, e] :: pairD (ks.map kD) es) ys := l
    obtain ⟨y, yr, rfl, n, l2⟩ := denL_cons.mp l'
    obtain ⟨p, zs, rfl, hp, lz⟩ := den_tup.mp n
    obtain ⟨z1, z2, rfl, m1, m2⟩ := denL_2 lz
    obtain ⟨ps, vs, rfl, lv, pr⟩ := pairs_back st ks es yr l2 (by simpa using hl)
    have : z1 = kV kk := by cases kk <;> exact den_v.mp m1
    subst this
    exact ⟨p :: ps, z2 :: vs, rfl, denL_cons.mpr ⟨_, _, rfl, m2, lv⟩, .cons (SqT.of (st.rd hp)) pr⟩
def oDictP : DOs := fun ds M Φ => ∃ d ks es, ds = [d] ∧ lstV M d = some (pairD (ks.map kD) es) ∧ ks.length = es.length ∧ ks.Nodup ∧ newD ks es M Φ
theorem cd_dictP {K : PySem.W.Frag} : CalD cl (fun xs H Q => ∃ (a : Addr) (ps : List Addr) (kvs : List (Key × V)), xs = [.ref a] ∧ SqL K H a (ps.map V.ref) ∧ Paired (fun p kv => SqT K H p [kV kv.1, kv.2]) ps kvs ∧ ∀ p, H p = none → Q (.ref p) (upd H p (.dK (mergeK [] kvs)))) oDictP := fun G H ρ M σ ds xs Φ Q st n ⟨d, ks, es, e, h1, hl, nd, h⟩ k => by
  subst e
  obtain ⟨x, ex, n1⟩ := denL_1 n
  subst ex
  obtain ⟨a, ys, rfl, hp, l⟩ := st.lstV n1 h1
  obtain ⟨ps, vs, e1, e2, e3⟩ := pairs_back (K := K) st ks es ys l hl
  subst e1
  have lv := e2.length
  have ek : (ks.zip vs).map (·.1) = ks := List.map_fst_zip (by omega)
  refine ⟨a, ps, ks.zip vs, rfl, SqL.of hp, e3, fun p hq => ?_⟩
  rw [merge_nodup (by rw [List.nil_append, ek]; exact nd), List.nil_append]
  exact k.newD st ek (by rw [List.map_snd_zip (by omega)]; exact e2) h hq
end
end DL
set_option maxRecDepth 100000
set_option maxHeartbeats 3200000
/-! D layer, part W: enumerate(a tuple). -/
namespace DL
open PySem PySem.Spec PyProof.Rows L2 SlX
theorem enum1_meets {v : Value} {o : Obj} {Hb : Heap → Prop} (B : Begins v o Hb) :
    Meets (Builtin.«enumerate.__new__» ⟨[.type "enumerate", v], []⟩) (fun _ R s => Hb s.heap ∧ R (.ok (.ret (.ref (s.heap.push o).objs.size))) { s with heap := (s.heap.push o).push { cls := .type "enumerate", data := .fields #[.none, .bool false, .ref s.heap.objs.size, rawInt 0, .none, .none] } }) :=
  .of_wp fun P w A R s h => by
    obtain ⟨hp, g, d, tk, os⟩ := s
    obtain ⟨hb, h⟩ := h
    have hsub := sub_enumerate
    have it : ∀ {A2 : Around} {E2 : Value → Shared → Prop} {Q : Value → Shared → Prop}, Q (.ref hp.objs.size) ⟨hp.push o, g, d, tk, os⟩ → wpAny (model P w) A2 (pyIter v) Q E2 ⟨hp, g, d, tk, os⟩ := fun q => B.iter P w _ _ ⟨hp, g, d, tk, os⟩ _ hb q
    wp_walk using it
    refine wpAny_stack_any fun st => wpAny_pure ?_
    split
    · rename_i c _ _ _ _ _
      cases (c == Value.type "enumerate") <;> (wp_walk using it; exact ⟨_, rfl, h⟩)
    · wp_walk using it
      exact ⟨_, rfl, h⟩
section
variable {P : Program} {w : World} {B : Around} {E1 : Value → Shared → Prop} {s : Shared}
theorem enum1_call {v : Value} {o : Obj} {Hb : Heap → Prop} {Q : Value → Shared → Prop} (Bg : Begins v o Hb) (h1 : Hb s.heap)
    (k : ∀ h2, IsEnum h2 (s.heap.objs.size + 1) s.heap.objs.size 0 .none → h2.get? s.heap.objs.size = some o → h2.objs.size = s.heap.objs.size + 2 → (∀ b o, s.heap.get? b = some o → h2.get? b = some o) → Q (.ref (s.heap.objs.size + 1)) { s with heap := h2 }) : wpAny (model P w) B (call (.type "enumerate") [v]) Q E1 s := by
  refine callType_new F.called_enumerate (by decide) (F.typeCall_enumerate_1 _) (F.newCall_enumerate_1 _) (fun obj => F.args_object_init_2 obj _) F.entry_enumerate_new (enum1_meets Bg) ⟨h1, ?_⟩
  have e1 : (s.heap.push o).objs.size = s.heap.objs.size + 1 := Heap.size_push ..
  show _ ∧ _
  rw [e1]
  have en : IsEnum ((s.heap.push o).push { cls := .type "enumerate", data := .fields #[.none, .bool false, .ref s.heap.objs.size, rawInt 0, .none, .none] }) (s.heap.objs.size + 1) s.heap.objs.size 0 .none := by
    have z := Heap.get?_push_size (s.heap.push o) (o := { cls := .type "enumerate", data := .fields #[.none, .bool false, .ref s.heap.objs.size, rawInt 0, .none, .none] }) rfl
    rw [e1] at z; exact z
  exact ⟨⟨_, en, rfl⟩, k _ en (Heap.get?_push_of_some _ (Heap.get?_push_size _ Bg.free)) (by rw [Heap.size_push, e1]) fun b o q => Heap.get?_push_of_some _ (Heap.get?_push_of_some _ q)⟩
end
/-- the tuple at a, each item in a new pair -/
def IteT (K : PySem.W.Frag) (a : Addr) : It :=
  ⟨fun i H => ∃ (xs : List V) (x : V), SqT K H a xs ∧ xs[i]? = some x, fun i H v H' => ∃ T x, v = .ref T ∧ H T = none ∧ H' = upd H T (.tup [.int (i : Nat), x]) ∧ ∀ xs, SqT K H a xs → xs[i]? = some x, fun i H => ∃ xs : List V, SqT K H a xs ∧ xs.length ≤ i⟩
theorem turn_enumT {P : Program} {w : World} {K : PySem.W.Frag} {elts : List Expr} {kk : Nat} {tpos : Pos} (a e it : Addr) (ne : a ≠ it) (nea : e ≠ a) :
    Turn P w K (.Tuple elts kk tpos) (IteT K a) [e, it] e (fun i h => (∃ old, IsEnum h e it ((i : Nat) : Int) old) ∧ h.IsTupleIter it a i ∧ e ≠ it) where
  mem := by simp
  obj := fun i h st b hb => by
    obtain ⟨⟨old, he⟩, ⟨o, ho, hc, hd⟩, _⟩ := st
    rcases (by simpa using hb : b = e ∨ b = it) with q | q
    · subst q; exact ⟨_, he, fun v z => nomatch z⟩
    · subst q; exact ⟨o, ho, fun v z => by rw [hd] at z; cases z⟩
  keep := fun i h h' st k => let ⟨⟨old, he⟩, hi, n⟩ := st; ⟨⟨old, k e (by simp) _ he⟩, hi.at fun o q => k it (by simp) o q, n⟩
  item := by
    intro X hP hw hK hc i pins s σ H E I hf st hg
    subst hP hw hK
    obtain ⟨⟨old, he⟩, hit, hne⟩ := st
    obtain ⟨xs, x, hq, hx⟩ := hg
    obtain ⟨its, rv, p, hz⟩ := I.tuple hq
    obtain ⟨u, hu, ru⟩ := rv.get hx
    have pt : s.heap.IsTuple a its.toArray := p
    have hel : e < s.heap.objs.size := Heap.lt_size he
    have hil : it < s.heap.objs.size := by obtain ⟨_, q, _⟩ := hit; exact Heap.lt_size q
    have D := Draws.tuple (prog := X.prog) (w := X.w) (A := X.A.in1) (by simpa using I.ok.hd hc) it a ne its.toArray
    have hlt : i < its.toArray.size := by have := (List.getElem?_eq_some_iff.mp hu).1; simpa using this
    refine wpAny_pyNext_enum_itemD D he ⟨hit, pt⟩ hlt hne (by simp [hne, nea]) fun y h2 tk py eo st2 hT hsz hk => ?_
    have ey : u = y := by simpa [hu] using py
    subst ey
    refine ⟨_, rfl, wpAny_letOwnedTupleGo_enum (s := { s with heap := h2, toks := tk + 1 }) eo fun h3 he3 sb => ?_⟩
    have hT2 : h3.get? s.heap.objs.size = some { cls := .type "tuple", data := .seq #[.int i tk, u] } := (sb.2 _ (Nat.ne_of_gt hel)).trans hT
    have new : ObjOk X.prog X.w (upd H s.heap.objs.size (.tup [.int (i : Nat), x])) h3 s.heap.objs.size (.tup [.int (i : Nat), x]) :=
      ⟨by show 2 ≤ sizeLine; decide, [.int i tk, u], .cons ⟨_, rfl⟩ (.cons ru .nil), ⟨_, hT2, rfl, _, rfl⟩⟩
    have I1 : Inv X pins σ (upd H s.heap.objs.size (.tup [.int (i : Nat), x])) { s with heap := h3, toks := tk + 1 } :=
      I.turnedNew (ch := [e, it]) (fun b ob hb q => (sb.2 b (fun z => hb (by simp [z]))).trans (hk b ob (fun z => hb (by simp [z])) (fun z => hb (by simp [z])) q)) hf (Nat.le_refl _) new
    refine ⟨.ref s.heap.objs.size, _, I1, rfl, ⟨_, x, rfl, I.hok.fresh (Nat.le_refl _), rfl, fun ys hy => ?_⟩, ⟨⟨u, ?_⟩, st2.1.at fun o q => (sb.2 it (Ne.symm hne)).trans q, hne⟩, fun b hb => ?_⟩
    · rw [I.tuple_inj hy hq]; exact hx
    · rw [show ((i + 1 : Nat) : Int) = (i : Int) + 1 by omega]; exact he3
    · have hb' : b < s.heap.objs.size := by
        rcases (by simpa using hb : b = e ∨ b = it) with q | q
        · rw [q]; exact hel
        · rw [q]; exact hil
      rw [upd_ne (Nat.ne_of_lt hb')]
      exact (hf b hb).1
  done := by
    intro X hP hw hK hc i pins s σ H E I hf st hg
    subst hP hw hK
    obtain ⟨⟨old, he⟩, hit, hne⟩ := st
    obtain ⟨xs, hq, hx⟩ := hg
    obtain ⟨its, rv, p, hz⟩ := I.tuple hq
    obtain ⟨f0, f1, f2, f3, f4, f5⟩ := hf it (by simp)
    have pt : s.heap.IsTuple a its.toArray := p
    have hl := rv.length
    have no : its.toArray[i]? = none := by simp; omega
    have D : Draws X.prog X.w X.A.in1 it [it, a] i (fun _ _ => False) (fun j h => (h.IsTupleIter it a i ∧ h.IsTuple a its.toArray) ∧ j = i) :=
      { live := fun _ _ st => let ⟨o, ho, _⟩ := st.1.1; ⟨o, ho⟩
        frame := fun _ _ _ st hk => ⟨⟨st.1.1.at fun o e => hk it (by simp) o e, st.1.2.at fun o e => hk a (by simp) o e⟩, st.2⟩
        item := fun j s Q E hj st _ => absurd st.2 (Nat.ne_of_lt hj)
        done := fun s Q E st hE => wpAny_nextOf_tuple_end (by simpa using I.ok.hd hc) st.1.1 st.1.2 no hE }
    exact wpAny_pyNext_enum_endD D he ⟨⟨hit, pt⟩, rfl⟩ fun h2 eb => ⟨rfl, I.turned (t' := s.toks) (fun b o hb q => eb b o hb q) f0 f1 f3 f4 f5⟩
  self := fun A i s Q E st h => let ⟨⟨_, he⟩, _⟩ := st; wpAny_pyIter_enum he h
section
variable {cl : Nat → Addr} {X : Cx} {e : Expr} {p pos tpos : Pos} {elts : List Expr} {kk : Nat} {ta : TA} {Wr : WA}
def iEnumT (K : PySem.W.Frag) (ta : TA) : TI := fun σ H R => ta σ H fun vs H1 => ∃ a xs, vs = [.ref a] ∧ SqT K H1 a xs ∧ R (IteT K a) H1
theorem pi_enumT (hg : Gl X "enumerate") (hm : X.mg "enumerate" = none) (ha : PA X [e] ta) (hs : starEach [e] X.env = [(false, eval e X.env)] := by rfl) : PI X (.Tuple elts kk tpos) (.Call (.Name "enumerate" p) [e] [] pos) (iEnumT X.K ta) := by
  refine ⟨fun pins s σ H R I h => Call_ (ld_blt I hg hm boot_enumerate (PyProof.Rows.callWith_type1 (thn (ha.run pos pins s σ H _ I h) fun us s1 ⟨vs, H1, I1, r1, q1⟩ => ?_) hs rfl))⟩
  obtain ⟨a, xs, ex, hq, q⟩ := q1
  subst ex
  cases r1 with
  | cons r rr =>
    cases rr
    cases r
    obtain ⟨its, rv, pt, hz⟩ := I1.tuple hq
    have pt' : s1.heap.IsTuple a its.toArray := pt
    have la : a < s1.heap.objs.size := let ⟨_, ho, _⟩ := pt'; Heap.lt_size ho
    refine enum1_call (begins_tuple a its.toArray) pt' fun h2 he hit hsz hk => wpAny_pyIter_enum he ?_
    have I2 : Inv X pins σ H1 { s1 with heap := h2 } := I1.kept (t' := s1.toks) hk
    refine ⟨s1.heap.objs.size + 1, [s1.heap.objs.size + 1, s1.heap.objs.size], _, _, H1, rfl, I2, turn_enumT a (s1.heap.objs.size + 1) s1.heap.objs.size (Nat.ne_of_lt la) (Nat.ne_of_gt (Nat.lt_succ_of_lt la)), ⟨⟨.none, he⟩, ⟨_, hit, rfl, rfl⟩, Nat.succ_ne_self _⟩, fun b hb => ?_, q⟩
    have hle : s1.heap.objs.size ≤ b := by
      rcases (by simpa using hb : b = s1.heap.objs.size + 1 ∨ b = s1.heap.objs.size) with z | z
      · rw [z]; exact Nat.le_add_right _ _
      · rw [z]; exact Nat.le_refl _
    exact I1.fpOk hle (I1.hok.fresh hle)
def tupV : Dat → Option (List Dat)
  | .tup ds => some ds
  | _ => none
def wEnumT (Wr : WA) : WI := fun ρ M Ψ => Wr ρ M fun ds M1 => ∃ es, ds = [.tup es] ∧ Ψ (enumD es) gdT M1
theorem id_enumT {K : PySem.W.Frag} : ID cl (iEnumT K (liftA cl Wr)) (wEnumT Wr) := fun G H ρ M σ Ψ R st h k => ⟨G, ρ, M, _, st, h, fun ds xs M1 G1 H1 s1 st1 dn h1 => by
  obtain ⟨es, e, h4⟩ := h1
  subst e
  obtain ⟨x, e, n⟩ := denL_1 dn
  subst e
  obtain ⟨a, ys, e, hy, l⟩ := den_tup.mp n
  subst e
  refine ⟨a, ys, rfl, SqT.of (st1.rd hy), k _ _ _ _ _ _ s1 st1 ⟨fun i G H ρ M σ e st g hi => ?_, fun G H ρ M σ e st g => ?_, fun i G H ρ M σ x H' e st g hi y => ?_⟩ h4⟩
  · rw [enumD_len, ← l.length] at hi
    exact ⟨ys, ys[i], SqT.of (st.rd (e _ _ hy)), by simp [hi]⟩
  · refine ⟨ys, SqT.of (st.rd (e _ _ hy)), ?_⟩
    rw [enumD_len, l.length]
    exact Nat.le_refl _
  · obtain ⟨T, x1, rfl, hT, rfl, h3⟩ := y
    obtain ⟨d, hd, n⟩ := l.back (h3 ys (SqT.of (st.rd (e _ _ hy))))
    refine ⟨.tup [.v (.int (i : Nat)), d], _, by rw [enumD_get, hd]; rfl, st.newF_step hT, st.newF (o := .tup [.int (i : Nat), x1]) hT, den_tup.mpr ⟨T, _, rfl, upd_same, ?_⟩⟩
    exact denL_cons.mpr ⟨_, _, rfl, den_v.mpr rfl, .one ((n.mono e).mono (Exh.new (st.gnone hT)))⟩⟩
theorem di_enumT (hm : X.mg "enumerate" = none) (ha : DA cl X [e] Wr) (hg : Gl X "enumerate" := by rfl) (hs : starEach [e] X.env = [(false, eval e X.env)] := by rfl) :
    DI cl X (.Tuple elts kk tpos) (.Call (.Name "enumerate" p) [e] [] pos) (wEnumT Wr) := ⟨_, pi_enumT hg hm ha hs, id_enumT⟩
end
end DL
set_option maxRecDepth 100000
set_option maxHeartbeats 3200000
/-! D layer, part V: dicts whose keys are tuples of any depth: made of a list of pairs, read, their len. -/
namespace DL
open PySem PySem.Spec PyProof.Rows L2 SlX
mutual
inductive NK (H : Hp) : NestedKey → V → Prop
  | num (i : Int) : NK H (.num i) (.int i)
  | text (x : Str) : NK H (.text x) (.str x)
  | tup {p : Addr} {xs : List V} {ks : List NestedKey} : H p = some (.tup xs) → NKs H ks xs → NK H (.tup ks) (.ref p)
inductive NKs (H : Hp) : List NestedKey → List V → Prop
  | nil : NKs H [] []
  | cons {k x ks xs} : NK H k x → NKs H ks xs → NKs H (k :: ks) (x :: xs)
end
mutual
theorem NK.mono {H H' : Hp} (e : Exh H H') : ∀ {k : NestedKey} {x : V}, NK H k x → NK H' k x
  | .num i, _, h => by cases h; exact .num i
  | .text x, _, h => by cases h; exact .text x
  | .none, _, h => by cases h
  | .tup ks, _, h => by
    cases h with
    | tup h1 h2 => exact .tup (e _ _ h1) (NKs.mono e h2)
theorem NKs.mono {H H' : Hp} (e : Exh H H') : ∀ {k : List NestedKey} {x : List V}, NKs H k x → NKs H' k x
  | [], _, h => by cases h; exact .nil
  | _ :: _, _, h => by
    cases h with
    | cons h1 h2 => exact .cons (NK.mono e h1) (NKs.mono e h2)
end
section
variable {X : Cx} {pins : List (Addr × Obj)} {σ : L2.St} {H : Hp} {s : Shared}
mutual
theorem NK.is (I : Inv X pins σ H s) : ∀ {k : NestedKey} {x : V} {u : Value}, NK H k x → RelV x u → NestedIs s.heap k u
  | .num i, _, _, h, r => by
    cases h
    obtain ⟨t, rfl⟩ := r
    exact .int i t
  | .text x, _, _, h, r => by
    cases h
    obtain ⟨t, rfl⟩ := r
    exact .text x t
  | .none, _, _, h, _ => by cases h
  | .tup ks, _, _, h, r => by
    cases h with
    | tup h1 h2 =>
      cases r
      obtain ⟨its, rv, pt, _⟩ := I.tuple (SqT.of (K := X.K) h1)
      obtain ⟨o, ho, hc, n, hd⟩ := (show s.heap.IsTuple _ its.toArray from pt)
      exact .tup ho hc hd (by simpa using NKs.is I h2 rv)
theorem NKs.is (I : Inv X pins σ H s) : ∀ {ks : List NestedKey} {xs : List V} {us : List Value}, NKs H ks xs → Vals xs us → NestedAll s.heap ks us
  | [], _, _, h, r => by cases h; cases r; exact .nil
  | _ :: _, _, _, h, r => by
    cases h with
    | cons h1 h2 =>
      cases r with
      | cons r1 r2 => exact .cons (NK.is I h1 r1) (NKs.is I h2 r2)
end
end
abbrev NXs := List (NestedKey × Addr × V)
def withU (xs : NXs) (us : List Value) : List (NestedKey × Addr × Value) := List.zipWith (fun x u => (x.1, x.2.1, u)) xs us
/-- a dict with such keys at a -/
def NdO (P : Program) (w : World) (a : Addr) (xs : NXs) : HO := .ext fun h => xs.length ≤ sizeLine ∧ (a == sysModules) = false ∧ (xs.map (·.1)).Nodup ∧ ∃ us : List Value, Vals (xs.map (·.2.2)) us ∧
  ∃ o es ep, h.get? a = some o ∧ o.ExactDict ∧ o.data = .dict es ep ∧ es.toList = (withU xs us).map (entryOfKey (nestedKind P w))
theorem withU_keys : ∀ {xs : NXs} {us : List Value}, xs.length = us.length → (withU xs us).map (·.1) = xs.map (·.1)
  | [], [], _ => rfl
  | [], _ :: _, h => by simp at h
  | _ :: _, [], h => by simp at h
  | x :: xs, u :: us, h => by
    have := withU_keys (xs := xs) (us := us) (by simpa using h)
    unfold withU at this ⊢
    simpa using this
theorem withU_mem : ∀ {xs : NXs} {us : List Value} {y : NestedKey × Addr × Value}, y ∈ withU xs us → ∃ x ∈ xs, x.1 = y.1 ∧ x.2.1 = y.2.1
  | [], _, _, h => by simp [withU] at h
  | _ :: _, [], _, h => by simp [withU] at h
  | x :: xs, u :: us, y, h => by
    have h' : y ∈ (x.1, x.2.1, u) :: withU xs us := h
    rcases List.mem_cons.mp h' with e | h'
    · exact ⟨x, List.mem_cons_self, by rw [e], by rw [e]⟩
    · obtain ⟨z, hz, e⟩ := withU_mem h'
      exact ⟨z, List.mem_cons_of_mem _ hz, e⟩
theorem ndo_ok {P : Program} {w : World} {H : Hp} {h : Heap} {a : Addr} {xs : NXs} {us : List Value} (hl : xs.length ≤ sizeLine) (ha : (a == sysModules) = false) (nd : (xs.map (·.1)).Nodup) (r : Vals (xs.map (·.2.2)) us) {o : Obj} {es : Array DictEntry} {ep : Nat}
    (e : h.get? a = some o) (x : o.ExactDict) (d : o.data = .dict es ep) (q : es.toList = (withU xs us).map (entryOfKey (nestedKind P w))) : ObjOk P w H h a (NdO P w a xs) :=
  ⟨⟨hl, ha, nd, us, r, o, es, ep, e, x, d, q⟩, ⟨o, e⟩, fun h1 h2 ⟨z1, z2, z3, us, z4, o, es, ep, z5, z6⟩ k => ⟨z1, z2, z3, us, z4, o, es, ep, k o z5, z6⟩⟩
section
variable {X : Cx} {pins : List (Addr × Obj)} {σ : L2.St} {H : Hp} {s : Shared} {a : Addr} {xs : NXs}
/-- the keys of the dict stand -/
def NKeys (H : Hp) (xs : NXs) : Prop := ∀ x ∈ xs, NK H x.1 (.ref x.2.1) ∧ x.1.depth ≤ 8
theorem NKeys.mono {H' : Hp} (e : Exh H H') (h : NKeys H xs) : NKeys H' xs := fun x hx => ⟨(h x hx).1.mono e, (h x hx).2⟩
theorem nd_at (I : Inv X pins σ H s) (h : H a = some (NdO X.prog X.w a xs)) (hk : NKeys H xs) : (a == sysModules) = false ∧ xs.length ≤ sizeLine ∧ ∃ us, Vals (xs.map (·.2.2)) us ∧ s.heap.DictOfH (nestedKind X.prog X.w) a (withU xs us) := by
  obtain ⟨⟨z1, z2, z3, us, z4, o, es, ep, z5, z6, z7, z8⟩, _⟩ := I.hok a _ h
  have hl : xs.length = us.length := by have := z4.length; simpa using this
  refine ⟨z2, z1, us, z4, o, es, ep, z5, z6, z7, z8, fun y hy => ?_, by rw [withU_keys hl]; exact z3⟩
  obtain ⟨x, hx, e1, e2⟩ := withU_mem hy
  rw [← e1, ← e2]
  exact ⟨(hk x hx).1.is I (u := .ref x.2.1) rfl, (hk x hx).2⟩
def valN : NXs → NestedKey → Option V
  | [], _ => none
  | x :: xs, k => if x.1 = k then some x.2.2 else valN xs k
theorem valN_at : ∀ {xs : NXs} {us : List Value} {k : NestedKey} {v : V}, Vals (xs.map (·.2.2)) us → valN xs k = some v → ∃ p u, atKey (withU xs us) k = some (p, u) ∧ RelV v u
  | [], _, _, _, _, h => by cases h
  | x :: xs, _, k, v, .cons r rr, h => by
    rename_i u us
    show ∃ p u', atKey ((x.1, x.2.1, u) :: withU xs us) k = some (p, u') ∧ RelV v u'
    unfold atKey
    rw [List.find?_cons]
    by_cases q : x.1 = k
    · rw [decide_eq_true (show ((x.1, x.2.1, u) : NestedKey × Addr × Value).1 = k from q)]
      unfold valN at h
      rw [if_pos q] at h
      cases h
      exact ⟨x.2.1, u, rfl, r⟩
    · rw [decide_eq_false (show ¬ ((x.1, x.2.1, u) : NestedKey × Addr × Value).1 = k from q)]
      unfold valN at h
      rw [if_neg q] at h
      exact valN_at rr h
abbrev rNGet (P : Program) (w : World) : R2 := fun x y H Q => ∃ (a b : Addr) (xs : NXs) (k : NestedKey) (v : V), x = .ref a ∧ y = .ref b ∧ H a = some (NdO P w a xs) ∧ NKeys H xs ∧ NK H k (.ref b) ∧ k.depth ≤ 8 ∧ valN xs k = some v ∧ Q v H
theorem ix_nd (hu : X.A.units + 64 < cLine) : IxR X (rNGet X.prog X.w) := by
  intro value slice pins s σ H x y v u Q I rx ry h hs
  obtain ⟨a, b, xs, k, z, rfl, rfl, ha, hk, hb, hd, hv, q⟩ := h
  cases rx
  cases ry
  obtain ⟨z2, z1, us, r, D⟩ := nd_at I ha hk
  obtain ⟨p, u, hp, ru⟩ := valN_at r hv
  refine tail_any D.typeIs PySem.F.slot_dict_getitem.lookup (wpAny_getItem_heap (knd := nestedKind X.prog X.w) ?_ ⟨hb.is I (u := .ref b) rfl, hd⟩ D hp ⟨z, H, I.tok _, ru, q⟩) hs
  show X.A.in1.units + 8 < cLine
  show X.A.units + 1 + 8 < cLine
  omega
abbrev rNLen (P : Program) (w : World) : List V → Hp → VK → Prop := fun vs H Q => ∃ (a : Addr) (xs : NXs), vs = [.ref a] ∧ H a = some (NdO P w a xs) ∧ NKeys H xs ∧ Q (.int xs.length) H
theorem call_len_nd : CallR X (.builtin "len") (rNLen X.prog X.w) := by
  intro pins s σ H vs us Q I r h
  obtain ⟨a, xs, rfl, ha, hk, q⟩ := h
  obtain ⟨u, rfl, rx⟩ := vals1 r
  cases rx
  obtain ⟨z2, z1, us, rr, D⟩ := nd_at I ha hk
  have hl : (withU xs us).length = xs.length := by have := rr.length; simp [withU] at this ⊢; omega
  refine call_len_dictH z2 D (by rw [hl]; rw [sizeLine_eq] at z1; omega) ?_
  rw [hl]
  exact ⟨.int (xs.length : Nat), H, I.tok _, ⟨_, rfl⟩, q⟩
end
/-! ### made of a list of pairs -/
theorem atKey_none {xs : List (NestedKey × Addr × Value)} {k : NestedKey} (h : k ∉ xs.map (·.1)) : atKey xs k = none := by
  unfold atKey
  rw [Option.map_eq_none_iff, List.find?_eq_none]
  intro x hx
  simp only [decide_eq_true_eq]
  intro e
  exact h (List.mem_map.mpr ⟨x, hx, e⟩)
theorem storedAll_nodup : ∀ (ps acc : List (NestedKey × Addr × Value)), ((acc ++ ps).map (·.1)).Nodup → storedAllH acc ps = acc ++ ps
  | [], acc, _ => by rw [List.append_nil]; rfl
  | p :: ps, acc, nd => by
    have no : p.1 ∉ acc.map (·.1) := fun h => by
      rw [List.map_append, List.map_cons, List.nodup_append] at nd
      exact nd.2.2 _ h _ List.mem_cons_self rfl
    show storedAllH (storedH acc p.1 p.2.1 p.2.2) ps = _
    rw [storedH_new (atKey_none no), storedAll_nodup ps _ (by rw [List.append_assoc]; exact nd), List.append_assoc]
    rfl
section
variable {X : Cx} {pins : List (Addr × Obj)} {σ : L2.St} {H : Hp} {s : Shared}
theorem tupled_of (I : Inv X pins σ H s) : ∀ {ps : List Addr} {xs : NXs}, Paired (fun (p : Addr) (x : NestedKey × Addr × V) => SqT X.K H p [.ref x.2.1, x.2.2]) ps xs → ∃ us, Vals (xs.map (·.2.2)) us ∧ ∀ (j : Nat) (x : NestedKey × Addr × V) (u : Value), xs[j]? = some x → us[j]? = some u → ∃ p, ps[j]? = some p ∧ s.heap.IsTuple p #[.ref x.2.1, u]
  | _, _, .nil => ⟨[], .nil, fun j x u h _ => by simp at h⟩
  | _, _, .cons h t => by
    obtain ⟨us, r, k⟩ := tupled_of I t
    obtain ⟨its, rv, pt, _⟩ := I.tuple h
    cases rv with
    | cons r1 rr =>
      cases rr with
      | cons r2 rr =>
        cases rr
        cases r1
        rename_i u
        refine ⟨u :: us, .cons r2 r, fun j x u' h1 h2 => ?_⟩
        cases j with
        | zero => cases h1; cases h2; exact ⟨_, rfl, pt⟩
        | succ j => exact k j x u' (by simpa using h1) (by simpa using h2)
def rNDictP (K : PySem.W.Frag) (P : Program) (w : World) : List V → Hp → VK → Prop := fun vs H Q => ∃ (a : Addr) (ps : List Addr) (xs : NXs), vs = [.ref a] ∧ SqL K H a (ps.map V.ref) ∧ Paired (fun (p : Addr) (x : NestedKey × Addr × V) => SqT K H p [.ref x.2.1, x.2.2]) ps xs ∧ NKeys H xs ∧ (xs.map (·.1)).Nodup ∧
  ∀ p, H p = none → Q (.ref p) (upd H p (NdO P w p xs))
theorem call_dictN (hc : X.calm = true) (hu : X.A.units + 64 < cLine) : CallR X (.type "dict") (rNDictP X.K X.prog X.w) := by
  intro pins s σ H vs us Q I r q
  obtain ⟨a, ps, xs, ex, hq, hp, hk, nd, q⟩ := q
  subst ex
  obtain ⟨u, eu, rx⟩ := vals1 r
  subst eu
  cases rx
  obtain ⟨its, rv, pl, hz⟩ := I.list hq
  have ei := refs_at rv
  subst ei
  rw [List.length_map] at hz
  obtain ⟨us, ru, ht⟩ := tupled_of I hp
  have lu : us.length = xs.length := by have := ru.length; simpa using this.symm
  have lp : ps.length = xs.length := hp.length
  obtain ⟨o, n, ho, hcl, hd, hdat⟩ := pl
  refine (fun (Ts : Nat → Addr) (hTs : Ts = fun j => ps.getD j 0) => ?_) _ rfl
  refine (fun (prs : List (Value × Value)) (hprs : prs = List.zipWith (fun (x : NestedKey × Addr × V) u => (Value.ref x.2.1, u)) xs us) => ?_) _ rfl
  have lpr : prs.length = xs.length := by rw [hprs]; simp [lu]
  have items : PairItems s.heap (ps.map Value.ref).toArray Ts prs := by
    refine ⟨by simp [lp, lpr], fun j k v e => ?_⟩
    rw [hprs, List.getElem?_zipWith] at e
    cases hx : xs[j]? with
    | none => rw [hx] at e; cases e
    | some x =>
      cases hy : us[j]? with
      | none => rw [hx, hy] at e; cases e
      | some u' =>
        rw [hx, hy] at e
        cases e
        obtain ⟨p, e1, e2⟩ := ht j _ _ hx hy
        have et : Ts j = p := by rw [hTs]; show ps.getD j 0 = p; rw [List.getD_eq_getElem?_getD, e1]; rfl
        rw [et]
        exact ⟨by simp [e1], .inl e2⟩
  refine call_dict_pairsH (knd := nestedKind X.prog X.w) (ps := withU xs us) (PairArg.list (prog := X.prog) (w := X.w) a (ps.map Value.ref).toArray Ts prs) (I.ok.hd hc) ?_ ⟨⟨o, n, ho, hcl, hd, hdat⟩, items⟩ ⟨?_, fun i key v e => ?_⟩ (fun h2 kp y hy => ?_) (by rw [lpr, ← lp]; exact hz) fun h2 tk D kp => ?_
  · show X.A.units + 1 + 1 + 8 < cLine
    omega
  · rw [lpr]; simp [withU, lu]
  · have e' : prs[i]? = some (key, v) := e
    rw [hprs, List.getElem?_zipWith] at e'
    cases hx : xs[i]? with
    | none => rw [hx] at e'; cases e'
    | some x =>
      cases hy : us[i]? with
      | none => rw [hx, hy] at e'; cases e'
      | some u' =>
        rw [hx, hy] at e'
        cases e'
        refine ⟨x.1, x.2.1, ?_, rfl⟩
        unfold withU
        rw [List.getElem?_zipWith, hx, hy]
  · obtain ⟨x, hx, e1, e2⟩ := withU_mem hy
    rw [← e1, ← e2]
    exact nestedKind_stays.stays (fun b ob _ _ e _ => kp b ob (Nat.ne_of_lt (Heap.lt_size e)) (fun z => nomatch z) e) (⟨(hk x hx).1.is I (u := .ref x.2.1) rfl, (hk x hx).2⟩ : (nestedKind X.prog X.w).is s.heap x.1 x.2.1)
  · have lz : xs.length = us.length := lu.symm
    rw [storedAll_nodup _ _ (by rw [List.nil_append, withU_keys lz]; exact nd), List.nil_append] at D
    obtain ⟨od, es, ep, w1, w2, w3, w4, _, _⟩ := D
    have hm : (s.heap.objs.size == sysModules) = false := beq_eq_false_iff_ne.mpr (Nat.ne_of_gt I.big)
    have k2 : ∀ b o, s.heap.get? b = some o → h2.get? b = some o := fun b o e => kp b o (fun z => nomatch z) e
    exact ⟨.ref s.heap.objs.size, upd H s.heap.objs.size (NdO X.prog X.w s.heap.objs.size xs), I.laid (t' := tk) k2 (Nat.le_refl _) (ndo_ok (by omega) hm nd ru w1 w2 w3 w4), rfl, q _ (I.hok.fresh (Nat.le_refl _))⟩
end
end DL
set_option maxRecDepth 100000
set_option maxHeartbeats 3200000
/-! D layer, part U: sorted(a list of tuples of ints), of any length; sorted(ints); list.index of deep data. -/
namespace DL
open PySem PySem.Spec PyProof.Rows L2 SlX
section
variable {P : Program} {w : World} {A : Around} {E1 : Value → Shared → Prop} {s : Shared}
/-- tuples of d ints below B, ranked by r -/
def Rk (h : Heap) (d : Nat) (B : Int) (r : Value → Int) (vs : List Value) : Prop := ∀ v ∈ vs, ∃ ns, TS.TupInts h v ns ∧ ns.length = d ∧ TS.Bd B ns ∧ r v = TS.code B ns
theorem Rk.tups {h : Heap} {d : Nat} {B : Int} {r : Value → Int} {vs : List Value} (x : Rk h d B r vs) : TS.TupsOk h d B vs := fun v hv => let ⟨ns, t, l, b, _⟩ := x v hv; ⟨ns, t, l, b⟩
theorem Rk.keeps {h h2 : Heap} {d : Nat} {B : Int} {r : Value → Int} {vs : List Value} (x : Rk h d B r vs) (k : ∀ b o, h.get? b = some o → o.cls = .type "tuple" → h2.get? b = some o) : Rk h2 d B r vs := fun v hv => let ⟨ns, t, q⟩ := x v hv; ⟨ns, t.keeps k, q⟩
theorem rk_swo (r : Value → Int) : SrtO.Swo fun v u => decide (r v < r u) := by
  refine ⟨fun x y h => ?_, fun x y z h1 h2 => ?_⟩
  · simp only [decide_eq_true_eq, decide_eq_false_iff_not] at *; omega
  · simp only [decide_eq_true_eq, decide_eq_false_iff_not] at *; omega
theorem rk_cmp {vs : List Value} {d : Nat} {B : Int} {r : Value → Int} (x : Rk s.heap d B r vs) : SrtO.Cmp P w A s (tuples' true) (fun p => p.1 ∈ vs) (SrtO.lt2 fun v u => decide (r v < r u)) := by
  intro p q hm hm'
  show wpAny (model P w) A (keyLt' (tuples' true) p.1 q.1) (fun c s' => s' = s ∧ c = decide (r p.1 < r q.1)) (fun _ _ => False) s
  obtain ⟨ns, tp, lp, bp, ep⟩ := x _ hm
  obtain ⟨ms, tq, lq, bq, eq⟩ := x _ hm'
  rw [ep, eq]
  obtain ⟨a, xs, e1, ⟨o, ho, hc, n, hd⟩, i⟩ := tp
  obtain ⟨a', ys, e2, ⟨o', ho', hc', n', hd'⟩, i'⟩ := tq
  rw [e1, e2]
  refine PySem.W.kat_lt ho hd ho' hd' ?_
  have l1 := i.length
  have l2 := i'.length
  rw [Array.length_toList] at l1 l2
  rw [show decide (xs.size < ys.size) = false from decide_eq_false (by omega)]
  exact TS.lex_ints 0 i i' (by omega) bp bq ⟨rfl, rfl⟩
theorem rk_sortable {a : Addr} {vs : List Value} {d : Nat} {B : Int} {r : Value → Int} (hd : 1 ≤ d) (h0 : 0 < vs.length) (x : Rk s.heap d B r vs) (ha : ∀ o, s.heap.get? a = some o → o.cls ≠ .type "tuple") : SrtO.SortableO P w A s a vs fun v u => decide (r v < r u) := by
  intro h2 kp
  have x2 : Rk h2 d B r vs := x.keeps fun b o e c => kp b o (fun z => by subst z; exact ha o e c) e
  obtain ⟨fs, k, hl, hi⟩ := TS.firsts_of hd vs x2.tups
  refine ⟨tuples' true, fun Q E hq => PySem.W.kat_kind (T := .type "int") k (by omega) (fun f hm => ?_) (by rfl) ?_, rk_cmp (s := { s with heap := h2 }) x2⟩
  · obtain ⟨y, t, rfl⟩ := hi f hm
    exact PySem.W.Looks.now
  · rw [show (Value.type "int" != Value.type "tuple") = true from by first | decide +kernel | rfl | decide]
    exact hq
theorem rk_sorted {l : Addr} {vs : List Value} {d : Nat} {B : Int} {r : Value → Int} {Q : Value → Shared → Prop} (hl : s.heap.IsList l vs.toArray) (hz : vs.length ≤ sizeLine) (hd : 1 ≤ d ∨ vs.length ≤ 1) (x : Rk s.heap d B r vs)
    (k : ∀ (h2 : Heap) (b : Addr) (out : List Value), SrtO.Srtd (fun v u => decide (r v < r u)) out → out.Perm vs → (∀ b o, s.heap.get? b = some o → h2.get? b = some o) → s.heap.objs.size ≤ b → (∃ n, h2.get? b = some (seqObj "list" out.toArray n)) → Q (.ref b) { s with heap := h2 }) :
    wpAny (model P w) A (call (.builtin "sorted") [.ref l]) Q E1 s := by
  refine SrtO.sorted_ord (rk_swo r) hl hz (fun h2 h₁ a ha kk => ?_) fun out hs hb => ?_
  · refine rk_sortable (s := { s with heap := h₁ }) (by omega) (by omega) (x.keeps fun b o e _ => (kk b o e).2) fun o e => ?_
    have e' : some o = some (seqObj "list" vs.toArray 0) := e.symm.trans ha
    cases e'
    intro c
    exact absurd (Value.type.inj c) (by decide)
  · exact k _ _ out hs hb.perm (fun b o e => sortedAll_old e) (Nat.le_succ _) (sortedAll_at s.heap vs out.toArray)
end
/-- sorted(xs), xs tuples of d ints from 0 to below B -/
def rSortedT (K : PySem.W.Frag) : List V → Hp → VK → Prop := fun vs H Q => ∃ (a : Addr) (xs : List V) (kk : V → List Int) (d : Nat) (B : Int), vs = [V.ref a] ∧ SqL K H a xs ∧ (1 ≤ d ∨ xs.length ≤ 1) ∧ (∀ x ∈ xs, (∃ t, x = V.ref t ∧ H t = some (.tup ((kk x).map V.int))) ∧ (kk x).length = d ∧ TS.Bd B (kk x)) ∧
  ∀ ys p, ys.Perm xs → ys.Pairwise (fun x y => TS.code B (kk x) ≤ TS.code B (kk y)) → H p = none → Q (.ref p) (upd H p (.lst ys))
section
variable {X : Cx}
theorem cr_sortedT : CallR X (.builtin "sorted") (rSortedT X.K) := by
  intro pins s σ H vs us Q I r h
  obtain ⟨a, xs, kk, d, B, rfl, hs, hd, hx, q⟩ := h
  obtain ⟨its, rv, hl, hz⟩ := I.list hs
  obtain ⟨u, rfl, ru⟩ := vals1 r
  obtain rfl : u = Value.ref a := ru
  obtain ⟨e1, e2⟩ := refs_back rv fun x m => by
    obtain ⟨⟨t, e, _⟩, _⟩ := hx x m
    exact ⟨t, e⟩
  have le := rv.length
  refine rk_sorted (r := fun u => TS.code B (kk (backV u))) (d := d) (B := B) hl.isList (by omega) (by omega) (fun v hv => ?_) fun h2 b out h1 hp kp hb hn => ?_
  · obtain ⟨t, rfl⟩ := e2 v hv
    have hm : V.ref t ∈ xs := by rw [e1]; exact List.mem_map.mpr ⟨_, hv, rfl⟩
    obtain ⟨⟨t', e, ht⟩, hl', hb'⟩ := hx _ hm
    cases e
    exact ⟨kk (.ref t), tupI_raw I (SqT.of (K := X.K) ht), hl', hb', rfl⟩
  · have h3 : ∀ u ∈ out, ∃ a, u = Value.ref a := fun u hu => e2 u (hp.mem_iff.mp hu)
    obtain ⟨n, hn⟩ := hn
    have hpm : (out.map backV).Perm xs := by rw [e1]; exact hp.map _
    refine ⟨.ref b, upd H b (.lst (out.map backV)), I.laid (t' := s.toks) kp hb ⟨?_, out, n, vals_back h3, hn⟩, rfl, q _ b hpm ?_ (I.hok.fresh hb)⟩
    · rw [hpm.length_eq]; exact hz
    · rw [List.pairwise_map]
      refine List.Pairwise.imp (fun {x y} h => ?_) h1
      have h : decide (TS.code B (kk (backV y)) < TS.code B (kk (backV x))) = false := h
      simp only [decide_eq_false_iff_not] at h
      omega
end
end DL
set_option maxRecDepth 100000
set_option maxHeartbeats 3200000
/-! D layer, part R: the further rules by data. -/
namespace DL
open PySem PySem.Spec PyProof.Rows L2 SlX
/-! ### dicts with nested keys -/
mutual
def nkD : Dat → Option NestedKey
  | .v (.int i) => some (.num i)
  | .v (.str s) => some (.text s)
  | .tup ds => (nkDs ds).map .tup
  | _ => none
def nkDs : List Dat → Option (List NestedKey)
  | [] => some []
  | d :: ds => match nkD d, nkDs ds with
    | some k, some ks => some (k :: ks)
    | _, _ => none
end
section
variable {cl : Nat → Addr} {G : Hp}
mutual
theorem nkD_den : ∀ {d : Dat} {k : NestedKey} {x : V}, nkD d = some k → Den cl G d x → NK G k x
  | .v y, k, x, h, n => by
    have e := den_v.mp n
    subst e
    cases x <;> first | (unfold nkD at h; cases h; constructor) | (unfold nkD at h; cases h)
  | .tup ds, k, x, h, n => by
    unfold nkD at h
    obtain ⟨p, xs, rfl, hp, l⟩ := den_tup.mp n
    cases q : nkDs ds with
    | none => rw [q] at h; cases h
    | some ks => rw [q] at h; cases h; exact .tup hp (nkDs_den q l)
  | .lst _, _, _, h, _ => by unfold nkD at h; cases h
  | .dic _ _, _, _, h, _ => by unfold nkD at h; cases h
  | .obj _ _, _, _, h, _ => by unfold nkD at h; cases h
  | .unset, _, _, h, _ => by unfold nkD at h; cases h
  | .ext _, _, _, h, _ => by unfold nkD at h; cases h
theorem nkDs_den : ∀ {ds : List Dat} {ks : List NestedKey} {xs : List V}, nkDs ds = some ks → DenL cl G ds xs → NKs G ks xs
  | [], _, _, h, l => by
    rw [denL_nil.mp l]
    unfold nkDs at h
    cases h
    exact .nil
  | d :: ds, _, _, h, l => by
    obtain ⟨y, ys, rfl, n, l⟩ := denL_cons.mp l
    unfold nkDs at h
    cases q : nkD d with
    | none => rw [q] at h; cases h
    | some k =>
      rw [q] at h
      cases q2 : nkDs ds with
      | none => rw [q2] at h; cases h
      | some ks => rw [q2] at h; cases h; exact .cons (nkD_den q n) (nkDs_den q2 l)
end
end
/-- a dict with nested keys, frozen -/
def ndic (P : Program) (w : World) (cl : Nat → Addr) (ks : List NestedKey) (ds : List Dat) : Dat := .ext fun G0 a o => ∃ xs : NXs, o = NdO P w a xs ∧ NKeys G0 xs ∧ xs.map (·.1) = ks ∧ DenL cl G0 ds (xs.map (·.2.2))
def ngetD : List NestedKey → List Dat → NestedKey → Option Dat
  | k :: ks, d :: ds, q => if k = q then some d else ngetD ks ds q
  | _, _, _ => none
theorem nget_at {cl : Nat → Addr} {G : Hp} : ∀ {xs : NXs} {ds : List Dat} {q : NestedKey} {d : Dat}, DenL cl G ds (xs.map (·.2.2)) → ngetD (xs.map (·.1)) ds q = some d → ∃ v, valN xs q = some v ∧ Den cl G d v
  | [], ds, q, d, l, h => by unfold ngetD at h; simp at h
  | x :: xs, [], q, d, l, h => by have := l.length; simp at this
  | x :: xs, e :: ds, q, d, l, h => by
    obtain ⟨y, ys, e1, n, l2⟩ := denL_cons.mp l
    cases e1
    unfold valN
    change (if x.1 = q then some e else ngetD (xs.map (·.1)) ds q) = some d at h
    by_cases c : x.1 = q
    · rw [if_pos c] at h ⊢
      cases h
      exact ⟨_, rfl, n⟩
    · rw [if_neg c] at h ⊢
      exact nget_at l2 h
section
variable {cl : Nat → Addr} {X : Cx} {P : Program} {w : World}
def oNGet (P : Program) (w : World) (cl : Nat → Addr) : DO2 := fun a b M Φ => ∃ ks ds k kk d, a = ndic P w cl ks ds ∧ nkD b = some k ∧ k = .tup kk ∧ k.depth ≤ 8 ∧ ngetD ks ds k = some d ∧ Φ d M
theorem od_nget : OpD cl (rNGet P w) (oNGet P w cl) := fun G H ρ M σ d1 d2 x y Φ Q st n1 n2 ⟨ks, ds, k, kk, d, e, h1, h2, h3, h4, h⟩ kont => by
  subst e
  obtain ⟨a, o, G0, rfl, ex, ha, xs, ho, hk, hm, l⟩ := den_ext.mp n1
  subst ho hm
  have nk := nkD_den h1 n2
  subst h2
  obtain ⟨v, hv, n⟩ := nget_at l h4
  have hb : ∃ b, y = .ref b := by cases nk; exact ⟨_, rfl⟩
  obtain ⟨b, rfl⟩ := hb
  exact ⟨a, b, xs, _, v, rfl, rfl, st.rd ha, (hk.mono ex).mono st.ex, nk.mono st.ex, h3, hv, kont.val st (n.mono ex) h⟩
theorem de_ixN {a b : Expr} {Wa Wb : WE} {pos : Pos} (hu : X.A.units + 64 < cLine) (ha : DE cl X a Wa) (hb : DE cl X b Wb) (hs : PlainIx b := by exact fun _ _ => rfl) : DE cl X (.Subscript a b pos) (wOp (oNGet X.prog X.w cl) Wa Wb) :=
  PE.imp (pe_ix (ix_nd hu) ha hb hs) (lift_op od_nget)
def oLenN (P : Program) (w : World) (cl : Nat → Addr) : DOs := fun ds M Φ => ∃ ks es, ds = [ndic P w cl ks es] ∧ Φ (.v (.int ks.length)) M
theorem cd_lenN : CalD cl (rNLen P w) (oLenN P w cl) := fun G H ρ M σ ds vs Φ Q st n ⟨ks, es, e, h⟩ k => by
  subst e
  obtain ⟨x, ex, n1⟩ := denL_1 n
  subst ex
  obtain ⟨a, o, G0, rfl, ex, ha, xs, ho, hk, hm, l⟩ := den_ext.mp n1
  subst ho hm
  refine ⟨a, xs, rfl, st.rd ha, (hk.mono ex).mono st.ex, k.v st ?_⟩
  rw [List.length_map] at h
  exact h
/-- dict(list of pairs with nested keys) -/
def oDictN (P : Program) (w : World) (cl : Nat → Addr) : DOs := fun ds M Φ => ∃ d kds ks es, ds = [d] ∧ lstV M d = some (pairD kds es) ∧ kds.length = es.length ∧ nkDs kds = some ks ∧ (∀ k ∈ ks, (∃ kk, k = .tup kk) ∧ k.depth ≤ 8) ∧ ks.Nodup ∧ Φ (ndic P w cl ks es) M
theorem npairs_back {K : PySem.W.Frag} {G H : Hp} {ρ : Env} {M : Mem} {σ : L2.St} (st : StOk cl G H ρ M σ) : ∀ (kds es : List Dat) (ks : List NestedKey) (ys : List V), DenL cl G (pairD kds es) ys → kds.length = es.length → nkDs kds = some ks → (∀ k ∈ ks, (∃ kk, k = .tup kk) ∧ k.depth ≤ 8) →
    ∃ (ps : List Addr) (xs : NXs), ys = ps.map V.ref ∧ Paired (fun (p : Addr) (x : NestedKey × Addr × V) => SqT K H p [.ref x.2.1, x.2.2]) ps xs ∧ NKeys G xs ∧ xs.map (·.1) = ks ∧ DenL cl G es (xs.map (·.2.2))
  | [], [], ks, ys, l, _, h, _ => by
    unfold nkDs at h
    cases h
    exact ⟨[], [], denL_nil.mp l, .nil, (fun _ q => nomatch q), rfl, denL_nil.mpr rfl⟩
  | [], _ :: _, _, _, _, hl, _, _ => by simp at hl
  | _ :: _, [], _, _, _, hl, _, _ => by simp at hl
  | kd :: kds, e :: es, ks, ys, l, hl, h, hd => by
    have l' : DenL cl G (.tup [kd, e] :: pairD kds es) ys := l
    obtain ⟨y, yr, rfl, n, l2⟩ := denL_cons.mp l'
    obtain ⟨p, zs, rfl, hp, lz⟩ := den_tup.mp n
    obtain ⟨z1, z2, rfl, m1, m2⟩ := denL_2 lz
    unfold nkDs at h
    cases q1 : nkD kd with
    | none => rw [q1] at h; cases h
    | some k =>
      rw [q1] at h
      cases q2 : nkDs kds with
      | none => rw [q2] at h; cases h
      | some kr =>
        rw [q2] at h
        cases h
        obtain ⟨ps, xs, rfl, pr, nk, hk, ld⟩ := npairs_back st kds es kr yr l2 (by simpa using hl) q2 fun k hk => hd k (List.mem_cons_of_mem _ hk)
        have nk1 := nkD_den q1 m1
        obtain ⟨⟨kk, rfl⟩, hdp⟩ := hd k List.mem_cons_self
        have hb : ∃ b, z1 = .ref b := by cases nk1; exact ⟨_, rfl⟩
        obtain ⟨b, rfl⟩ := hb
        refine ⟨p :: ps, (_, b, z2) :: xs, rfl, .cons (SqT.of (st.rd hp)) pr, fun x hx => ?_, by rw [List.map_cons, hk], denL_cons.mpr ⟨_, _, rfl, m2, ld⟩⟩
        rcases List.mem_cons.mp hx with rfl | hx
        · exact ⟨nk1, hdp⟩
        · exact nk x hx
theorem cd_dictN {K : PySem.W.Frag} : CalD cl (rNDictP K P w) (oDictN P w cl) := fun G H ρ M σ ds vs Φ Q st n ⟨d, kds, ks, es, e, h1, hl, h2, hd, nd, h⟩ k => by
  subst e
  obtain ⟨x, ex, n1⟩ := denL_1 n
  subst ex
  obtain ⟨a, ys, rfl, hp, l⟩ := st.lstV n1 h1
  obtain ⟨ps, xs, e1, pr, nk, hk, ld⟩ := npairs_back (K := K) st kds es ks ys l hl h2 hd
  subst e1
  refine ⟨a, ps, xs, rfl, SqL.of hp, pr, nk.mono st.ex, by rw [hk]; exact nd, fun p hq => ?_⟩
  have eG : Exh G (upd G p (NdO P w p xs)) := Exh.new (st.gnone hq)
  exact k _ _ _ _ _ (st.newF_step hq) (st.newF hq) (den_ext.mpr ⟨p, _, _, rfl, Exh.refl _, upd_same, xs, rfl, nk.mono eG, hk, ld.mono eG⟩) h
/-! ### sorted, index -/
def rowsD (rs : List (List Int)) : List Dat := rs.map fun r => .tup (r.map fun i => .v (.int i))
def oSortedT : DOs := fun ds M Φ => ∃ (e : Dat) (rs : List (List Int)) (d : Nat) (B : Int), ds = [e] ∧ lstV M e = some (rowsD rs) ∧ (1 ≤ d ∨ rs.length ≤ 1) ∧ (∀ r ∈ rs, r.length = d ∧ TS.Bd B r) ∧
  ∀ rs', rs'.Perm rs → rs'.Pairwise (fun x y => TS.code B x ≤ TS.code B y) → newL (rowsD rs') M Φ
theorem rows_den {G : Hp} {rs : List (List Int)} {xs : List V} (l : DenL cl G (rowsD rs) xs) (kk : V → List Int) : (∀ (j : Nat) r x, rs[j]? = some r → xs[j]? = some x → ∃ t, x = .ref t ∧ G t = some (.tup (r.map V.int))) := fun j r x h1 h2 => by
  obtain ⟨y, hy, n⟩ := l.get (i := j) (d := .tup (r.map fun i => .v (.int i))) (by unfold rowsD; rw [List.getElem?_map, h1]; rfl)
  rw [h2] at hy
  cases hy
  obtain ⟨p, zs, rfl, hp, lz⟩ := den_tup.mp n
  have := DenL.of_map (f := V.int) lz
  subst this
  exact ⟨p, rfl, hp⟩
/-- the row of a tuple -/
noncomputable def rowOf (G : Hp) : V → List Int := fun x => open Classical in if h : ∃ r : List Int, ∃ t, x = .ref t ∧ G t = some (.tup (r.map V.int)) then h.choose else []
theorem mapInt_inj : ∀ {a b : List Int}, a.map V.int = b.map V.int → a = b
  | [], [], _ => rfl
  | [], _ :: _, h => by simp at h
  | _ :: _, [], h => by simp at h
  | x :: a, y :: b, h => by
    simp only [List.map_cons, List.cons.injEq, V.int.injEq] at h
    rw [h.1, mapInt_inj h.2]
theorem rowOf_eq {G : Hp} {t : Addr} {r : List Int} (h : G t = some (.tup (r.map V.int))) : rowOf G (.ref t) = r := by
  unfold rowOf
  have ex : ∃ r' : List Int, ∃ t', V.ref t = .ref t' ∧ G t' = some (.tup (r'.map V.int)) := ⟨r, t, rfl, h⟩
  rw [dif_pos ex]
  obtain ⟨t', e, h2⟩ := ex.choose_spec
  cases e
  rw [h] at h2
  have h3 := Option.some.inj h2
  injection h3 with h4
  exact (mapInt_inj h4).symm
theorem rows_of {G : Hp} : ∀ {rs : List (List Int)} {xs : List V}, DenL cl G (rowsD rs) xs → xs.map (rowOf G) = rs ∧ ∀ x ∈ xs, ∃ t, x = .ref t ∧ G t = some (.tup ((rowOf G x).map V.int))
  | [], xs, l => by rw [denL_nil.mp l]; exact ⟨rfl, fun x q => nomatch q⟩
  | r :: rs, xs, l => by
    obtain ⟨y, ys, rfl, n, l2⟩ := denL_cons.mp (show DenL cl G (.tup (r.map fun i => .v (.int i)) :: rowsD rs) xs from l)
    obtain ⟨p, zs, rfl, hp, lz⟩ := den_tup.mp n
    have := DenL.of_map (f := V.int) lz
    subst this
    obtain ⟨i1, i2⟩ := rows_of l2
    refine ⟨by rw [List.map_cons, rowOf_eq hp, i1], fun x hx => ?_⟩
    rcases List.mem_cons.mp hx with rfl | hx
    · exact ⟨p, rfl, by rw [rowOf_eq hp]; exact hp⟩
    · exact i2 x hx
theorem rows_to {G : Hp} : ∀ {ys : List V}, (∀ x ∈ ys, ∃ t, x = .ref t ∧ G t = some (.tup ((rowOf G x).map V.int))) → DenL cl G (rowsD (ys.map (rowOf G))) ys
  | [], _ => denL_nil.mpr rfl
  | y :: ys, h => by
    obtain ⟨t, rfl, ht⟩ := h y List.mem_cons_self
    refine denL_cons.mpr ⟨.ref t, ys, rfl, den_tup.mpr ⟨t, _, rfl, ht, ?_⟩, rows_to fun x hx => h x (List.mem_cons_of_mem _ hx)⟩
    have : ((rowOf G (.ref t)).map fun i => Dat.v (.int i)) = ((rowOf G (.ref t)).map V.int).map Dat.v := by rw [List.map_map]; rfl
    rw [this]
    exact DenL.vs _
theorem cd_sortedT {K : PySem.W.Frag} : CalD cl (DL.rSortedT K) oSortedT := fun G H ρ M σ ds vs Φ Q st n ⟨e, rs, d, B, e1, h1, hd, hr, h⟩ k => by
  subst e1
  obtain ⟨x, ex, n1⟩ := denL_1 n
  subst ex
  obtain ⟨a, xs, rfl, hp, l⟩ := st.lstV n1 h1
  obtain ⟨i1, i2⟩ := rows_of l
  have lx : xs.length = rs.length := by rw [← i1, List.length_map]
  refine ⟨a, xs, rowOf G, d, B, rfl, SqL.of hp, by omega, fun x hx => ?_, fun ys p pm so hq => ?_⟩
  · obtain ⟨t, rfl, ht⟩ := i2 x hx
    have hm : rowOf G (.ref t) ∈ rs := by rw [← i1]; exact List.mem_map_of_mem hx
    exact ⟨⟨t, rfl, st.rd ht⟩, hr _ hm⟩
  · have pm2 : (ys.map (rowOf G)).Perm rs := by rw [← i1]; exact pm.map _
    refine k.newL st (rows_to fun x hx => i2 x (pm.mem_iff.mp hx)) (h _ pm2 ?_) hq
    rw [List.pairwise_map]
    exact so
def oSortedI : DOs := fun ds M Φ => ∃ (e : Dat) (ns : List Int), ds = [e] ∧ lstV M e = some (ns.map fun i => .v (.int i)) ∧ ∀ ns' : List Int, ns'.Perm ns → ns'.Pairwise (· ≤ ·) → newL (ns'.map fun i => .v (.int i)) M Φ
theorem denL_ints {G : Hp} (ns : List Int) : DenL cl G (ns.map fun i => .v (.int i)) (ns.map V.int) := by
  have : (ns.map fun i => Dat.v (.int i)) = (ns.map V.int).map Dat.v := by rw [List.map_map]; rfl
  rw [this]
  exact DenL.vs _
theorem cd_sortedI {K : PySem.W.Frag} : CalD cl (rSortedI K) oSortedI := fun G H ρ M σ ds vs Φ Q st n ⟨e, ns, e1, h1, h⟩ k => by
  subst e1
  obtain ⟨x, ex, n1⟩ := denL_1 n
  subst ex
  obtain ⟨a, xs, rfl, hp, l⟩ := st.lstV n1 h1
  have := DenL.of_map (f := V.int) l
  subst this
  exact ⟨a, ns, rfl, SqL.of hp, fun ns' p pm so hq => k.newL st (denL_ints ns') (h ns' pm so) hq⟩
/-- xs.index(x) of data of any depth -/
def oIndexD : DOm := fun o ds M Φ => ∃ e d fs j z, ds = [e] ∧ pdM M o = some (.list fs) ∧ pdM M e = some d ∧ SeqAt.shaped (.list fs) = true ∧ SeqAt.shaped d = true ∧ fs[j]? = some z ∧ PyData.eqv z d = true ∧ (∀ (m : Nat) (z' : PyData), m < j → fs[m]? = some z' → PyData.eqv z' d = false) ∧ Φ (.v (.int (j : Nat))) M
theorem md_indexD {K : PySem.W.Frag} : MtD cl (rIndexD K) oIndexD := fun G H ρ M σ o ds x xs Φ Q st n l ⟨e, d, fs, j, z, e1, h1, h2, s1, s2, h3, h4, h5, h⟩ k => by
  subst e1
  obtain ⟨y, rfl, m⟩ := denL_1 l
  have dp := pdM_dp (K := K) st n h1
  have hx : ∃ a, x = .ref a := by cases dp; exact ⟨_, rfl⟩
  obtain ⟨a, rfl⟩ := hx
  exact ⟨a, y, d, fs, j, z, rfl, rfl, dp, pdM_dp st m h2, s1, s2, h3, h4, h5, k.v st h⟩
end
/-! ### get, displays, list(range), bit_length, ** -/
section
variable {cl : Nat → Addr} {X : Cx} {o e f : Expr} {Wo Wa Wb : WE} {apos cpos pos p p2 q : Pos}
def wGet2 (Wo Wa Wb : WE) : WE := fun ρ M Φ => Wo ρ M fun d M1 => (∃ ks es, dicV M1 d = some (ks, es)) ∧ Wa ρ M1 fun a M2 => Wb ρ M2 fun b M3 => ∃ ks es k, dicV M3 d = some (ks, es) ∧ keyD a = some k ∧ Φ ((dget ks es k).getD b) M3
theorem de_get2 (hu : X.A.units + 1 < cLine) (ho : DE cl X o Wo) (he : DE cl X e Wa) (hf : DE cl X f Wb) (m : M2 X o "get" apos e f cpos := by exact ⟨rfl, rfl, rfl, rfl⟩) : DE cl X (.Call (.Attribute o "get" apos) [e, f] [] cpos) (wGet2 Wo Wa Wb) :=
  PE.imp (pe_dget2 hu ho he hf m) fun σ H Q ⟨G, ρ, M, Φ, st, h, k⟩ => ⟨G, ρ, M, _, st, h, fun d x M1 G1 H1 s1 st1 dn1 h1 => by
    obtain ⟨⟨ks, es, hd⟩, h1⟩ := h1
    obtain ⟨a, ws, rfl, hp, _, _⟩ := st1.dicV dn1 hd
    refine ⟨a, rfl, .inl ⟨ws, .inl hp⟩, ⟨G1, ρ, M1, _, st1, h1, fun ad ax M2 G2 H2 s2 st2 dn2 h2 => ⟨G2, ρ, M2, _, st2, h2, fun bd bx M3 G3 H3 s3 st3 dn3 h3 => ?_⟩⟩⟩
    obtain ⟨ks, es, kk, hd, hk, h3⟩ := h3
    have dn1' := dn1.mono (s2.trans s3).ex
    obtain ⟨a', ws, ea, hp, hks, l⟩ := st3.dicV dn1' hd
    cases ea
    subst hks
    have ek := keyD_kV hk (dn2.mono s3.ex)
    subst ek
    have kont := k.pre ((s1.trans s2).trans s3)
    refine ⟨valV ws kk, DGet.k hp, ?_⟩
    obtain ⟨i1, i2⟩ := dget_at (k := kk) l
    cases q : dget (ws.map (·.1)) es kk with
    | none => rw [q] at h3; rw [i2 q]; exact kont.val st3 dn3 h3
    | some d' =>
      rw [q] at h3
      obtain ⟨v, hv, n⟩ := i1 d' q
      rw [hv]
      exact kont.val st3 n h3⟩
def wBits (Wo : WE) : WE := fun ρ M Φ => Wo ρ M fun d M1 => ∃ i, d = .v (.int i) ∧ Φ (.v (.int (Builtin.Int.intBits i : Nat))) M1
theorem de_bits (ho : DE cl X o Wo) (hbase : attributeBase o "bit_length" X.env (eval o X.env) = eval o X.env := by rfl) (hline : (apos.endLine == pos.line) = true := by rfl) : DE cl X (.Call (.Attribute o "bit_length" apos) [] [] pos) (wBits Wo) :=
  PE.imp (pe_bits ho hbase hline) fun σ H Q ⟨G, ρ, M, Φ, st, h, k⟩ => ⟨G, ρ, M, _, st, h, fun d x M1 G1 H1 s1 st1 dn1 h1 => by
    obtain ⟨i, e, h1⟩ := h1
    subst e
    exact ⟨i, den_v.mp dn1, (k.pre s1).v st1 h1⟩⟩
def wListRg (Wa : WE) : WE := fun ρ M Φ => Wa ρ M fun d M1 => ∃ n : Nat, d = .v (.int n) ∧ n ≤ 16777216 ∧ newL ((List.range n).map fun i => .v (.int (i : Nat))) M1 Φ
theorem rgV_nat (n : Nat) : rgV 0 (n : Int) = (List.range n).map fun i => V.int (i : Nat) := by
  unfold rgV
  rw [Int.sub_zero, Int.toNat_natCast]
  exact List.map_congr_left fun i _ => by rw [Int.zero_add]
theorem de_listRg (hm : X.mg "list" = none) (hm2 : X.mg "range" = none) (ha : DE cl X e Wa) (hc : X.calm = true := by rfl) (hg : Gl X "list" := by rfl) (hg2 : Gl X "range" := by rfl)
    (na : starEach [e] X.env = (false, eval e X.env) :: starEach [] X.env := by rfl) (na2 : starEach [.Call (.Name "range" p2) [e] [] q] X.env = (false, eval (.Call (.Name "range" p2) [e] [] q) X.env) :: starEach [] X.env := by rfl) :
    DE cl X (.Call (.Name "list" p) [.Call (.Name "range" p2) [e] [] q] [] pos) (wListRg Wa) := PE.imp (pe_listRg hc hg hm (prg_1 hg2 hm2 ha na) na2) fun σ H Q ⟨G, ρ, M, Φ, st, h, k⟩ =>
  ⟨G, ρ, M, _, st, h, fun d x M1 G1 H1 s1 st1 dn1 h1 => by
    obtain ⟨n, e, hz, h1⟩ := h1
    subst e
    refine ⟨n, den_v.mp dn1, RgOk.of_le (by decide) (by omega) (by decide) (by omega), fun l hl => ?_⟩
    rw [rgV_nat]
    refine (k.pre s1).newL st1 ?_ h1 hl
    have : ((List.range n).map fun i => Dat.v (.int (i : Nat))) = ((List.range n).map fun i => V.int (i : Nat)).map Dat.v := by rw [List.map_map]; rfl
    rw [this]
    exact DenL.vs _⟩
def CPowB (i j : Int) : Prop := 0 ≤ j ∧ (Builtin.Int.intBits i : Int) * j ≤ 2 ^ 27
theorem op_powB : OpR X (binaryOp .Pow) (rI CPowB fun i j => .int (i ^ j.toNat)) := opI fun _ _ _ _ _ _ _ hc q => pow_int hc.1 hc.2 q
/-! ### {k: v, ..} -/
def wPairs : List (Key × WE) → Env → Mem → (List Dat → Mem → Prop) → Prop
  | [], _, M, Φ => Φ [] M
  | (_, W) :: r, ρ, M, Φ => W ρ M fun d M1 => wPairs r ρ M1 fun ds M2 => Φ (d :: ds) M2
def wDisp (ps : List (Key × WE)) : WE := fun ρ M Φ => wPairs ps ρ M fun ds M1 => newD (ps.map (·.1)) ds M1 Φ
theorem pairs_run : ∀ (ps : List (Key × WE)) {G H : Hp} {ρ : Env} {M : Mem} {σ : L2.St} {Φ : List Dat → Mem → Prop} {R : List (V × V) → Hp → Prop}, StOk cl G H ρ M σ → wPairs ps ρ M Φ →
    (∀ ds xs M' G' H', Step G H M G' H' M' → StOk cl G' H' ρ M' σ → DenL cl G' ds xs → xs.length = ps.length → Φ ds M' → R ((ps.map fun p => kV p.1).zip xs) H') → tPairs (ps.map fun p => (tC (kV p.1), liftE cl p.2)) σ H R
  | [], G, H, ρ, M, σ, Φ, R, st, h, k => k [] [] M G H .refl st (denL_nil.mpr rfl) rfl h
  | (kk, W) :: ps, G, H, ρ, M, σ, Φ, R, st, h, k => by
    refine ⟨G, ρ, M, _, st, h, fun d x M1 G1 H1 s1 st1 dn1 h1 => ?_⟩
    exact pairs_run ps st1 h1 fun ds xs M' G' H' s2 st2 l2 hl h2 => k (d :: ds) (x :: xs) M' G' H' (s1.trans s2) st2 (denL_cons.mpr ⟨_, _, rfl, dn1.mono s2.ex, l2⟩) (by simp [hl]) h2
theorem de_disp {keys : List (Option Expr)} {values : List Expr} (ps : List (Key × WE)) (h : PPs X pos keys values (ps.map fun p => (tC (kV p.1), liftE cl p.2))) (nd : (ps.map (·.1)).Nodup) (hl : ps.length ≤ 15) (hall : keys.all (·.isSome) = true := by rfl) (he : keys.length = values.length := by rfl) (h0 : keys ≠ [] := by exact (fun z => nomatch z)) (h15 : keys.length ≤ 15 := by decide) :
    DE cl X (.Dict keys values pos) (wDisp ps) := PE.imp (pe_disp h hall he h0 h15) fun σ H Q ⟨G, ρ, M, Φ, st, h, k⟩ => fun p hp => by
  have g := st.gnone hp
  have m := st.mnone hp
  have so : Solid (.dK []) := MutO.solid rfl
  have st0 : StOk cl G (upd H p (.dK [])) ρ M σ := st.aside g m fun u hu => by rw [hp] at hu; cases hu
  have s0 : Step G H M G (upd H p (.dK [])) M := Step.refl.upd_new hp
  refine pairs_run ps st0 h fun ds xs M' G' H' s1 st1 l lx h1 => ?_
  have hp' : H' p = some (.dK []) := s1.keep p _ upd_same so m
  have g' : G' p = none := s1.g_none upd_same so g m
  have m' : M' p = none := s1.m_none upd_same m
  have lk : ((ps.map (·.1)).zip xs).map (·.1) = ps.map (·.1) := List.map_fst_zip (by simp [lx])
  refine ⟨hp', (ps.map (·.1)).zip xs, ?_, by rw [List.length_zip, List.length_map, lx]; omega, ?_⟩
  · have : ∀ (as : List Key) (bs : List V), (as.map kV).zip bs = (as.zip bs).map fun kv => (kV kv.1, kv.2) := fun as => by
      induction as with
      | nil => intro bs; rfl
      | cons a as ih =>
        intro bs
        cases bs with
        | nil => rfl
        | cons b bs => simp [ih bs]
    rw [← this, List.map_map]
    rfl
  · rw [merge_nodup (by rw [List.nil_append, lk]; exact nd), List.nil_append]
    have ls : ((ps.map (·.1)).zip xs).map (·.2) = xs := List.map_snd_zip (by simp [lx])
    have st2 : StOk cl G' (upd H' p (.dK ((ps.map (·.1)).zip xs))) ρ M' σ := st1.aside g' m' fun u hu => by rw [hp'] at hu; cases hu; exact so
    have s2 : Step G H M G' (upd H' p (.dK ((ps.map (·.1)).zip xs))) M' := by
      have z := s0.trans s1
      exact ⟨z.ex, fun b u hb sb mb => by
        have nb : b ≠ p := fun e => by rw [e, hp] at hb; cases hb
        rw [upd_ne nb]; exact z.keep b u hb sb mb, fun b hb => by
        by_cases q : b = p
        · rw [q, upd_same]; exact fun z => nomatch z
        · rw [upd_ne q]; exact z.dom b hb, z.fresh, z.gnew⟩
    rcases h1 with h1 | h1
    · exact k _ _ _ _ _ (s2.adoptF g' hp) (st2.adoptF g' m' upd_same (MutO.solid rfl)) (den_dic.mpr ⟨p, _, rfl, upd_same, lk, by rw [ls]; exact l.mono (Exh.new g')⟩) h1
    · exact k _ _ _ _ _ (s2.adoptM hp) (st2.adoptM (c := .dic (ps.map (·.1)) ds) g' ⟨_, upd_same, lk, by rw [ls]; exact l⟩) (den_v.mpr rfl) (h1 p m')
/-- the empty one -/
def wNewD : WE := fun _ M Φ => newD [] [] M Φ
theorem de_newD : DE cl X (.Dict [] [] pos) wNewD := PE.imp pe_dnewK fun σ H Q ⟨G, ρ, M, Φ, st, h, k⟩ => fun p hp => k.newD (ws := []) st rfl (denL_nil.mpr rfl) h hp
end
/-! ### f(x = e) -/
section
variable {cl : Nat → Addr} {X : Cx} {x y : Str} {C : DOs} {k j : Nat} {e : Expr} {p pos kp : Pos} {We : WE}
/-- a def of one parameter y, called by its name -/
structure KBy (K : PySem.W.Frag) (fd : FuncData) (y : Str) : Prop where
  to : ∀ (s : Shared) (u : Value), BindsTo s fd ⟨[], [(y, u)]⟩ [(y, u)]
structure DCalK (P : Program) (w : World) (K : PySem.W.Frag) (mg : Str → Option Value) (base : Heap) (cl : Nat → Addr) (k : Nat) (x y : Str) (C : DOs) : Prop where
  ex : ∃ (f : Addr) (fd : FuncData), FnOk P w K mg base CX0 k f fd [y] (spD cl C) ∧ mg x = some (.ref f) ∧ PySem.W.keepIn K (.ref f) = true ∧ KBy K fd y
def wCallK (C : DOs) (We : WE) : WE := fun ρ M Φ => We ρ M fun d M1 => C [d] M1 Φ
theorem de_callK {kw : Keyword} (c : DCalK X.prog X.w X.K X.mg X.base cl k x y C) (hr : Room j X.A) (he : DE cl X e We) (hk : k ≤ j := by decide) (hg : Gl X x := by rfl) (hdb : (x == ("__debug__" : Str)) = false := by decide)
    (hkw : backToKw pos (keywordEach [kw] X.env) = [(some y, eval e X.env)] := by rfl) (hpl : ((backTo pos (starEach [] X.env)).any (·.1) || (backToKw pos (keywordEach [kw] X.env)).any (·.1.isNone)) = false := by rfl) :
    DE cl X (.Call (.Name x p) [] [kw] pos) (wCallK C We) := by
  obtain ⟨f, fd, F, hm, hkp, hb⟩ := c.ex
  refine ⟨fun pins s σ H Q I ⟨G, ρ, M, Φ, st, h, kk⟩ => ?_⟩
  refine wpAny_Call_Name_kw (ld_glob I hg hm ?_ hdb)
  refine PySem.W.callWith_KW0 (h₀ := X.base) I.ok.mod.kin hkp (by rw [hkw]; rfl) ?_ hpl
  rw [hkw]
  show wpAny _ _ (evalAll [eval e X.env]) _ _ s
  have hev : ∀ {Q' : List Value → Shared → Prop}, wpAny (model X.prog X.w) X.A (eval e X.env) (fun u s1 => Q' [u] s1) X.xe s → wpAny (model X.prog X.w) X.A (evalAll [eval e X.env]) Q' X.xe s := fun {Q'} q => by
    show wpAny _ _ (do let v ← eval e X.env; let r ← holding [v] (evalAll []); return v :: r) _ _ _
    refine wpAny_bind (wpAny_mono q (fun u s1 h1 => wpAny_bind (wpAny_holding (wpAny_pure (wpAny_pure h1)))) fun _ _ z => z)
  refine hev (thn (he.run pins s σ H _ I ⟨G, ρ, M, _, st, h, fun d xv M1 G1 H1 s1 st1 dn1 h1 => (⟨G1, M1, [d], Φ, st1.bare, .one dn1, h1, (kk.pre s1).call st1⟩ : spD cl C [xv] H1 Q E0)⟩) fun u s1 ⟨xv, H1, I1, rx, hsp⟩ => ⟨I1.kIn, ?_⟩)
  have hF := F.mono hk
  refine wpAny_call (codeAny_mono (hF.run X.A X.stack s1 H1 ⟨[], [(y, u)]⟩ [u] [xv] Q E0 hr I1.env0 (hb.to s1 u) (.cons rx .nil) hsp) fun r s' hq => ?_)
  cases r with
  | error e' => exact pass0 pins σ H1 s1 e' s' I1 hq
  | ok fl =>
    cases fl with
    | ret u => exact I1.after hq
    | next => exact False.elim hq
    | brk => exact False.elim hq
    | cont => exact False.elim hq
end
end DL
set_option maxRecDepth 100000
set_option maxHeartbeats 3200000
/-! D layer, part Q: turns of zip over two tuples. -/
namespace DL
open PySem PySem.Spec PyProof.Rows L2 SlX
/-- two tuples side by side, each pair new -/
def IteZ (K : PySem.W.Frag) (a b : Addr) : It :=
  ⟨fun i H => ∃ (xs ys : List V) (x y : V), SqT K H a xs ∧ SqT K H b ys ∧ xs[i]? = some x ∧ ys[i]? = some y,
   fun i H v H' => ∃ T x y, v = .ref T ∧ H T = none ∧ H' = upd H T (.tup [x, y]) ∧ (∀ xs, SqT K H a xs → xs[i]? = some x) ∧ ∀ ys, SqT K H b ys → ys[i]? = some y,
   fun i H => ∃ xs ys : List V, SqT K H a xs ∧ SqT K H b ys ∧ i ≤ xs.length ∧ i ≤ ys.length ∧ (i = xs.length ∨ i = ys.length)⟩
def ZTn (z TI TO i1 i2 a b : Addr) (i : Nat) (h : Heap) : Prop := IsZip h z TI TO .none ∧ IsTupOf2 h TI (.ref i1) (.ref i2) ∧ (∃ u v, IsTupOf2 h TO u v) ∧ h.IsTupleIter i1 a i ∧ h.IsTupleIter i2 b i
theorem turn_zipT {P : Program} {w : World} {K : PySem.W.Frag} {elts : List Expr} {kk : Nat} {tpos : Pos} {z TI TO i1 i2 a b : Addr} (Z : ZipSep2 z TI TO i1 i2 [i1, a] [i2, b]) (na : a ≠ i1) (nb : b ≠ i2) :
    Turn P w K (.Tuple elts kk tpos) (IteZ K a b) [z, TI, TO, i1, i2] z (ZTn z TI TO i1 i2 a b) where
  mem := by simp
  obj := fun i h st c hc => by
    obtain ⟨h1, h2, ⟨u, v, h3⟩, ⟨o4, h4, _, d4⟩, ⟨o5, h5, _, d5⟩⟩ := st
    simp only [List.mem_cons, List.not_mem_nil, or_false] at hc
    rcases hc with q | q | q | q | q <;> subst q
    · exact ⟨_, h1, fun v z => nomatch z⟩
    · exact ⟨_, h2, fun v z => nomatch z⟩
    · exact ⟨_, h3, fun v z => nomatch z⟩
    · exact ⟨o4, h4, fun v z => by rw [d4] at z; cases z⟩
    · exact ⟨o5, h5, fun v z => by rw [d5] at z; cases z⟩
  keep := fun i h h' st k => by
    obtain ⟨h1, h2, ⟨u, v, h3⟩, h4, h5⟩ := st
    exact ⟨k _ (by simp) _ h1, k _ (by simp) _ h2, ⟨u, v, k _ (by simp) _ h3⟩, h4.at fun o q => k _ (by simp) o q, h5.at fun o q => k _ (by simp) o q⟩
  item := by
    intro X hP hw hK hc i pins s σ H E I hf st hg
    subst hP hw hK
    obtain ⟨h1, h2, ⟨u, v, h3⟩, h4, h5⟩ := st
    obtain ⟨xs, ys, x, y, hq, hq2, hx, hy⟩ := hg
    obtain ⟨its, rv, p, hz⟩ := I.tuple hq
    obtain ⟨jts, rv2, p2, hz2⟩ := I.tuple hq2
    obtain ⟨u1, hu1, ru1⟩ := rv.get hx
    obtain ⟨u2, hu2, ru2⟩ := rv2.get hy
    have pt : s.heap.IsTuple a its.toArray := p
    have pt2 : s.heap.IsTuple b jts.toArray := p2
    have D1 := Draws.tuple (prog := X.prog) (w := X.w) (A := X.A.in1) (by simpa using I.ok.hd hc) i1 a na its.toArray
    have D2 := Draws.tuple (prog := X.prog) (w := X.w) (A := X.A.in1) (by simpa using I.ok.hd hc) i2 b nb jts.toArray
    have lt1 : i < its.toArray.size := by have := (List.getElem?_eq_some_iff.mp hu1).1; simpa using this
    have lt2 : i < jts.toArray.size := by have := (List.getElem?_eq_some_iff.mp hu2).1; simpa using this
    refine wpAny_pyNext_zipD2_item Z D1 D2 h1 h2 h3 ⟨h4, pt⟩ ⟨h5, pt2⟩ lt1 lt2 fun x1 x2 g tk p1 p2 g1 g3 s1 s2 gt sz kp => ?_
    have e1 : u1 = x1 := by simpa [hu1] using p1
    have e2 : u2 = x2 := by simpa [hu2] using p2
    subst e1 e2
    refine ⟨_, rfl, wpAny_letOwnedTupleGo_zip (s := { s with heap := g, toks := tk }) g1 fun g' hz' sb => ?_⟩
    have lts : ∀ c ∈ [z, TI, TO, i1, i2], c < s.heap.objs.size := fun c hc => by
      obtain ⟨_, q4, _⟩ := h4
      obtain ⟨_, q5, _⟩ := h5
      simp only [List.mem_cons, List.not_mem_nil, or_false] at hc
      rcases hc with q | q | q | q | q <;> subst q
      · exact Heap.lt_size h1
      · exact Heap.lt_size h2
      · exact Heap.lt_size h3
      · exact Heap.lt_size q4
      · exact Heap.lt_size q5
    have nz : s.heap.objs.size ≠ z := Nat.ne_of_gt (lts z (by simp))
    have hT2 : g'.get? s.heap.objs.size = some { cls := .type "tuple", data := .seq #[u1, u2] } := (sb.2 _ nz).trans gt
    have new : ObjOk X.prog X.w (upd H s.heap.objs.size (.tup [x, y])) g' s.heap.objs.size (.tup [x, y]) :=
      ⟨by show 2 ≤ sizeLine; decide, [u1, u2], .cons ru1 (.cons ru2 .nil), ⟨_, hT2, rfl, _, rfl⟩⟩
    have I1 : Inv X pins σ (upd H s.heap.objs.size (.tup [x, y])) { s with heap := g', toks := tk } :=
      I.turnedNew (ch := [z, TI, TO, i1, i2]) (fun c ob hc q => by
        simp only [List.mem_cons, List.not_mem_nil, or_false, not_or] at hc
        exact (sb.2 c hc.1).trans (kp c ob hc.1 hc.2.2.1 hc.2.2.2.1 hc.2.2.2.2 q)) hf (Nat.le_refl _) new
    have hI : g.get? TI = some { cls := .type "tuple", data := .seq #[.ref i1, .ref i2] } := kp TI _ Z.TIz Z.TITO Z.TIi1 Z.TIi2 h2
    refine ⟨.ref s.heap.objs.size, _, I1, rfl, ⟨_, x, y, rfl, I.hok.fresh (Nat.le_refl _), rfl, fun zs hzs => ?_, fun zs hzs => ?_⟩, ⟨hz', (sb.2 _ Z.TIz).trans hI, ⟨_, _, (sb.2 _ Z.TOz).trans g3⟩, s1.1.at fun o q => (sb.2 _ ?_).trans q, s2.1.at fun o q => (sb.2 _ ?_).trans q⟩, fun c hc => ?_⟩
    · rw [I.tuple_inj hzs hq]; exact hx
    · rw [I.tuple_inj hzs hq2]; exact hy
    · exact fun e => Z.zf1 (e ▸ Z.mem1)
    · exact fun e => Z.zf2 (e ▸ Z.mem2)
    · rw [upd_ne (Nat.ne_of_lt (lts c hc))]
      exact (hf c hc).1
  done := by
    intro X hP hw hK hc i pins s σ H E I hf st hg
    subst hP hw hK
    obtain ⟨h1, h2, ⟨u, v, h3⟩, h4, h5⟩ := st
    obtain ⟨xs, ys, hq, hq2, hx, hy, he⟩ := hg
    obtain ⟨its, rv, p, hz⟩ := I.tuple hq
    obtain ⟨jts, rv2, p2, hz2⟩ := I.tuple hq2
    have pt : s.heap.IsTuple a its.toArray := p
    have pt2 : s.heap.IsTuple b jts.toArray := p2
    have l1 := rv.length
    have l2 := rv2.length
    have D1 := Draws.tuple (prog := X.prog) (w := X.w) (A := X.A.in1) (by simpa using I.ok.hd hc) i1 a na its.toArray
    have D2 := Draws.tuple (prog := X.prog) (w := X.w) (A := X.A.in1) (by simpa using I.ok.hd hc) i2 b nb jts.toArray
    refine wpAny_pyNext_zipD2_end Z D1 D2 h1 h2 h3 ⟨h4, pt⟩ ⟨h5, pt2⟩ (by simp; omega) (by simp; omega) (by simp; omega) fun g tk kp => ⟨rfl, ?_⟩
    exact I.turnedL (ch := [z, TI, TO, i1, i2]) (fun c ob hc q => by
      simp only [List.mem_cons, List.not_mem_nil, or_false, not_or] at hc
      exact kp c ob hc.1 hc.2.2.1 hc.2.2.2.1 hc.2.2.2.2 q) hf
  self := fun A i s Q E st h => wpAny_pyIter_zip st.1 h
section
variable {cl : Nat → Addr} {X : Cx} {e1 e2 : Expr} {p pos tpos : Pos} {elts : List Expr} {kk : Nat} {ta : TA} {Wr : WA}
def iZipT (K : PySem.W.Frag) (ta : TA) : TI := fun σ H R => ta σ H fun vs H1 => ∃ a b xs ys, vs = [.ref a, .ref b] ∧ SqT K H1 a xs ∧ SqT K H1 b ys ∧ R (IteZ K a b) H1
theorem pi_zipT (hg : Gl X "zip") (hm : X.mg "zip" = none) (ha : PA X [e1, e2] ta) (hs : starEach [e1, e2] X.env = (false, eval e1 X.env) :: starEach [e2] X.env := by rfl) (hpl : (backTo pos (starEach [e2] X.env)).any (·.1) = false := by rfl) :
    PI X (.Tuple elts kk tpos) (.Call (.Name "zip" p) [e1, e2] [] pos) (iZipT X.K ta) := by
  refine ⟨fun pins s σ H R I h => Call_ (ld_blt I hg hm PyProof.Rows.boot_zip (PyProof.Rows.callWith_type1 (thn (ha.run pos pins s σ H _ I h) fun us s1 ⟨vs, H1, I1, r1, q1⟩ => ?_) hs hpl))⟩
  obtain ⟨a, b, xs, ys, ex, hq, hq2, q⟩ := q1
  subst ex
  cases r1 with
  | cons r rr =>
    cases rr with
    | cons r' rr =>
      cases rr
      cases r
      cases r'
      obtain ⟨its, rv, pt, hz⟩ := I1.tuple hq
      obtain ⟨jts, rv2, pt2, hz2⟩ := I1.tuple hq2
      have A1 := sqiT (P := X.prog) (w := X.w) (show s1.heap.IsTuple a its.toArray from pt)
      have A2 := sqiT (P := X.prog) (w := X.w) (show s1.heap.IsTuple b jts.toArray from pt2)
      have la : a < s1.heap.objs.size := A1.lt
      have lb : b < s1.heap.objs.size := A2.lt
      refine zip_begins2 (begins_tuple a its.toArray) (begins_tuple b jts.toArray) pt pt2 fun h2 g1 g2 g3 g4 g5 sz kp => wpAny_pyIter_zip g1 ?_
      have below : ∀ {c : Addr}, c < s1.heap.objs.size → ∀ b' ∈ [c], b' < s1.heap.objs.size := fun hc b' q => by rw [List.mem_singleton.mp q]; exact hc
      have Z := zip_sep2 (N := s1.heap.objs.size) (below la) (below lb)
      have I2 : Inv X pins σ H1 { s1 with heap := h2 } := I1.kept (t' := s1.toks) kp
      refine ⟨s1.heap.objs.size + 4, [s1.heap.objs.size + 4, s1.heap.objs.size + 2, s1.heap.objs.size + 3, s1.heap.objs.size, s1.heap.objs.size + 1], _, _, H1, rfl, I2, turn_zipT Z (Nat.ne_of_lt la) (Nat.ne_of_lt (Nat.lt_succ_of_lt lb)), ⟨g1, g2, ⟨_, _, g3⟩, ⟨_, g4, rfl, rfl⟩, ⟨_, g5, rfl, rfl⟩⟩, fun c hc => ?_, q⟩
      have hle : s1.heap.objs.size ≤ c := by
        simp only [List.mem_cons, List.not_mem_nil, or_false] at hc
        rcases hc with q | q | q | q | q <;> rw [q]
        · exact Nat.le_add_right _ _
        · exact Nat.le_add_right _ _
        · exact Nat.le_add_right _ _
        · exact Nat.le_refl _
        · exact Nat.le_add_right _ _
      exact I1.fpOk hle (I1.hok.fresh hle)
def wZipT (Wr : WA) : WI := fun ρ M Ψ => Wr ρ M fun ds M1 => ∃ as bs, ds = [.tup as, .tup bs] ∧ Ψ (pairD as bs) gdT M1
theorem id_zipT {K : PySem.W.Frag} : ID cl (iZipT K (liftA cl Wr)) (wZipT Wr) := fun G H ρ M σ Ψ R st h k => ⟨G, ρ, M, _, st, h, fun ds xs M1 G1 H1 s1 st1 dn h1 => by
  obtain ⟨as, bs, e, h4⟩ := h1
  subst e
  obtain ⟨x, y, rfl, n, n2⟩ := denL_2 dn
  obtain ⟨a, ys, e, hy, l⟩ := den_tup.mp n
  obtain ⟨b, zs, e', hz, l2⟩ := den_tup.mp n2
  subst e e'
  have ll := l.length
  have ll2 := l2.length
  have pl : (pairD as bs).length = min as.length bs.length := by simp [pairD]
  refine ⟨a, b, ys, zs, rfl, SqT.of (st1.rd hy), SqT.of (st1.rd hz), k _ _ _ _ _ _ s1 st1 ⟨fun i G H ρ M σ e st g hi => ?_, fun G H ρ M σ e st g => ?_, fun i G H ρ M σ x H' e st g hi y => ?_⟩ h4⟩
  · rw [pl] at hi
    exact ⟨ys, zs, ys[i]'(by omega), zs[i]'(by omega), SqT.of (st.rd (e _ _ hy)), SqT.of (st.rd (e _ _ hz)), List.getElem?_eq_getElem _, List.getElem?_eq_getElem _⟩
  · refine ⟨ys, zs, SqT.of (st.rd (e _ _ hy)), SqT.of (st.rd (e _ _ hz)), ?_, ?_, ?_⟩ <;> rw [pl] <;> omega
  · obtain ⟨T, x1, x2, rfl, hT, rfl, h3, h3'⟩ := y
    obtain ⟨d, hd, n⟩ := l.back (h3 ys (SqT.of (st.rd (e _ _ hy))))
    obtain ⟨d2, hd2, n2⟩ := l2.back (h3' zs (SqT.of (st.rd (e _ _ hz))))
    refine ⟨.tup [d, d2], _, by unfold pairD; rw [List.getElem?_zipWith, hd, hd2], st.newF_step hT, st.newF (o := .tup [x1, x2]) hT, den_tup.mpr ⟨T, _, rfl, upd_same, ?_⟩⟩
    exact denL_cons.mpr ⟨_, _, rfl, (n.mono e).mono (Exh.new (st.gnone hT)), .one ((n2.mono e).mono (Exh.new (st.gnone hT)))⟩⟩
theorem di_zipT (hm : X.mg "zip" = none) (ha : DA cl X [e1, e2] Wr) (hg : Gl X "zip" := by rfl) (hs : starEach [e1, e2] X.env = (false, eval e1 X.env) :: starEach [e2] X.env := by rfl) (hpl : (backTo pos (starEach [e2] X.env)).any (·.1) = false := by rfl) :
    DI cl X (.Tuple elts kk tpos) (.Call (.Name "zip" p) [e1, e2] [] pos) (wZipT Wr) := ⟨_, pi_zipT hg hm ha hs hpl, id_zipT⟩
end
end DL
set_option maxRecDepth 100000
set_option maxHeartbeats 2000000
/-! D layer, part T: steps at the later rules. -/
namespace DL
open PySem PySem.Spec PyProof.Rows L2 SlX
section
variable {cl : Nat → Addr} {ρ : Env} {M : Mem} {Φ : Dat → Mem → Prop} {d e : Dat} {Wa Wb Wo We : WE} {Wr : WA} {Υ : List Dat → (Mem → Prop) → Mem → Prop}
theorem i_lzip (h : Wr ρ M fun ds M1 => ∃ a b as bs, ds = [a, b] ∧ seqV M1 a = some as ∧ seqV M1 b = some bs ∧ as.length = bs.length ∧ as.length ≤ sizeLine ∧ Φ (.lst (pairD as bs)) M1) : wListZip Wr ρ M Φ := h
theorem i_lits (h : We ρ M fun d M1 => ∃ ks es, dicV M1 d = some (ks, es) ∧ Φ (.lst (pairD (ks.map kD) es)) M1) : wListItems We ρ M Φ := h
theorem i_get2 (h : Wo ρ M fun d M1 => (∃ ks es, dicV M1 d = some (ks, es)) ∧ Wa ρ M1 fun a M2 => Wb ρ M2 fun b M3 => ∃ ks es k, dicV M3 d = some (ks, es) ∧ keyD a = some k ∧ Φ ((dget ks es k).getD b) M3) : wGet2 Wo Wa Wb ρ M Φ := h
theorem i_bits (h : Wo ρ M fun d M1 => ∃ i, d = .v (.int i) ∧ Φ (.v (.int (Builtin.Int.intBits i : Nat))) M1) : wBits Wo ρ M Φ := h
theorem i_lrg (h : Wa ρ M fun d M1 => ∃ n : Nat, d = .v (.int n) ∧ n ≤ 16777216 ∧ newL ((List.range n).map fun i => .v (.int (i : Nat))) M1 Φ) : wListRg Wa ρ M Φ := h
theorem i_disp {ps : List (Key × WE)} (h : wPairs ps ρ M fun ds M1 => newD (ps.map (·.1)) ds M1 Φ) : wDisp ps ρ M Φ := h
theorem i_pnil {Ψ : List Dat → Mem → Prop} (h : Ψ [] M) : wPairs [] ρ M Ψ := h
theorem i_pcons {k : Key} {W : WE} {ps : List (Key × WE)} {Ψ : List Dat → Mem → Prop} (h : W ρ M fun d M1 => wPairs ps ρ M1 fun ds M2 => Ψ (d :: ds) M2) : wPairs ((k, W) :: ps) ρ M Ψ := h
theorem i_ndw (h : newD [] [] M Φ) : wNewD ρ M Φ := h
theorem i_calk {C : DOs} (h : We ρ M fun d M1 => C [d] M1 Φ) : wCallK C We ρ M Φ := h
theorem i_enumT (h : Wr ρ M fun ds M1 => ∃ es, ds = [.tup es] ∧ Υ (enumD es) gdT M1) : wEnumT Wr ρ M Υ := h
theorem i_zipT (h : Wr ρ M fun ds M1 => ∃ as bs, ds = [.tup as, .tup bs] ∧ Υ (pairD as bs) gdT M1) : wZipT Wr ρ M Υ := h
theorem i_frD {ks : List Key} {ds : List Dat} (h : Φ (.dic ks ds) M) : newD ks ds M Φ := .inl h
theorem i_inD {b0 : Bool} {ks : List Key} {es : List Dat} {k : Key} (h1 : dicV M e = some (ks, es)) (h2 : keyD d = some k) (e0 : (dget ks es k).isSome = b0) (h : Φ (.v (.bl b0)) M) : oInA false d e M Φ := by
  subst e0
  exact .inr ⟨ks, es, k, h1, h2, h⟩
theorem de_fldK {K : PySem.W.Frag} {X : Cx} {ex : Expr} {f : Str} {pos : Pos} (hK : X.K = K) (he : DE cl X ex Wa) (hb : attributeBase ex f X.env (eval ex X.env) = eval ex X.env := by rfl) : DE cl X (.Attribute ex f pos) (wFld K cl f Wa) := by
  subst hK
  exact de_fld he hb
theorem de_ixNK {P : Program} {w : World} {X : Cx} {a b : Expr} {pos : Pos} (hP : X.prog = P) (hw : X.w = w) (hu : X.A.units + 64 < cLine) (ha : DE cl X a Wa) (hb : DE cl X b Wb) (hs : PlainIx b := by exact fun _ _ => rfl) : DE cl X (.Subscript a b pos) (wOp (oNGet P w cl) Wa Wb) := by
  subst hP hw
  exact de_ixN hu ha hb hs
theorem enumD_zip {α : Type} (xs : List α) (f : α → Dat) : enumD (xs.map f) = xs.zipIdx.map fun p => .tup [.v (.int (p.2 : Nat)), f p.1] := by
  refine List.ext_getElem? fun i => ?_
  rw [enumD_get, List.getElem?_map, List.getElem?_map, List.getElem?_zipIdx]
  cases xs[i]? with
  | none => rfl
  | some x => simp
theorem pair_idx {α : Type} (xs : List α) (f : α → Dat) : (xs.zipIdx.map fun p => Dat.tup [f p.1, .v (.int (p.2 : Nat))]) = DL.pairD (xs.map f) ((List.range xs.length).map fun i => .v (.int (i : Nat))) := by
  refine List.ext_getElem? fun i => ?_
  unfold DL.pairD
  rw [List.getElem?_map, List.getElem?_zipIdx, List.getElem?_zipWith, List.getElem?_map, List.getElem?_map]
  by_cases h : i < xs.length
  · simp [h]
  · simp [h]
theorem i_oint {i : Int} (h : Φ (.v (.int i)) M) : OInt [.v (.int i)] M Φ := .int h
theorem i_ointB {b : Bool} (h : Φ (.v (.int (if b then 1 else 0))) M) : OInt [.v (.bl b)] M Φ := .bl h
theorem i_mod {g : Int → Int → L2.V} {i j : Int} (hc : 0 < j) (h : Φ (.v (g i j)) M) : oI (fun _ j => 0 < j) g (.v (.int i)) (.v (.int j)) M Φ := ⟨i, j, rfl, rfl, hc, h⟩
end
end DL
set_option maxRecDepth 100000
set_option maxHeartbeats 2000000
/-! D layer: the script, a list known to its object: its length, its items, its slices. -/
namespace DL
open PySem PySem.Spec PyProof.Rows L2 SlX
section
variable {cl : Nat → Addr} {K : PySem.W.Frag} {X : Cx} {pos : Pos} {a b e : Expr} {Wa Wb We : WE} {ρ : Env} {M : Mem} {Φ : Dat → Mem → Prop}
/-- the value bears a list of ints that is read only -/
def ScrD (K : PySem.W.Frag) (cl : Nat → Addr) (d : Dat) (ns : List Int) : Prop := ∀ G H ρ M σ x, StOk cl G H ρ M σ → Den cl G d x → ∃ p, x = .ref p ∧ SqL K H p (ns.map V.int)
def oLenS (K : PySem.W.Frag) (cl : Nat → Addr) : DOs := fun ds M Φ => ∃ d ns, ds = [d] ∧ ScrD K cl d ns ∧ Φ (.v (.int (ns.length : Nat))) M
theorem cd_lenS : CalD cl (rLenG K) (oLenS K cl) := fun G H ρ M σ ds xs Φ Q st n ⟨d, ns, e0, hs, h⟩ k => by
  subst e0
  obtain ⟨x, rfl, n1⟩ := denL_1 n
  obtain ⟨p, rfl, hp⟩ := hs G H ρ M σ x st n1
  exact .inl ⟨_, _, rfl, .inl ⟨_, hp, by simp⟩, k.v st h⟩
def oIxS (K : PySem.W.Frag) (cl : Nat → Addr) : DO2 := fun a b M Φ => ∃ ns i j, ScrD K cl a ns ∧ b = .v (.int i) ∧ atI ns i = some j ∧ Φ (.v (.int j)) M
theorem atI_map {α β : Type} {f : α → β} {xs : List α} {i : Int} {x : α} (h : atI xs i = some x) : atI (xs.map f) i = some (f x) := by
  unfold atI at h ⊢
  rw [List.length_map]
  cases q : ixN xs.length i with
  | none => rw [q] at h; cases h
  | some j =>
    rw [q] at h
    show (xs.map f)[j]? = _
    rw [List.getElem?_map, show xs[j]? = some x from h]
    rfl
theorem od_ixS : OpD cl (rIxG K) (oIxS K cl) := fun G H ρ M σ d1 d2 x y Φ Q st n1 n2 ⟨ns, i, j, hs, e, hi, h⟩ k => by
  obtain ⟨p, rfl, hp⟩ := hs G H ρ M σ x st n1
  subst e
  have := den_v.mp n2
  subst this
  exact .inl (.inl ⟨p, _, i, _, rfl, rfl, hp, atI_map hi, k.v st h⟩)
theorem de_ixS (hu : X.A.units + 1 < cLine) (ha : DE cl X a Wa) (hb : DE cl X b Wb) (hs : PlainIx b := by exact fun _ _ => rfl) : DE cl X (.Subscript a b pos) (wOp (oIxS X.K cl) Wa Wb) :=
  PE.imp (pe_ix (IxR.or ix_seq (ix_dict hu)) ha hb hs) (lift_op od_ixS)
def wSlS (K : PySem.W.Frag) (cl : Nat → Addr) (Wa : WE) (Wl Wh : WO) : WE := fun ρ M Φ => Wa ρ M fun d M1 => Wl ρ M1 fun lo M2 => Wh ρ M2 fun hi M3 => ∃ ns, ScrD K cl d ns ∧ newL (cutD (ns.map fun i => .v (.int i)) lo hi) M3 Φ
theorem de_slS {lo hi : Option Expr} {Wl Wh : WO} {p2 : Pos} (ha : DE cl X a Wa) (hl : DOpt cl X lo Wl) (hh : DOpt cl X hi Wh) : DE cl X (.Subscript a (.Slice lo hi none p2) pos) (wSlS X.K cl Wa Wl Wh) :=
  PE.imp (pe_slice (SlR.or sl_list (SlR.or sl_tupA sl_str)) ha hl hh) fun σ H Q ⟨G, ρ, M, Φ, st, h, k⟩ =>
    ⟨G, ρ, M, _, st, h, fun d x M1 G1 H1 s1 st1 dn1 h1 => ⟨G1, ρ, M1, _, st1, h1, fun lo M2 G2 H2 s2 st2 h2 => ⟨G2, ρ, M2, _, st2, h2, fun hi M3 G3 H3 s3 st3 h3 => by
      have k3 := k.pre ((s1.trans s2).trans s3)
      have dn3 := dn1.mono (s2.trans s3).ex
      obtain ⟨ns, hs, h⟩ := h3
      obtain ⟨p, rfl, hp⟩ := hs _ _ _ _ _ _ st3 dn3
      exact .inl ⟨p, _, rfl, hp, fun q hq => k3.newL st3 (cut_den (denL_ints ns)) h hq⟩⟩⟩⟩
/-- the start of a law: nothing is told but the script -/
theorem scr_start {C : DOs} {H : Hp} {p : Addr} {ns : List Int} {Q : VK} {E : XK} (hO : Only H) (hS : SqL K H p (ns.map V.int)) (hc : ∀ d, ScrD K cl d ns → C [d] (fun _ => none) (fun d _ => d = .v (.bl true))) (hq : ∀ H', Q (.bl true) H') : spD cl C [.ref p] H Q E := by
  rcases hS with (hS | ⟨o, hS⟩) | hK
  · rcases hO p with z | ⟨o, xs, z⟩ <;> (rw [hS] at z; cases z)
  · refine ⟨H, fun _ => none, [.ext fun _ q u => q = p ∧ u = .frz o (.lst (ns.map V.int))], _, ⟨Exh.refl _, fun a c h => (nomatch h), rfl, fun i d h => by simp at h⟩, DenL.one (den_ext.mpr ⟨p, _, H, rfl, Exh.refl _, hS, rfl, rfl⟩), hc _ fun G2 H2 ρ M σ x st dn => ?_, fun d x M' G' H' s st dn h => ?_⟩
    · obtain ⟨q, u, G0, rfl, _, hu, rfl, rfl⟩ := den_ext.mp dn
      exact ⟨_, rfl, .inl (.inr ⟨o, st.rd hu⟩)⟩
    · subst h
      rw [den_v.mp dn]
      exact hq _
  · refine ⟨H, fun _ => none, [.v (.ref p)], _, ⟨Exh.refl _, fun a c h => (nomatch h), rfl, fun i d h => by simp at h⟩, DenL.one (den_v.mpr rfl), hc _ fun G2 H2 ρ M σ x st dn => ?_, fun d x M' G' H' s st dn h => ?_⟩
    · rw [den_v.mp dn]
      exact ⟨p, rfl, .inr hK⟩
    · subst h
      rw [den_v.mp dn]
      exact hq _
end
theorem mul_c {i j : Int} (a b : Nat) (ha : i.natAbs < 2 ^ a) (hb : j.natAbs < 2 ^ b) (h : 0 < a ∧ 0 < b ∧ a + b ≤ 1000000 := by decide) : CMulW i j := wide_mul ha hb h.1 h.2.1 h.2.2
theorem i_mul {M : Mem} {Φ : Dat → Mem → Prop} {i j : Int} (a b : Nat) (ha : i.natAbs < 2 ^ a) (hb : j.natAbs < 2 ^ b) (k : Φ (.v (.int (i * j))) M) (h : 0 < a ∧ 0 < b ∧ a + b ≤ 1000000 := by decide) : OMul (.v (.int i)) (.v (.int j)) M Φ := .int (mul_c a b ha hb h) k
theorem i_iteJ {b : Bool} {Wa Wb : WE} {ρ : DL.Env} {M : Mem} {Φ : Dat → Mem → Prop} (key : ∀ c : Int, Φ (.v (.int c)) M) (h1 : b = true → ∀ Φ' : Dat → Mem → Prop, (∀ c : Int, Φ' (.v (.int c)) M) → Wa ρ M Φ') (h2 : b = false → ∀ Φ' : Dat → Mem → Prop, (∀ c : Int, Φ' (.v (.int c)) M) → Wb ρ M Φ') : if b = true then Wa ρ M Φ else Wb ρ M Φ := by
  cases b with
  | true => rw [if_pos rfl]; exact h1 rfl _ key
  | false => rw [if_neg (by decide)]; exact h2 rfl _ key
section
variable {cl : Nat → Addr} {K : PySem.W.Frag} {Wa : WE} {Wl Wh : WO} {ρ : DL.Env} {M : Mem} {Φ : Dat → Mem → Prop}
theorem i_abs {i : Int} (h : Φ (.v (.int (if i < 0 then -i else i))) M) : oAbs [.v (.int i)] M Φ := ⟨i, rfl, h⟩
theorem i_min {i j : Int} (h : Φ (.v (.int (if j < i then j else i))) M) : oMin [.v (.int i), .v (.int j)] M Φ := ⟨i, j, rfl, h⟩
theorem i_max {i j : Int} (h : Φ (.v (.int (if j > i then j else i))) M) : oMax [.v (.int i), .v (.int j)] M Φ := ⟨i, j, rfl, h⟩
theorem i_slS (h : Wa ρ M fun d M1 => Wl ρ M1 fun lo M2 => Wh ρ M2 fun hi M3 => ∃ ns, ScrD K cl d ns ∧ newL (cutD (ns.map fun i => .v (.int i)) lo hi) M3 Φ) : wSlS K cl Wa Wl Wh ρ M Φ := h
theorem atI_nth {α : Type} {ds : List α} {n : Nat} {x : α} (h : ds[n]? = some x) : atI ds (n : Int) = some x := by
  rw [atI_nat (List.getElem?_eq_some_iff.mp h).1]; exact h
theorem i_sumS {ns : List Int} {lo hi : Option Int} (h : ∀ c : Int, Φ (.v (.int c)) M) : oSum [.lst (DL.cutD (ns.map fun i => .v (.int i)) lo hi)] M Φ := by
  refine ⟨_, ((ns.drop (HT.sIx ns.length 0 lo)).take (HT.sIx ns.length ns.length hi - HT.sIx ns.length 0 lo)), rfl, ?_, h _⟩
  unfold DL.cutD lstV
  rw [List.length_map, List.map_take, List.map_drop]
theorem big_pow : ∃ N : Int, ((10 : Int) ^ ((60 : Nat) : Int).toNat) ^ Int.toNat 5 = N ∧ 0 < N ∧ N.natAbs < 2 ^ 1000 := ⟨_, rfl, by decide +kernel, by decide +kernel⟩
theorem mod_nat {x N : Int} {a : Nat} (h : 0 < N) (hn : N.natAbs < 2 ^ a) : 0 ≤ x % N ∧ (x % N).natAbs < 2 ^ a := by
  have h1 := Int.emod_nonneg x (Int.ne_of_gt h)
  have h2 := Int.emod_lt_of_pos x h
  exact ⟨h1, Nat.lt_of_le_of_lt (by omega) hn⟩
theorem b01 (b : Bool) : (if b = true then (1 : Int) else 0).natAbs < 2 ^ 2 := by cases b <;> decide
theorem seqIx_nat {n k : Nat} (h : k < n) : seqIndex? (k : Int) n = some k := by
  unfold seqIndex?
  have h0 : ¬ (k : Int) < 0 := by omega
  have h1 : (k : Int) < (n : Int) := by omega
  simp only [h0, if_false, h1, decide_true, Bool.and_true, decide_eq_true_eq]
  rw [if_pos (by omega), Int.toNat_natCast]
theorem perm_map {α β : Type} {f : α → β} : ∀ {l1 l2 : List β}, l1.Perm l2 → ∀ xs : List α, l2 = xs.map f → ∃ ys : List α, ys.Perm xs ∧ l1 = ys.map f := fun h => by
  induction h with
  | nil => intro xs e; exact ⟨[], by cases xs <;> simp_all, rfl⟩
  | cons a _ ih =>
    intro xs e
    cases xs with
    | nil => cases e
    | cons x xs =>
      obtain ⟨h1, h2⟩ := List.cons.inj e
      obtain ⟨ys, p, e2⟩ := ih xs h2
      exact ⟨x :: ys, p.cons x, by rw [h1, e2]; rfl⟩
  | swap a b l =>
    intro xs e
    match xs, e with
    | x :: y :: xs, e =>
      obtain ⟨h1, h2⟩ := List.cons.inj e
      obtain ⟨h2, h3⟩ := List.cons.inj h2
      exact ⟨y :: x :: xs, List.Perm.swap .., by rw [h1, h2, h3]; rfl⟩
  | trans _ _ h1 h2 =>
    intro xs e
    obtain ⟨ys, p, e2⟩ := h2 xs e
    obtain ⟨zs, q, e3⟩ := h1 ys e2
    exact ⟨zs, q.trans p, e3⟩
theorem cons_erase {α : Type} : ∀ {rs : List α} {k : Nat} {e : α}, rs[k]? = some e → (e :: rs.eraseIdx k).Perm rs
  | [], _, _, h => by simp at h
  | r :: rs, 0, e, h => by
    have h : r = e := by simpa using h
    rw [h]
    exact .refl _
  | r :: rs, k + 1, e, h => by
    have ih := cons_erase (rs := rs) (k := k) (e := e) (by simpa using h)
    exact (List.Perm.swap ..).trans (ih.cons r)
theorem perm_erase {α : Type} {fs rs es : List α} {k : Nat} {e : α} (h : (fs ++ rs).Perm es) (hk : rs[k]? = some e) : ((fs ++ [e]) ++ rs.eraseIdx k).Perm es := by
  refine List.Perm.trans ?_ h
  rw [List.append_assoc]
  refine List.Perm.append_left _ ?_
  exact cons_erase hk
theorem perm_split {α β : Type} {f : α → β} {vs rest : List β} {ws : List α} (h : (vs ++ rest).Perm (ws.map f)) : ∃ as bs : List α, vs = as.map f ∧ rest = bs.map f ∧ (as ++ bs).Perm ws := by
  obtain ⟨ys, p, e⟩ := perm_map h ws rfl
  obtain ⟨as, bs, e1, e2, e3⟩ := List.append_eq_map_iff.mp e
  exact ⟨as, bs, e2.symm, e3.symm, e1 ▸ p⟩
theorem five_at {i : Int} (h0 : 0 ≤ i) (h1 : i < 5) : ∃ q : Int, atI [Dat.v (.int 2147483647), .v (.int 2147483629), .v (.int 2147483587), .v (.int 2147483579), .v (.int 2147483563)] i = some (.v (.int q)) ∧ 0 < q ∧ q ≤ 2147483647 := by
  obtain ⟨n, rfl⟩ := Int.eq_ofNat_of_zero_le h0
  match n, h1 with
  | 0, _ => exact ⟨_, rfl, by decide, by decide⟩
  | 1, _ => exact ⟨_, rfl, by decide, by decide⟩
  | 2, _ => exact ⟨_, rfl, by decide, by decide⟩
  | 3, _ => exact ⟨_, rfl, by decide, by decide⟩
  | 4, _ => exact ⟨_, rfl, by decide, by decide⟩
  | n + 5, h => omega
theorem mod_any {x N : Int} (h : 0 < N) : ∃ r, x % N = r ∧ 0 ≤ r ∧ r < N := ⟨_, rfl, Int.emod_nonneg x (Int.ne_of_gt h), Int.emod_lt_of_pos x h⟩
theorem mul01 {r : Int} {b : Bool} {a : Nat} (h0 : 0 ≤ r) (h : r.natAbs < 2 ^ a) : 0 ≤ r * (if b = true then 1 else 0) ∧ (r * (if b = true then 1 else 0)).natAbs < 2 ^ a := by
  cases b with
  | true => rw [if_pos rfl, Int.mul_one]; exact ⟨h0, h⟩
  | false => rw [if_neg (by decide), Int.mul_zero]; exact ⟨Int.le_refl _, Nat.lt_of_le_of_lt (Nat.zero_le _) h⟩
theorem hu65 {A : Around} {k : Nat} (hr : Room k A) : A.units + 65 < cLine := by have := hr.un; omega
theorem eqV_int {a b : Int} : eqV (.int a) (.int b) = true ↔ a = b := by
  show (a == b) = true ↔ a = b
  simp
theorem inV_nats {s : Nat} {ws : List Nat} : inV (.int (s : Int)) (ws.map fun n : Nat => V.int (n : Int)) = decide (s ∈ ws) := by
  induction ws with
  | nil => rfl
  | cons w ws ih =>
    unfold inV at ih ⊢
    rw [List.map_cons, List.any_cons, ih]
    rw [Bool.eq_iff_iff]
    simp only [Bool.or_eq_true, decide_eq_true_eq, List.mem_cons]
    constructor
    · rintro (h | h)
      · left
        have := eqV_int.mp h
        omega
      · exact .inr h
    · rintro (h | h)
      · exact .inl (eqV_int.mpr (by omega))
      · exact .inr h
theorem flat_nats {ws : List Nat} : (ws.map fun n : Nat => V.int (n : Int)).all flatV = true := by
  rw [List.all_map]
  exact List.all_eq_true.mpr fun _ _ => rfl
theorem i_ninN {b0 : Bool} {d : Dat} {s : Nat} {ws : List Nat} (h1 : seqV M d = some (ws.map fun n : Nat => Dat.v (.int (n : Int)))) (e0 : (!decide (s ∈ ws)) = b0) (h : Φ (.v (.bl b0)) M) : oInA true (.v (.int (s : Int))) d M Φ := by
  subst e0
  refine .inl (.seq (ys := ws.map fun n : Nat => V.int (n : Int)) (by rw [h1, List.map_map]; rfl) rfl flat_nats ?_)
  rw [inV_nats]; exact h
theorem i_inN {b0 : Bool} {d : Dat} {s : Nat} {ws : List Nat} (h1 : seqV M d = some (ws.map fun n : Nat => Dat.v (.int (n : Int)))) (e0 : (decide (s ∈ ws)) = b0) (h : Φ (.v (.bl b0)) M) : oInA false (.v (.int (s : Int))) d M Φ := by
  subst e0
  refine .inl (.seq (ys := ws.map fun n : Nat => V.int (n : Int)) (by rw [h1, List.map_map]; rfl) rfl flat_nats ?_)
  rw [inV_nats]; exact h
end
/-! ### displays of dicts, calls by one name -/
section
variable {cl : Nat → Addr} {X : Cx} {pos : Pos}
def DPs (cl : Nat → Addr) (X : Cx) (pos : Pos) (keys : List (Option Expr)) (values : List Expr) (ps : List (L2.Key × WE)) : Prop := PPs X pos keys values (ps.map fun p => (tC (kV p.1), liftE cl p.2))
theorem dps_nil : DPs cl X pos [] [] [] := pps_nil
theorem dps_cons {k v : Expr} {ks : List (Option Expr)} {vs : List Expr} {key : L2.Key} {W : WE} {ps : List (L2.Key × WE)} (hk : PE X k (tC (kV key))) (hv : DE cl X v W) (hr : DPs cl X pos ks vs ps) : DPs cl X pos (some k :: ks) (v :: vs) ((key, W) :: ps) := pps_cons hk hv hr
theorem de_disp2 {keys : List (Option Expr)} {values : List Expr} {ps : List (L2.Key × WE)} (h : DPs cl X pos keys values ps) (nd : (ps.map (·.1)).Nodup) (hl : ps.length ≤ 15) (hall : keys.all (·.isSome) = true := by rfl) (he : keys.length = values.length := by rfl) (h0 : keys ≠ [] := by exact (fun z => nomatch z)) (h15 : keys.length ≤ 15 := by decide) :
    DE cl X (.Dict keys values pos) (wDisp ps) := de_disp ps h nd hl hall he h0 h15
theorem de_callK2 {x y : Str} {C : DOs} {k j : Nat} {e : Expr} {p kp : Pos} {We : WE} (c : DCalK X.prog X.w X.K X.mg X.base cl k x y C) (hr : Room j X.A) (he : DE cl X e We) (hk : k ≤ j := by decide) (hg : Gl X x := by rfl) (hdb : (x == ("__debug__" : Str)) = false := by decide)
    (hpl : ((backTo pos (starEach [] X.env)).any (·.1) || (backToKw pos (keywordEach [⟨some y, e, kp⟩] X.env)).any (·.1.isNone)) = false := by rfl) :
    DE cl X (.Call (.Name x p) [] [⟨some y, e, kp⟩] pos) (wCallK C We) := by
  obtain ⟨f, fd, F, hm, hkp, hb⟩ := c.ex
  refine ⟨fun pins s σ H Q I ⟨G, ρ, M, Φ, st, h, kk⟩ => ?_⟩
  have hkw : backToKw pos (keywordEach [⟨some y, e, kp⟩] X.env) = [(some y, do let v ← eval e X.env; standAt pos; pure v)] := rfl
  refine wpAny_Call_Name_kw (ld_glob I hg hm ?_ hdb)
  refine PySem.W.callWith_KW0 (h₀ := X.base) I.ok.mod.kin hkp (by rw [hkw]; rfl) ?_ hpl
  rw [hkw]
  have hev : ∀ {Q' : List Value → Shared → Prop}, wpAny (model X.prog X.w) X.A (eval e X.env) (fun u s1 => Q' [u] s1) X.xe s → wpAny (model X.prog X.w) X.A (evalAll [do let v ← eval e X.env; standAt pos; pure v]) Q' X.xe s := fun {Q'} q =>
    wpAny_evalAll_cons (wpAny_bind (wpAny_mono q (fun u s1 h1 => wpAny_bind (wpAny_standAt (wpAny_pure (wpAny_evalAll_nil h1)))) fun _ _ z => z))
  refine hev (thn (he.run pins s σ H _ I ⟨G, ρ, M, _, st, h, fun d xv M1 G1 H1 s1 st1 dn1 h1 => (⟨G1, M1, [d], Φ, st1.bare, .one dn1, h1, (kk.pre s1).call st1⟩ : spD cl C [xv] H1 Q E0)⟩) fun u s1 ⟨xv, H1, I1, rx, hsp⟩ => ⟨I1.kIn, ?_⟩)
  have hF := F.mono hk
  refine wpAny_call (codeAny_mono (hF.run X.A X.stack s1 H1 ⟨[], [(y, u)]⟩ [u] [xv] Q E0 hr I1.env0 (hb.to s1 u) (.cons rx .nil) hsp) fun r s' hq => ?_)
  cases r with
  | error e' => exact pass0 pins σ H1 s1 e' s' I1 hq
  | ok fl =>
    cases fl with
    | ret u => exact I1.after hq
    | next => exact False.elim hq
    | brk => exact False.elim hq
    | cont => exact False.elim hq
end
end DL
set_option maxRecDepth 100000
set_option maxHeartbeats 2000000
/-! the head's facts: defs, classes with slots, properties, by names. -/
namespace HDF
open PySem PySem.Spec PyProof.Rows L2 SlX DL He
def slotsCls (K : PySem.W.Frag) (x : Str) : Bool := PySem.W.plainGet K (ga K x) Str.empty && (PySem.W.isClsIn K (ga K x) && (PySem.W.plainOver K (ga K x) && eqO (PySem.W.findIn K (.ref (ga K x)) "__setattr__") (some (some (.builtin "object.__setattr__")))))
theorem slotsCls_ok {K : PySem.W.Frag} {x : Str} (h : slotsCls K x = true) : SCls K (ga K x) := by
  obtain ⟨h1, h⟩ := ba h
  obtain ⟨h2, h⟩ := ba h
  obtain ⟨h3, h4⟩ := ba h
  exact ⟨h1, h2, h3, eqO_ok h4⟩
def slotAt (K : PySem.W.Frag) (x f : Str) (i : Nat) : Bool := eqO (PySem.W.findIn K (.ref (ga K x)) f) (some (some (.ref (ma K (ga K x) f)))) && (eqO (PySem.W.specialIn K (.ref (ma K (ga K x) f)) "__get__") (some (some (.builtin "member_descriptor.__get__"))) &&
  (decide (PySem.W.takesIn K (.ref (ma K (ga K x) f)) = some true) && (decide (PySem.W.typeIn K (.ref (ma K (ga K x) f)) = some (.type "member_descriptor")) && (decide (PySem.W.slotIn K (ma K (ga K x) f) (ga K x) = some i) && decide (i < 1000)))))
theorem slotAt_ok {K : PySem.W.Frag} {x f : Str} {i : Nat} (h : slotAt K x f i = true) : ∃ p, Slot1 K (ga K x) f p i := by
  obtain ⟨h1, h⟩ := ba h
  obtain ⟨h2, h⟩ := ba h
  obtain ⟨h3, h⟩ := ba h
  obtain ⟨h4, h⟩ := ba h
  obtain ⟨h5, h6⟩ := ba h
  exact ⟨_, eqO_ok h1, eqO_ok h2, of_decide_eq_true h3, of_decide_eq_true h4, of_decide_eq_true h5, of_decide_eq_true h6⟩
/-- a property's function -/
def prG (K : PySem.W.Frag) (x f : Str) : Addr := match PySem.W.recIn K (ma K (ga K x) f) "property" with
  | some (.ref g :: _) => g
  | _ => 0
def propAt (K : PySem.W.Frag) (x f : Str) : Bool := eqO (PySem.W.findIn K (.ref (ga K x)) f) (some (some (.ref (ma K (ga K x) f)))) && (eqO (PySem.W.specialIn K (.ref (ma K (ga K x) f)) "__get__") (some (some (.builtin "property.__get__"))) &&
  (decide (PySem.W.takesIn K (.ref (ma K (ga K x) f)) = some true) && (match PySem.W.recIn K (ma K (ga K x) f) "property" with
    | some (.ref _ :: _) => true
    | _ => false)))
theorem propAt_ok {K : PySem.W.Frag} {x f : Str} (h : propAt K x f = true) : PAt K (ga K x) f (prG K x f) := by
  obtain ⟨h1, h⟩ := ba h
  obtain ⟨h2, h⟩ := ba h
  obtain ⟨h3, h4⟩ := ba h
  refine ⟨_, eqO_ok h1, eqO_ok h2, of_decide_eq_true h3, ?_⟩
  unfold prG
  split at h4
  · rename_i g rest e
    rw [e]
    exact ⟨rest, rfl⟩
  · cases h4
inductive Fb where
  | fa (f : Fa)
  | sc (x : Str)
  | sl (x f : Str) (i : Nat)
  | pr (x f : Str)
def Fb.ok (K : PySem.W.Frag) : Fb → Bool
  | .fa f => f.ok K
  | .sc x => slotsCls K x
  | .sl x f i => slotAt K x f i
  | .pr x f => propAt K x f
/-- where a def stands -/
inductive At where
  | glo (x : Str)
  | meth (x m : Str)
  | prop (x f : Str)
def At.ad (K : PySem.W.Frag) : At → Addr
  | .glo x => ga K x
  | .meth x m => ma K (ga K x) m
  | .prop x f => prG K x f
structure Df where
  at_ : At
  name : Str
  qual : Str
  params : Arguments
  body : List Stmt
  scope : Scope
def Df.val (d : Df) : FnW := some (d.name, d.qual, d.params, .stmts d.body, d.scope, mainGlobals, [], builtinsNs)
def fnAt (K : PySem.W.Frag) (a : Addr) : FnW := match K.lookup a with
  | some ⟨_, _, .func fd, _⟩ => some (fd.name, fd.qualname, fd.params, fd.body, fd.scope, fd.globals, fd.closure, fd.builtins)
  | _ => none
def Df.ok (K : PySem.W.Frag) (d : Df) : Bool := PySem.W.keepIn K (.ref (d.at_.ad K)) && (match K.lookup (d.at_.ad K) with
  | some ⟨_, _, .func fd, _⟩ => PySem.W.codeIn K fd.code d.qual && (dflB K fd.defaults [] && kwdB K fd.kwdefaults [])
  | _ => false)
theorem Df.funD {K : PySem.W.Frag} {d : Df} (e : fnAt K (d.at_.ad K) = d.val) (c : d.ok K = true) : ∃ fd, FunD K d.name d.qual d.params d.body d.scope [] [] (d.at_.ad K) fd := by
  obtain ⟨kp, c2⟩ := ba c
  unfold fnAt at e
  cases q : K.lookup (d.at_.ad K) with
  | none => rw [q] at c2; cases c2
  | some o =>
    obtain ⟨oc, od, dt, osl⟩ := o
    rw [q] at c2 e
    cases dt with
    | func fd =>
      obtain ⟨n1, n2, n3, n4, n5, n6, n7, n8, n9, n10, n11, n12, n13, n14, n15⟩ := fd
      have e2 : (some (n1, n2, n3, n4, n5, n6, n7, n15) : FnW) = some (d.name, d.qual, d.params, .stmts d.body, d.scope, mainGlobals, [], builtinsNs) := e
      simp only [Option.some.injEq, Prod.mk.injEq] at e2
      obtain ⟨h1, h2, h3, h4, h5, h6, h7, h8⟩ := e2
      subst h1 h2 h3 h4 h5 h6 h7 h8
      have c3 : (PySem.W.codeIn K n13 d.qual && (dflB K n8 [] && kwdB K n9 [])) = true := c2
      obtain ⟨k1, k2⟩ := ba c3
      obtain ⟨k3, k4⟩ := ba k2
      exact ⟨_, ⟨oc, od, n8, n9, n10, n11, n12, n13, n14, osl, rfl, q, k1, dflB_ok k3, kwdB_ok k4⟩, kp⟩
    | _ => cases c2
/-- a def of one parameter, called by its name -/
theorem kby_of {K : PySem.W.Frag} {x qual y : Str} {params : Arguments} {body : List Stmt} {scope : Scope} {f : Addr} {fd : FuncData} (F : FunD K x qual params body scope [] [] f fd)
    (h : ∀ (kV doc pm : Value) (an : Option Addr) (cdv ct : Value) (u : Value), bindArgs (PySem.W.fnOf x qual params body scope .none kV doc pm an cdv ct) ⟨[], [(y, u)]⟩ = pure [(y, u)]) : KBy K fd y := ⟨fun s u => by
  obtain ⟨oc, od, dV, kV, doc, pm, an, cdv, ct, osl, rfl, lk, hcd, hD, hK⟩ := F.ex
  rcases hD with ⟨_, rfl⟩ | ⟨e, _⟩
  · exact .of_eq (h kV doc pm an cdv ct u)
  · exact absurd rfl e⟩
abbrev AlH : Type := Bool × List FnW
def obsH (fb : List Fb) (fn : List Df) (K : PySem.W.Frag) : AlH := ((fb.all fun f => f.ok K) && fn.all fun d => d.ok K, fn.map fun d => fnAt K (d.at_.ad K))
def valH (fn : List Df) : AlH := (true, fn.map Df.val)
def SaysH (fb : List Fb) (fn : List Df) (K : PySem.W.Frag) : Prop := obsH fb fn K = valH fn
/-- what an object names that is looked at: a def's code, a class's table and classes, a table's values, a property's defs -/
def refsH (o : Obj) : List Addr := match o.data with
  | .func fd => refV fd.code
  | .cls cd => cd.ns :: cd.mro.flatMap refV
  | .dict es _ => es.toList.flatMap fun e => refV e.val
  | .fields vs => (match o.cls with
    | .type c => (match decide (c = "property") with
      | true => vs.toList.flatMap refV
      | false => [])
    | _ => [])
  | _ => []
def walkH (g : Addr → Option Obj) : Nat → List Addr → List Addr
  | 0, fr => fr
  | n + 1, fr => fr ++ walkH g n (fr.flatMap fun a => match g a with
    | some o => refsH o
    | none => [])
def obsHG (n : Nat) (fb : List Fb) (fn : List Df) (g : Addr → Option Obj) : AlH := obsH fb fn (frG g (walkH g n [mainGlobals]))
def hookH (n : Nat) (fb : List Fb) (fn : List Df) : PySem.W.Hook where
  α := AlH
  obs := fun s => obsHG n fb fn s.heap.get?
  val := fun _ => valH fn
  says := fun _ h => ∃ K : PySem.W.Frag, K.In h ∧ SaysH fb fn K
  of := fun _ _ e => ⟨_, frG_in, e⟩
  keeps := fun _ _ _ ⟨K, hK, c⟩ k => ⟨K, PySem.W.Frag.In.keeps hK k, c⟩
theorem obsHG_eq {n : Nat} {fb : List Fb} {fn : List Df} {g : Addr → Option Obj} {s : Shared} (h : ∀ a, g a = s.heap.get? a) : obsHG n fb fn g = (hookH n fb fn).obs s := by
  have e : g = s.heap.get? := funext h
  rw [e] <;> rfl
section
variable {fb : List Fb} {fn : List Df} {K : PySem.W.Frag} {h : Heap} {mg : Str → Option Value}
theorem SaysH.fact (c : SaysH fb fn K) (i : Nat) {f : Fb} (h : fb[i]? = some f := by rfl) : f.ok K = true := by
  have c1 := (ba (show ((fb.all fun f => f.ok K) && fn.all fun d => d.ok K) = true from congrArg (fun z : AlH => z.1) c)).1
  exact List.all_eq_true.mp c1 f (List.mem_of_getElem? h)
theorem SaysH.def_ (c : SaysH fb fn K) (i : Nat) {d : Df} (h : fn[i]? = some d := by rfl) : ∃ fd, FunD K d.name d.qual d.params d.body d.scope [] [] (d.at_.ad K) fd := by
  have c2 := (ba (show ((fb.all fun f => f.ok K) && fn.all fun d => d.ok K) = true from congrArg (fun z : AlH => z.1) c)).2
  have e : fn.map (fun d => fnAt K (d.at_.ad K)) = fn.map Df.val := congrArg (fun z : AlH => z.2) c
  have e2 : (fn.map fun d => fnAt K (d.at_.ad K))[i]? = (fn.map Df.val)[i]? := by rw [e]
  rw [List.getElem?_map, List.getElem?_map, h] at e2
  exact Df.funD (Option.some.inj e2) (List.all_eq_true.mp c2 d (List.mem_of_getElem? h))
theorem free_ (X : K.In h) (G : h.Ns mainGlobals mg) {x : Str} (c : (Fb.fa (.free x)).ok K = true) : mg x = none := free_ok X G c
theorem glo_ (X : K.In h) (G : h.Ns mainGlobals mg) {x : Str} (c : (Fb.fa (.glo x)).ok K = true) : mg x = some (.ref (ga K x)) := glo_ok X G c
theorem str_ (X : K.In h) (G : h.Ns mainGlobals mg) {x z : Str} (c : (Fb.fa (.str x z)).ok K = true) : ∃ t, mg x = some (.str z t) := str_ok X G c
theorem int_ (X : K.In h) (G : h.Ns mainGlobals mg) {x : Str} {i : Int} (c : (Fb.fa (.int x i)).ok K = true) : ∃ t, mg x = some (.int i t) := int_ok X G c
theorem meth_ {x m : Str} (c : (Fb.fa (.meth x m)).ok K = true) : Meth K (ga K x) m (ma K (ga K x) m) := meth_ok c
theorem mkr_ {x : Str} (c : (Fb.fa (.mkr x)).ok K = true) : Mk K (ga K x) (ma K (ga K x) "__init__") := mkr_ok c
theorem sc_ {x : Str} (c : (Fb.sc x).ok K = true) : SCls K (ga K x) := slotsCls_ok c
theorem sl_ {x f : Str} {i : Nat} (c : (Fb.sl x f i).ok K = true) : ∃ p, Slot1 K (ga K x) f p i := slotAt_ok c
theorem pr_ {x f : Str} (c : (Fb.pr x f).ok K = true) : PAt K (ga K x) f (prG K x f) := propAt_ok c
end
/-! ### the run, piece by piece -/
section
open PySem.W PySem.Calls
variable {r : OpenRow} {q : Program} {n M : Nat} {loose : List Str} {w : World} {fa fb : List Fb} {fna fnb : List Df}
noncomputable abbrev EndAt (r : OpenRow) (M : Nat) (w : World) (os : OsState) : Option SharedT := HandSHeadRun.endF (HandSHeadRun.stepQ (HandSHeadRun.denQ HandSHeadRun.tabQ) r.prog w) M r.prog w os
def SeesAt (r : OpenRow) (q : Program) (M : Nat) (loose : List Str) (w : World) : Prop := ∀ os, (EndAt r M w os).map (fun s => (HandSHeadRun.looksF r.prog (boot_heap w.params) s.abs, HandSHeadRun.seenQ q loose (importedModules r.prog.main.body) (fun s => xlAt q [] s && recOk r.toRowW.records s) s.abs)) = some (true, openGood q loose)
def FactsAt (r : OpenRow) (n M : Nat) (fb : List Fb) (fn : List Df) (w : World) : Prop := ∀ os, (EndAt r M w os).map (fun s => obsHG n fb fn (HandSHeadRun.getT s)) = some (valH fn)
theorem obsH_append {K : PySem.W.Frag} (h1 : obsH fa fna K = valH fna) (h2 : obsH fb fnb K = valH fnb) : obsH (fa ++ fb) (fna ++ fnb) K = valH (fna ++ fnb) := by
  have a1 : ((fa.all fun f => f.ok K) && fna.all fun d => d.ok K) = true := congrArg (fun z : AlH => z.1) h1
  have a2 : ((fb.all fun f => f.ok K) && fnb.all fun d => d.ok K) = true := congrArg (fun z : AlH => z.1) h2
  have b1 : fna.map (fun d => fnAt K (d.at_.ad K)) = fna.map Df.val := congrArg (fun z : AlH => z.2) h1
  have b2 : fnb.map (fun d => fnAt K (d.at_.ad K)) = fnb.map Df.val := congrArg (fun z : AlH => z.2) h2
  obtain ⟨a3, a4⟩ := ba a1
  obtain ⟨a5, a6⟩ := ba a2
  show (((fa ++ fb).all fun f => f.ok K) && (fna ++ fnb).all fun d => d.ok K, (fna ++ fnb).map fun d => fnAt K (d.at_.ad K)) = (true, (fna ++ fnb).map Df.val)
  rw [List.all_append, List.all_append, a3, a4, a5, a6, List.map_append, List.map_append, b1, b2]
  rfl
theorem FactsAt.append (h1 : FactsAt r n M fa fna w) (h2 : FactsAt r n M fb fnb w) : FactsAt r n M (fa ++ fb) (fna ++ fnb) w := fun os => by
  have k1 := h1 os
  have k2 := h2 os
  cases e : EndAt r M w os with
  | none => rw [e] at k1; cases k1
  | some s =>
    rw [e] at k1 k2
    exact congrArg some (obsH_append (Option.some.inj k1) (Option.some.inj k2))
theorem run_join (h0 : SeesAt r q M loose w) (h1 : FactsAt r n M fa fna w) : HandSHeadRun.RunEq r q (hookH n fa fna) (fun s => obsHG n fa fna (HandSHeadRun.getT s)) M loose w := fun os => by
  have k0 := h0 os
  have k1 := h1 os
  show (EndAt r M w os).map _ = _
  cases e : EndAt r M w os with
  | none => rw [e] at k1; cases k1
  | some s =>
    rw [e] at k0 k1
    have e0 := Option.some.inj k0
    have e1 := Option.some.inj k1
    exact congrArg some (Prod.ext (congrArg (fun z => z.1) e0) (Prod.ext (congrArg (fun z => z.2) e0) e1))
end
end HDF
set_option maxRecDepth 100000
set_option maxHeartbeats 2000000
namespace K51
open PySem PySem.Spec PyProof.Rows L2 SlX DL
def topS (i : Nat) : Stmt := PySem.Challenge.pw_looksonlythere_k51_whole_numbers_of_plan.main.body.getD i (.Pass ⟨0, 0, 0, 0⟩)
def clsS : Stmt → Nat → Stmt
  | .ClassDef _ _ _ b _ _ _ _ _ _ _, j => b.getD j (.Pass ⟨0, 0, 0, 0⟩)
  | s, _ => s
structure Tx (K : PySem.W.Frag) (mg : Str → Option Value) (cl : Nat → Addr) : Prop where
  b_ValueError : mg "ValueError" = none
  b_abs : mg "abs" = none
  b_all : mg "all" = none
  b_bool : mg "bool" = none
  b_dict : mg "dict" = none
  b_enumerate : mg "enumerate" = none
  b_int : mg "int" = none
  b_isinstance : mg "isinstance" = none
  b_len : mg "len" = none
  b_list : mg "list" = none
  b_max : mg "max" = none
  b_min : mg "min" = none
  b_property : mg "property" = none
  b_range : mg "range" = none
  b_set : mg "set" = none
  b_sorted : mg "sorted" = none
  b_str : mg "str" = none
  b_sum : mg "sum" = none
  b_super : mg "super" = none
  b_tuple : mg "tuple" = none
  b_zip : mg "zip" = none
  g_FEED_checks : ∃ t, mg "FEED_checks" = some (.str "\n" t)
  g_BLANK_checks : ∃ t, mg "BLANK_checks" = some (.str " " t)
  g_LETTERS : ∃ t, mg "LETTERS" = some (.str "abcdefghijklmnopqrstuvwxyz" t)
  g_MOST_LETTERS : ∃ t, mg "MOST_LETTERS" = some (.int 6 t)
  g_BLANK_books : ∃ t, mg "BLANK_books" = some (.str " " t)
  g_FEED_books : ∃ t, mg "FEED_books" = some (.str "\n" t)
  g_MINUS : ∃ t, mg "MINUS" = some (.str "-" t)
  g_BOOK : ∃ t, mg "BOOK" = some (.str "book" t)
  g_FOE_books : ∃ t, mg "FOE_books" = some (.str "foe" t)
  g_ANSWER_books : ∃ t, mg "ANSWER_books" = some (.str "answer" t)
  g_CLAUSE : ∃ t, mg "CLAUSE" = some (.str "clause" t)
  g_PAIR_books : ∃ t, mg "PAIR_books" = some (.int 2 t)
  g_MOST_FOES : ∃ t, mg "MOST_FOES" = some (.int 6 t)
  g_MOST_ANSWERS : ∃ t, mg "MOST_ANSWERS" = some (.int 6 t)
  g_MOST_CLAUSES : ∃ t, mg "MOST_CLAUSES" = some (.int 30 t)
  g_MOST_LITERALS : ∃ t, mg "MOST_LITERALS" = some (.int 8 t)
  g_MOST_CELLS : ∃ t, mg "MOST_CELLS" = some (.int 64 t)
  g_PARITIES : ∃ t, mg "PARITIES" = some (.str "parities" t)
  g_EVEN : ∃ t, mg "EVEN" = some (.str "even" t)
  g_ODD : ∃ t, mg "ODD" = some (.str "odd" t)
  g_FOE_parities : ∃ t, mg "FOE_parities" = some (.str "foe" t)
  g_ANSWER_parities : ∃ t, mg "ANSWER_parities" = some (.str "answer" t)
  g_PAIR_parities : ∃ t, mg "PAIR_parities" = some (.int 2 t)
  g_MOST_LINES : ∃ t, mg "MOST_LINES" = some (.int 30 t)
  g_MOST_NAMES : ∃ t, mg "MOST_NAMES" = some (.int 8 t)
  c_Reading : mg "Reading" = some (.ref (cl 0))
  sc_Reading : SCls K (cl 0)
  sl_Reading_own_answers : ∃ p, Slot1 K (cl 0) "own_answers" p 0
  sl_Reading_own_clauses : ∃ p, Slot1 K (cl 0) "own_clauses" p 1
  sl_Reading_own_foes : ∃ p, Slot1 K (cl 0) "own_foes" p 2
  c_Book : mg "Book" = some (.ref (cl 1))
  sc_Book : SCls K (cl 1)
  sl_Book_own_answers : ∃ p, Slot1 K (cl 1) "own_answers" p 0
  sl_Book_own_clauses : ∃ p, Slot1 K (cl 1) "own_clauses" p 1
  sl_Book_own_foes : ∃ p, Slot1 K (cl 1) "own_foes" p 2
  sl_Book_own_text : ∃ p, Slot1 K (cl 1) "own_text" p 3
  c_Parities : mg "Parities" = some (.ref (cl 2))
  sc_Parities : SCls K (cl 2)
  sl_Parities_own_bare : ∃ p, Slot1 K (cl 2) "own_bare" p 0
  sl_Parities_own_lines : ∃ p, Slot1 K (cl 2) "own_lines" p 1
  sl_Parities_own_text : ∃ p, Slot1 K (cl 2) "own_text" p 2
  c_Sums : mg "Sums" = some (.ref (cl 3))
  sc_Sums : SCls K (cl 3)
  sl_Sums_own_clash : ∃ p, Slot1 K (cl 3) "own_clash" p 0
  sl_Sums_own_firsts : ∃ p, Slot1 K (cl 3) "own_firsts" p 1
  sl_Sums_own_places : ∃ p, Slot1 K (cl 3) "own_places" p 2
end K51
set_option maxRecDepth 100000
set_option maxHeartbeats 0
namespace K51
open PySem PySem.Spec PyProof.Rows L2 SlX DL He HDF
def fb0 : List Fb := [.fa (.free "ValueError"), .fa (.free "abs"), .fa (.free "all"), .fa (.free "bool"), .fa (.free "dict"), .fa (.free "enumerate"), .fa (.free "int"), .fa (.free "isinstance"), .fa (.free "len"), .fa (.free "list"), .fa (.free "max"), .fa (.free "min"), .fa (.free "property"), .fa (.free "range"), .fa (.free "set"), .fa (.free "sorted"), .fa (.free "str"), .fa (.free "sum"), .fa (.free "super"), .fa (.free "tuple"), .fa (.free "zip"), .fa (.str "FEED_checks" "\n"), .fa (.str "BLANK_checks" " "), .fa (.str "LETTERS" "abcdefghijklmnopqrstuvwxyz"), .fa (.int "MOST_LETTERS" 6), .fa (.str "BLANK_books" " "), .fa (.str "FEED_books" "\n"), .fa (.str "MINUS" "-"), .fa (.str "BOOK" "book"), .fa (.str "FOE_books" "foe"), .fa (.str "ANSWER_books" "answer"), .fa (.str "CLAUSE" "clause"), .fa (.int "PAIR_books" 2), .fa (.int "MOST_FOES" 6), .fa (.int "MOST_ANSWERS" 6), .fa (.int "MOST_CLAUSES" 30), .fa (.int "MOST_LITERALS" 8), .fa (.int "MOST_CELLS" 64), .fa (.str "PARITIES" "parities"), .fa (.str "EVEN" "even"), .fa (.str "ODD" "odd"), .fa (.str "FOE_parities" "foe"), .fa (.str "ANSWER_parities" "answer"), .fa (.int "PAIR_parities" 2), .fa (.int "MOST_LINES" 30), .fa (.int "MOST_NAMES" 8), .fa (.glo "Reading"), .sc "Reading", .sl "Reading" "own_answers" 0, .sl "Reading" "own_clauses" 1, .sl "Reading" "own_foes" 2, .fa (.glo "Book"), .sc "Book", .sl "Book" "own_answers" 0, .sl "Book" "own_clauses" 1, .sl "Book" "own_foes" 2, .sl "Book" "own_text" 3, .fa (.glo "Parities"), .sc "Parities", .sl "Parities" "own_bare" 0, .sl "Parities" "own_lines" 1, .sl "Parities" "own_text" 2, .fa (.glo "Sums"), .sc "Sums", .sl "Sums" "own_clash" 0, .sl "Sums" "own_firsts" 1, .sl "Sums" "own_places" 2, .fa (.glo "is_name"), .fa (.glo "lines_of"), .fa (.glo "many_cells"), .fa (.mkr "Reading"), .fa (.meth "Reading" "all_names"), .fa (.meth "Reading" "can_name"), .fa (.meth "Reading" "put_foe"), .fa (.meth "Reading" "put_answer"), .fa (.meth "Reading" "put_line"), .fa (.glo "reading_of"), .fa (.mkr "Book"), .pr "Book" "foes", .pr "Book" "answers", .fa (.glo "head_rows"), .fa (.glo "book_of"), .fa (.glo "parity_line_in"), .fa (.glo "parities_in"), .fa (.mkr "Parities"), .pr "Parities" "foes", .pr "Parities" "answers", .fa (.glo "all_rows"), .fa (.glo "settings"), .fa (.glo "cells"), .fa (.glo "seen_by"), .fa (.glo "cell_of"), .fa (.glo "written_line"), .fa (.glo "written_rows"), .fa (.mkr "Sums"), .fa (.meth "Sums" "put"), .fa (.glo "summed"), .fa (.glo "plans_of"), .fa (.glo "_law_pot"), .fa (.glo "_law_take"), .fa (.glo "_law_of"), .fa (.glo "_law_some"), .fa (.glo "_law_cells"), .fa (.glo "_law_is_int"), .fa (.glo "_law_book_names"), .fa (.glo "_law_book_rows"), .fa (.glo "_law_book_settings"), .fa (.glo "_law_book_cells"), .fa (.glo "_law_book_looks"), .fa (.glo "_law_book_cell_at"), .fa (.glo "_law_par_text"), .fa (.glo "_law_par_written"), .fa (.glo "_law_par_rows"), .fa (.glo "_law_par_added"), .fa (.glo "_law_par_many"), .fa (.glo "_law_plan_all"), .fa (.glo "_law_book_drawn"), .fa (.glo "_law_par_drawn"), .fa (.glo "_law_is_told_right"), .fa (.glo "_law_right"), .fa (.glo "law")]
abbrev fbs : List Fb := fb0
def d_is_name : Df := ⟨.glo "is_name", "is_name", "is_name", defArgs (topS 11), defBody (topS 11), defScope (topS 11)⟩
def d_lines_of : Df := ⟨.glo "lines_of", "lines_of", "lines_of", defArgs (topS 12), defBody (topS 12), defScope (topS 12)⟩
def d_many_cells : Df := ⟨.glo "many_cells", "many_cells", "many_cells", defArgs (topS 35), defBody (topS 35), defScope (topS 35)⟩
def d_Reading_init : Df := ⟨.meth "Reading" "__init__", "__init__", "Reading.__init__", defArgs (clsS (topS 34) 1), defBody (clsS (topS 34) 1), defScope (clsS (topS 34) 1)⟩
def d_Reading_all_names : Df := ⟨.meth "Reading" "all_names", "all_names", "Reading.all_names", defArgs (clsS (topS 34) 2), defBody (clsS (topS 34) 2), defScope (clsS (topS 34) 2)⟩
def d_Reading_can_name : Df := ⟨.meth "Reading" "can_name", "can_name", "Reading.can_name", defArgs (clsS (topS 34) 3), defBody (clsS (topS 34) 3), defScope (clsS (topS 34) 3)⟩
def d_Reading_put_foe : Df := ⟨.meth "Reading" "put_foe", "put_foe", "Reading.put_foe", defArgs (clsS (topS 34) 4), defBody (clsS (topS 34) 4), defScope (clsS (topS 34) 4)⟩
def d_Reading_put_answer : Df := ⟨.meth "Reading" "put_answer", "put_answer", "Reading.put_answer", defArgs (clsS (topS 34) 5), defBody (clsS (topS 34) 5), defScope (clsS (topS 34) 5)⟩
def d_Reading_put_line : Df := ⟨.meth "Reading" "put_line", "put_line", "Reading.put_line", defArgs (clsS (topS 34) 7), defBody (clsS (topS 34) 7), defScope (clsS (topS 34) 7)⟩
def d_reading_of : Df := ⟨.glo "reading_of", "reading_of", "reading_of", defArgs (topS 37), defBody (topS 37), defScope (topS 37)⟩
def d_Book_init : Df := ⟨.meth "Book" "__init__", "__init__", "Book.__init__", defArgs (clsS (topS 38) 1), defBody (clsS (topS 38) 1), defScope (clsS (topS 38) 1)⟩
def d_Book_foes : Df := ⟨.prop "Book" "foes", "foes", "Book.foes", defArgs (clsS (topS 38) 3), defBody (clsS (topS 38) 3), defScope (clsS (topS 38) 3)⟩
def d_Book_answers : Df := ⟨.prop "Book" "answers", "answers", "Book.answers", defArgs (clsS (topS 38) 4), defBody (clsS (topS 38) 4), defScope (clsS (topS 38) 4)⟩
def d_head_rows : Df := ⟨.glo "head_rows", "head_rows", "head_rows", defArgs (topS 39), defBody (topS 39), defScope (topS 39)⟩
def d_book_of : Df := ⟨.glo "book_of", "book_of", "book_of", defArgs (topS 40), defBody (topS 40), defScope (topS 40)⟩
def d_parity_line_in : Df := ⟨.glo "parity_line_in", "parity_line_in", "parity_line_in", defArgs (topS 56), defBody (topS 56), defScope (topS 56)⟩
def d_parities_in : Df := ⟨.glo "parities_in", "parities_in", "parities_in", defArgs (topS 57), defBody (topS 57), defScope (topS 57)⟩
def d_Parities_init : Df := ⟨.meth "Parities" "__init__", "__init__", "Parities.__init__", defArgs (clsS (topS 58) 1), defBody (clsS (topS 58) 1), defScope (clsS (topS 58) 1)⟩
def d_Parities_foes : Df := ⟨.prop "Parities" "foes", "foes", "Parities.foes", defArgs (clsS (topS 58) 3), defBody (clsS (topS 58) 3), defScope (clsS (topS 58) 3)⟩
def d_Parities_answers : Df := ⟨.prop "Parities" "answers", "answers", "Parities.answers", defArgs (clsS (topS 58) 4), defBody (clsS (topS 58) 4), defScope (clsS (topS 58) 4)⟩
def d_all_rows : Df := ⟨.glo "all_rows", "all_rows", "all_rows", defArgs (topS 41), defBody (topS 41), defScope (topS 41)⟩
def d_settings : Df := ⟨.glo "settings", "settings", "settings", defArgs (topS 42), defBody (topS 42), defScope (topS 42)⟩
def d_cells : Df := ⟨.glo "cells", "cells", "cells", defArgs (topS 43), defBody (topS 43), defScope (topS 43)⟩
def d_seen_by : Df := ⟨.glo "seen_by", "seen_by", "seen_by", defArgs (topS 45), defBody (topS 45), defScope (topS 45)⟩
def d_cell_of : Df := ⟨.glo "cell_of", "cell_of", "cell_of", defArgs (topS 46), defBody (topS 46), defScope (topS 46)⟩
def d_written_line : Df := ⟨.glo "written_line", "written_line", "written_line", defArgs (topS 59), defBody (topS 59), defScope (topS 59)⟩
def d_written_rows : Df := ⟨.glo "written_rows", "written_rows", "written_rows", defArgs (topS 60), defBody (topS 60), defScope (topS 60)⟩
def d_Sums_init : Df := ⟨.meth "Sums" "__init__", "__init__", "Sums.__init__", defArgs (clsS (topS 61) 1), defBody (clsS (topS 61) 1), defScope (clsS (topS 61) 1)⟩
def d_Sums_put : Df := ⟨.meth "Sums" "put", "put", "Sums.put", defArgs (clsS (topS 61) 2), defBody (clsS (topS 61) 2), defScope (clsS (topS 61) 2)⟩
def d_summed : Df := ⟨.glo "summed", "summed", "summed", defArgs (topS 62), defBody (topS 62), defScope (topS 62)⟩
def d_plans_of : Df := ⟨.glo "plans_of", "plans_of", "plans_of", defArgs (topS 63), defBody (topS 63), defScope (topS 63)⟩
def d__law_pot : Df := ⟨.glo "_law_pot", "_law_pot", "_law_pot", defArgs (topS 65), defBody (topS 65), defScope (topS 65)⟩
def d__law_take : Df := ⟨.glo "_law_take", "_law_take", "_law_take", defArgs (topS 66), defBody (topS 66), defScope (topS 66)⟩
def d__law_of : Df := ⟨.glo "_law_of", "_law_of", "_law_of", defArgs (topS 67), defBody (topS 67), defScope (topS 67)⟩
def d__law_some : Df := ⟨.glo "_law_some", "_law_some", "_law_some", defArgs (topS 68), defBody (topS 68), defScope (topS 68)⟩
def d__law_cells : Df := ⟨.glo "_law_cells", "_law_cells", "_law_cells", defArgs (topS 69), defBody (topS 69), defScope (topS 69)⟩
def d__law_is_int : Df := ⟨.glo "_law_is_int", "_law_is_int", "_law_is_int", defArgs (topS 70), defBody (topS 70), defScope (topS 70)⟩
def d__law_book_names : Df := ⟨.glo "_law_book_names", "_law_book_names", "_law_book_names", defArgs (topS 71), defBody (topS 71), defScope (topS 71)⟩
def d__law_book_rows : Df := ⟨.glo "_law_book_rows", "_law_book_rows", "_law_book_rows", defArgs (topS 72), defBody (topS 72), defScope (topS 72)⟩
def d__law_book_settings : Df := ⟨.glo "_law_book_settings", "_law_book_settings", "_law_book_settings", defArgs (topS 73), defBody (topS 73), defScope (topS 73)⟩
def d__law_book_cells : Df := ⟨.glo "_law_book_cells", "_law_book_cells", "_law_book_cells", defArgs (topS 74), defBody (topS 74), defScope (topS 74)⟩
def d__law_book_looks : Df := ⟨.glo "_law_book_looks", "_law_book_looks", "_law_book_looks", defArgs (topS 75), defBody (topS 75), defScope (topS 75)⟩
def d__law_book_cell_at : Df := ⟨.glo "_law_book_cell_at", "_law_book_cell_at", "_law_book_cell_at", defArgs (topS 76), defBody (topS 76), defScope (topS 76)⟩
def d__law_par_text : Df := ⟨.glo "_law_par_text", "_law_par_text", "_law_par_text", defArgs (topS 81), defBody (topS 81), defScope (topS 81)⟩
def d__law_par_written : Df := ⟨.glo "_law_par_written", "_law_par_written", "_law_par_written", defArgs (topS 82), defBody (topS 82), defScope (topS 82)⟩
def d__law_par_rows : Df := ⟨.glo "_law_par_rows", "_law_par_rows", "_law_par_rows", defArgs (topS 83), defBody (topS 83), defScope (topS 83)⟩
def d__law_par_added : Df := ⟨.glo "_law_par_added", "_law_par_added", "_law_par_added", defArgs (topS 84), defBody (topS 84), defScope (topS 84)⟩
def d__law_par_many : Df := ⟨.glo "_law_par_many", "_law_par_many", "_law_par_many", defArgs (topS 85), defBody (topS 85), defScope (topS 85)⟩
def d__law_plan_all : Df := ⟨.glo "_law_plan_all", "_law_plan_all", "_law_plan_all", defArgs (topS 79), defBody (topS 79), defScope (topS 79)⟩
def d__law_book_drawn : Df := ⟨.glo "_law_book_drawn", "_law_book_drawn", "_law_book_drawn", defArgs (topS 78), defBody (topS 78), defScope (topS 78)⟩
def d__law_par_drawn : Df := ⟨.glo "_law_par_drawn", "_law_par_drawn", "_law_par_drawn", defArgs (topS 80), defBody (topS 80), defScope (topS 80)⟩
def d__law_is_told_right : Df := ⟨.glo "_law_is_told_right", "_law_is_told_right", "_law_is_told_right", defArgs (topS 86), defBody (topS 86), defScope (topS 86)⟩
def d__law_right : Df := ⟨.glo "_law_right", "_law_right", "_law_right", defArgs (topS 87), defBody (topS 87), defScope (topS 87)⟩
def d_law : Df := ⟨.glo "law", "law", "law", defArgs (topS 88), defBody (topS 88), defScope (topS 88)⟩
def fn0 : List Df := [d_is_name, d_lines_of, d_many_cells, d_Reading_init, d_Reading_all_names, d_Reading_can_name, d_Reading_put_foe, d_Reading_put_answer, d_Reading_put_line, d_reading_of, d_Book_init, d_Book_foes, d_Book_answers, d_head_rows, d_book_of, d_parity_line_in, d_parities_in, d_Parities_init, d_Parities_foes, d_Parities_answers, d_all_rows, d_settings, d_cells, d_seen_by, d_cell_of, d_written_line, d_written_rows, d_Sums_init, d_Sums_put, d_summed, d_plans_of, d__law_pot, d__law_take, d__law_of, d__law_some, d__law_cells, d__law_is_int, d__law_book_names, d__law_book_rows, d__law_book_settings, d__law_book_cells, d__law_book_looks, d__law_book_cell_at, d__law_par_text, d__law_par_written, d__law_par_rows, d__law_par_added, d__law_par_many, d__law_plan_all, d__law_book_drawn, d__law_par_drawn, d__law_is_told_right, d__law_right, d_law]
abbrev fns : List Df := fn0
def nm0 : List Str := ["_wall", "is_whole", "FEED_checks", "BLANK_checks", "LETTERS", "MOST_LETTERS", "is_integer", "is_tuple", "is_string", "is_name", "lines_of", "LooksError", "BadBook", "BadParities", "BLANK_books", "FEED_books", "MINUS", "BOOK", "FOE_books", "ANSWER_books", "CLAUSE", "PAIR_books", "MOST_FOES", "MOST_ANSWERS", "MOST_CLAUSES", "MOST_LITERALS", "MOST_CELLS", "literal_in", "literal_word", "are_unlike"]
def nm1 : List Str := ["Reading", "many_cells", "is_clause", "reading_of", "Book", "head_rows", "book_of", "all_rows", "settings", "cells", "seen_by", "cell_of", "PARITIES", "EVEN", "ODD", "FOE_parities", "ANSWER_parities", "PAIR_parities", "MOST_LINES", "MOST_NAMES", "parity_line_in", "parities_in", "Parities", "written_line", "written_rows", "Sums", "summed", "plans_of", "_law_pot", "_law_take"]
def nm2 : List Str := ["_law_of", "_law_some", "_law_cells", "_law_is_int", "_law_book_names", "_law_book_rows", "_law_book_settings", "_law_book_cells", "_law_book_looks", "_law_book_cell_at", "_law_book_clause_drawn", "_law_book_drawn", "_law_plan_all", "_law_par_drawn", "_law_par_text", "_law_par_written", "_law_par_rows", "_law_par_added", "_law_par_many", "_law_is_told_right", "_law_right"]
def nms : List Str := nm0 ++ nm1 ++ nm2
abbrev RO : PySem.W.OpenRow := PySem.W.OpenLaw.row PySem.Challenge.rw_looksonlythere_k51_whole_numbers_of_plan
abbrev hk : PySem.W.Hook := hookH 5 fbs fns
def ob (s : PySem.W.SharedT) : AlH := obsHG 5 fbs fns (HandSHeadRun.getT s)
theorem ob_eq (s : PySem.W.SharedT) : ob s = hk.obs s.abs := obsHG_eq (HandSHeadRun.getT_eq s)
theorem sees (w : World) : SeesAt RO (PySem.W.view RO.prog [88]) 20000 nms w := by
  intro os
  kernel_rfl
theorem tell0 (w : World) : FactsAt RO 5 20000 fb0 fn0 w := by
  intro os
  kernel_rfl
theorem run (w : World) : HandSHeadRun.RunEq RO (PySem.W.view RO.prog [88]) hk ob 20000 nms w := run_join (sees w) (tell0 w)
def clF (K : PySem.W.Frag) (i : Nat) : Addr := ga K ((["Reading", "Book", "Parities", "Sums"] : List Str).getD i "")
theorem tx_of {K : PySem.W.Frag} {h : Heap} {mg : Str → Option Value} (X : K.In h) (G : h.Ns mainGlobals mg) (c : SaysH fbs fns K) : Tx K mg (clF K) where
  b_ValueError := free_ X G (c.fact 0)
  b_abs := free_ X G (c.fact 1)
  b_all := free_ X G (c.fact 2)
  b_bool := free_ X G (c.fact 3)
  b_dict := free_ X G (c.fact 4)
  b_enumerate := free_ X G (c.fact 5)
  b_int := free_ X G (c.fact 6)
  b_isinstance := free_ X G (c.fact 7)
  b_len := free_ X G (c.fact 8)
  b_list := free_ X G (c.fact 9)
  b_max := free_ X G (c.fact 10)
  b_min := free_ X G (c.fact 11)
  b_property := free_ X G (c.fact 12)
  b_range := free_ X G (c.fact 13)
  b_set := free_ X G (c.fact 14)
  b_sorted := free_ X G (c.fact 15)
  b_str := free_ X G (c.fact 16)
  b_sum := free_ X G (c.fact 17)
  b_super := free_ X G (c.fact 18)
  b_tuple := free_ X G (c.fact 19)
  b_zip := free_ X G (c.fact 20)
  g_FEED_checks := str_ X G (c.fact 21)
  g_BLANK_checks := str_ X G (c.fact 22)
  g_LETTERS := str_ X G (c.fact 23)
  g_MOST_LETTERS := int_ X G (c.fact 24)
  g_BLANK_books := str_ X G (c.fact 25)
  g_FEED_books := str_ X G (c.fact 26)
  g_MINUS := str_ X G (c.fact 27)
  g_BOOK := str_ X G (c.fact 28)
  g_FOE_books := str_ X G (c.fact 29)
  g_ANSWER_books := str_ X G (c.fact 30)
  g_CLAUSE := str_ X G (c.fact 31)
  g_PAIR_books := int_ X G (c.fact 32)
  g_MOST_FOES := int_ X G (c.fact 33)
  g_MOST_ANSWERS := int_ X G (c.fact 34)
  g_MOST_CLAUSES := int_ X G (c.fact 35)
  g_MOST_LITERALS := int_ X G (c.fact 36)
  g_MOST_CELLS := int_ X G (c.fact 37)
  g_PARITIES := str_ X G (c.fact 38)
  g_EVEN := str_ X G (c.fact 39)
  g_ODD := str_ X G (c.fact 40)
  g_FOE_parities := str_ X G (c.fact 41)
  g_ANSWER_parities := str_ X G (c.fact 42)
  g_PAIR_parities := int_ X G (c.fact 43)
  g_MOST_LINES := int_ X G (c.fact 44)
  g_MOST_NAMES := int_ X G (c.fact 45)
  c_Reading := glo_ X G (c.fact 46)
  sc_Reading := sc_ (c.fact 47)
  sl_Reading_own_answers := sl_ (c.fact 48)
  sl_Reading_own_clauses := sl_ (c.fact 49)
  sl_Reading_own_foes := sl_ (c.fact 50)
  c_Book := glo_ X G (c.fact 51)
  sc_Book := sc_ (c.fact 52)
  sl_Book_own_answers := sl_ (c.fact 53)
  sl_Book_own_clauses := sl_ (c.fact 54)
  sl_Book_own_foes := sl_ (c.fact 55)
  sl_Book_own_text := sl_ (c.fact 56)
  c_Parities := glo_ X G (c.fact 57)
  sc_Parities := sc_ (c.fact 58)
  sl_Parities_own_bare := sl_ (c.fact 59)
  sl_Parities_own_lines := sl_ (c.fact 60)
  sl_Parities_own_text := sl_ (c.fact 61)
  c_Sums := glo_ X G (c.fact 62)
  sc_Sums := sc_ (c.fact 63)
  sl_Sums_own_clash := sl_ (c.fact 64)
  sl_Sums_own_firsts := sl_ (c.fact 65)
  sl_Sums_own_places := sl_ (c.fact 66)
end K51
set_option maxRecDepth 100000
set_option maxHeartbeats 4000000
namespace K51
open PySem PySem.Spec PyProof.Rows L2 SlX DL
abbrev An := List (Str × List Str)
def ansD (A : An) : List Dat := A.map fun q => .tup [.v (.str q.1), .tup (dSs q.2)]
def manyN (A : An) : Nat := (A.map fun q => 2 ^ q.2.length).sum
def isName (s : Str) : Bool := decide (1 ≤ s.length) && decide (s.length ≤ 6) && s.cps.toList.all fun c => decide (c ∈ ("abcdefghijklmnopqrstuvwxyz" : Str).cps.toList)
theorem okS_name {s : Str} (h : isName s = true) : okS s := by
  unfold isName at h
  simp only [Bool.and_eq_true] at h
  unfold okS PyData.strOk
  rw [Array.all_eq_true']
  intro c hc
  have h2 := List.all_eq_true.mp h.2 c (Array.mem_toList_iff.mpr hc)
  have h3 : c ∈ ("abcdefghijklmnopqrstuvwxyz" : Str).cps.toList := by simpa using h2
  have h4 : (("abcdefghijklmnopqrstuvwxyz" : Str).cps.toList.all fun c => decide (c < 1114112)) = true := by decide +kernel
  exact List.all_eq_true.mp h4 c h3
theorem len_name {s : Str} (h : isName s = true) : s.length ≤ 6 := by
  unfold isName at h
  simp only [Bool.and_eq_true, decide_eq_true_eq] at h
  exact h.1.2
/-- foes and answers that stand in a text -/
structure Good (F : List Str) (A : An) : Prop where
  f6 : F.length ≤ 6
  a1 : A ≠ []
  a6 : A.length ≤ 6
  names : ∀ n ∈ F ++ A.map (·.1), isName n = true
  nodup : (F ++ A.map (·.1)).Nodup
  looks : ∀ q ∈ A, q.2 = F.filter fun f => decide (f ∈ q.2)
  many : manyN A ≤ 64
section
variable {F : List Str} {A : An}
theorem Good.foe (g : Good F A) {f : Str} (h : f ∈ F) : isName f = true := g.names f (List.mem_append_left _ h)
theorem Good.ans (g : Good F A) {q : Str × List Str} (h : q ∈ A) : isName q.1 = true := g.names q.1 (List.mem_append_right _ (List.mem_map_of_mem h))
theorem Good.okF (g : Good F A) : okSs F := fun w h => okS_name (g.foe h)
theorem Good.sub (g : Good F A) {q : Str × List Str} (h : q ∈ A) : ∀ v ∈ q.2, v ∈ F := fun v hv => by
  rw [g.looks q h] at hv
  exact (List.mem_filter.mp hv).1
theorem Good.okL (g : Good F A) {q : Str × List Str} (h : q ∈ A) : okSs q.2 := okSs_sub g.okF (g.sub h)
theorem Good.lenL (g : Good F A) {q : Str × List Str} (h : q ∈ A) : q.2.length ≤ 6 := by
  rw [g.looks q h]
  exact Nat.le_trans (List.length_filter_le _ _) g.f6
theorem manyN_append {A B : An} : manyN (A ++ B) = manyN A + manyN B := by simp [manyN]
theorem Good.foeAt (g : Good F A) {i : Nat} {f : Str} (h : F[i]? = some f) : f ∉ F.take i ∧ (F.take i).length < 6 := by
  obtain ⟨h1, h2⟩ := List.getElem?_eq_some_iff.mp h
  have nd : F.Nodup := (List.nodup_append.mp g.nodup).1
  refine ⟨fun hm => ?_, ?_⟩
  · rw [← List.take_append_drop i F] at nd
    refine (List.nodup_append.mp nd).2.2 _ hm _ ?_ rfl
    rw [List.drop_eq_getElem_cons h1, h2]
    exact List.mem_cons_self
  · rw [List.length_take]; have := g.f6; omega
theorem take_snoc {α : Type} {xs : List α} {i : Nat} {x : α} (h : xs[i]? = some x) : xs.take (i + 1) = xs.take i ++ [x] := by
  obtain ⟨h1, h2⟩ := List.getElem?_eq_some_iff.mp h
  rw [← List.take_append_getElem h1, h2]
theorem Good.ansAt (g : Good F A) {i : Nat} {q : Str × List Str} (h : A[i]? = some q) : q.1 ∉ F ++ (A.take i).map (·.1) ∧ (A.take i).length < 6 ∧ manyN (A.take i ++ [q]) ≤ 64 := by
  obtain ⟨h1, h2⟩ := List.getElem?_eq_some_iff.mp h
  refine ⟨fun hm => ?_, ?_, ?_⟩
  · have hq : q ∈ A := h2 ▸ List.getElem_mem h1
    have e : A.map (·.1) = (A.take i).map (·.1) ++ (A.drop i).map (·.1) := by rw [← List.map_append, List.take_append_drop]
    have nd := g.nodup
    rw [e, ← List.append_assoc] at nd
    refine (List.nodup_append.mp nd).2.2 _ hm _ ?_ rfl
    refine List.mem_map_of_mem ?_
    rw [List.drop_eq_getElem_cons h1, h2]
    exact List.mem_cons_self
  · rw [List.length_take]; have := g.a6; omega
  · rw [← take_snoc h]
    have := g.many
    rw [← List.take_append_drop (i + 1) A, manyN_append] at this
    omega
/-- the rows of the heads -/
def headRows (F : List Str) (A : An) : List (List Str) := F.map (fun f => [("foe" : Str), f]) ++ A.map (fun q => ("answer" : Str) :: q.1 :: q.2)
def pdA (A : An) : List PyData := A.map fun q => .tuple [.str q.1, .tuple (q.2.map .str)]
theorem pdFs_ans (A : An) : pdFs (ansD A) = some (pdA A) := by
  induction A with
  | nil => rfl
  | cons q A ih =>
    show pdFs (.tup [.v (.str q.1), .tup (dSs q.2)] :: ansD A) = _
    unfold pdFs
    rw [ih]
    have e : pdF (.tup [.v (.str q.1), .tup (dSs q.2)]) = some (.tuple [.str q.1, .tuple (q.2.map .str)]) := by
      unfold pdF
      simp only [pdFs, pdF, pdFs_strs]
      rfl
    rw [e]
    rfl
theorem shaped_pdA (h : ∀ q ∈ A, okS q.1 ∧ okSs q.2) : SeqAt.shaped (.list (pdA A)) = true := by
  have h1 : PyData.canLayAll0 (pdA A) = true ∧ PyData.depthAll (pdA A) ≤ 2 := by
    induction A with
    | nil => exact ⟨rfl, by decide⟩
    | cons q A ih =>
      obtain ⟨i1, i2⟩ := ih fun x hx => h x (List.mem_cons_of_mem _ hx)
      obtain ⟨o1, o2⟩ := h q List.mem_cons_self
      have e : pdA (q :: A) = .tuple [.str q.1, .tuple (q.2.map .str)] :: pdA A := rfl
      rw [e]
      refine ⟨?_, ?_⟩
      · simp only [PyData.canLayAll0, PyData.canLay0, canAll_strs o2, i1, Bool.and_true]
        exact o1
      · simp only [PyData.depthAll, PyData.depth, depthAll_strs]
        omega
  unfold SeqAt.shaped
  obtain ⟨h1, h2⟩ := h1
  have e1 : (PyData.list (pdA A)).canLay0 = true := by unfold PyData.canLay0; exact h1
  have e2 : (PyData.list (pdA A)).depth ≤ 64 := by unfold PyData.depth; omega
  rw [e1, decide_eq_true e2]
  rfl
end
end K51
set_option maxRecDepth 100000
set_option maxHeartbeats 4000000
namespace K51
open PySem PySem.Spec PyProof.Rows L2 SlX DL
open TL
/-- a word: without blanks and line feeds, short -/
structure Wd (w : Str) : Prop where
  b : 32 ∉ tl w
  n : 10 ∉ tl w
  l : w.length ≤ 10
def lineOf (r : List Str) : Str := Txt.join " " r
def textOf (rs : List (List Str)) : Str := Txt.join "\n" (rs.map lineOf)
theorem join_len (sep : Str) (ws : List Str) (n : Nat) (h : ∀ w ∈ ws, w.length ≤ n) : (Txt.join sep ws).length ≤ ws.length * (n + sep.length) := by
  rw [join_eq]
  refine Nat.le_trans (StrLaws.join_length_le sep ws) ?_
  have : (ws.map (·.length)).sum ≤ ws.length * n := by
    clear sep
    induction ws with
    | nil => simp
    | cons w ws ih =>
      have h1 := h w List.mem_cons_self
      have h2 := ih fun v hv => h v (List.mem_cons_of_mem _ hv)
      simp only [List.map_cons, List.sum_cons, List.length_cons, Nat.add_mul, Nat.one_mul]
      omega
  rw [Nat.mul_add]
  omega
theorem join_sum (sep : Str) (ws : List Str) (n : Nat) (h : ∀ w ∈ ws, w.length ≤ n) : (ws.map (·.length)).sum ≤ ws.length * n := by
  induction ws with
  | nil => simp
  | cons w ws ih =>
    have h1 := h w List.mem_cons_self
    have h2 := ih fun v hv => h v (List.mem_cons_of_mem _ hv)
    simp only [List.map_cons, List.sum_cons, List.length_cons, Nat.add_mul, Nat.one_mul]
    omega
theorem i_join {M : Mem} {Φ : Dat → Mem → Prop} {a : Str} {d : Dat} (ys : List Str) (n : Nat) (h1 : seqV M d = some (dSs ys)) (h : ∀ w ∈ ys, w.length ≤ n) (hz : ys.length * n + ys.length * a.length ≤ 16777216) (k : Φ (.v (.str (Txt.join a ys))) M) : oJoin (.v (.str a)) [d] M Φ :=
  ⟨a, d, ys, rfl, rfl, h1, Nat.le_trans (Nat.add_le_add_right (join_sum a ys n h) _) hz, k⟩
theorem i_line {M : Mem} {Φ : Dat → Mem → Prop} {d : Dat} (ys : List Str) (h1 : seqV M d = some (dSs ys)) (h : ∀ w ∈ ys, Wd w) (hz : ys.length ≤ 20) (k : Φ (.v (.str (lineOf ys))) M) : oJoin (.v (.str (" " : Str))) [d] M Φ :=
  i_join ys 10 h1 (fun w hw => (h w hw).l) (by have e : (" " : Str).length = 1 := by decide +kernel
                                               rw [e]; omega) k
theorem mem_joinL {S : List Nat} {c : Nat} : ∀ {parts : List (List Nat)}, c ∈ joinL S parts → c ∈ S ∨ ∃ p ∈ parts, c ∈ p
  | [], h => by simp [joinL] at h
  | [p], h => .inr ⟨p, List.mem_singleton.mpr rfl, h⟩
  | p :: q :: r, h => by
    have h' : c ∈ p ++ (S ++ joinL S (q :: r)) := h
    rcases List.mem_append.mp h' with h1 | h1
    · exact .inr ⟨p, List.mem_cons_self, h1⟩
    · rcases List.mem_append.mp h1 with h2 | h2
      · exact .inl h2
      · rcases mem_joinL h2 with h3 | ⟨x, hx, h3⟩
        · exact .inl h3
        · exact .inr ⟨x, List.mem_cons_of_mem _ hx, h3⟩
theorem mem_line {c : Nat} {r : List Str} (h : c ∈ tl (lineOf r)) : c = 32 ∨ ∃ w ∈ r, c ∈ tl w := by
  unfold lineOf at h
  rw [join_eq, tl_join] at h
  rcases mem_joinL h with h1 | ⟨p, hp, h1⟩
  · left
    have : tl (" " : Str) = [32] := by decide +kernel
    rw [this] at h1
    simpa using h1
  · obtain ⟨w, hw, rfl⟩ := List.mem_map.mp hp
    exact .inr ⟨w, hw, h1⟩
theorem split_line {r : List Str} (h0 : r ≠ []) (h : ∀ w ∈ r, Wd w) : Txt.split (lineOf r) " " = r :=
  split_join (s := 32) (S := []) (by decide +kernel) (by decide +kernel) h0 fun w hw => (h w hw).b
theorem split_text {rs : List (List Str)} (h0 : rs ≠ []) (h : ∀ r ∈ rs, ∀ w ∈ r, Wd w) : Txt.split (textOf rs) "\n" = rs.map lineOf := by
  refine split_join (s := 10) (S := []) (by decide +kernel) (by decide +kernel) (by simpa using h0) fun l hl hm => ?_
  obtain ⟨r, hr, rfl⟩ := List.mem_map.mp hl
  rcases mem_line hm with e | ⟨w, hw, h1⟩
  · cases e
  · exact (h r hr w hw).n h1
theorem line_len {r : List Str} (h : ∀ w ∈ r, Wd w) (hl : r.length ≤ 20) : (lineOf r).length ≤ 220 := by
  have := join_len (" " : Str) r 10 fun w hw => (h w hw).l
  have e : (" " : Str).length = 1 := by decide +kernel
  rw [e] at this
  unfold lineOf
  omega
theorem text_len {rs : List (List Str)} (h : ∀ r ∈ rs, (∀ w ∈ r, Wd w) ∧ r.length ≤ 20) (hl : rs.length ≤ 100) : (textOf rs).length ≤ 22100 := by
  have := join_len ("\n" : Str) (rs.map lineOf) 220 fun l hl => by
    obtain ⟨r, hr, rfl⟩ := List.mem_map.mp hl
    exact line_len (h r hr).1 (h r hr).2
  have e : ("\n" : Str).length = 1 := by decide +kernel
  rw [e, List.length_map] at this
  unfold textOf
  omega
theorem wd_name {s : Str} (h : isName s = true) : Wd s := by
  unfold isName at h
  simp only [Bool.and_eq_true, decide_eq_true_eq] at h
  obtain ⟨⟨_, h2⟩, h3⟩ := h
  have key : ∀ c ∈ tl s, c ≠ 32 ∧ c ≠ 10 := fun c hc => by
    have h4 := List.all_eq_true.mp h3 c hc
    have h5 : c ∈ ("abcdefghijklmnopqrstuvwxyz" : Str).cps.toList := by simpa using h4
    have h6 : (("abcdefghijklmnopqrstuvwxyz" : Str).cps.toList.all fun c => decide (c ≠ 32 ∧ c ≠ 10)) = true := by decide +kernel
    simpa using List.all_eq_true.mp h6 c h5
  exact ⟨fun m => (key _ m).1 rfl, fun m => (key _ m).2 rfl, by omega⟩
theorem wd_lit {s : Str} (h : (decide (32 ∉ tl s) && decide (10 ∉ tl s) && decide (s.length ≤ 10)) = true) : Wd s := by
  simp only [Bool.and_eq_true, decide_eq_true_eq] at h
  exact ⟨h.1.1, h.1.2, h.2⟩
theorem wd_foe : Wd ("foe" : Str) := wd_lit (by decide +kernel)
theorem wd_answer : Wd ("answer" : Str) := wd_lit (by decide +kernel)
theorem wd_book : Wd ("book" : Str) := wd_lit (by decide +kernel)
theorem wd_parities : Wd ("parities" : Str) := wd_lit (by decide +kernel)
theorem wd_even : Wd ("even" : Str) := wd_lit (by decide +kernel)
theorem wd_odd : Wd ("odd" : Str) := wd_lit (by decide +kernel)
section
variable {F : List Str} {A : An}
theorem Good.rows (g : Good F A) : ∀ r ∈ headRows F A, r ≠ [] ∧ (∀ w ∈ r, Wd w) ∧ r.length ≤ 20 := by
  intro r hr
  unfold headRows at hr
  rcases List.mem_append.mp hr with h | h
  · obtain ⟨f, hf, rfl⟩ := List.mem_map.mp h
    refine ⟨by simp, fun w hw => ?_, by simp⟩
    rcases List.mem_cons.mp hw with rfl | hw
    · exact wd_foe
    · rw [List.mem_singleton.mp hw]; exact wd_name (g.foe hf)
  · obtain ⟨q, hq, rfl⟩ := List.mem_map.mp h
    refine ⟨by simp, fun w hw => ?_, by have := g.lenL hq; simp; omega⟩
    rcases List.mem_cons.mp hw with rfl | hw
    · exact wd_answer
    · rcases List.mem_cons.mp hw with rfl | hw
      · exact wd_name (g.ans hq)
      · exact wd_name (g.foe (g.sub hq w hw))
theorem headRows_len : (headRows F A).length = F.length + A.length := by simp [headRows]
/-- a text of rows is read as these rows -/
structure RdTxt (t : Str) (rs : List (List Str)) : Prop where
  sp : ∃ ls : List Str, Txt.split t "\n" = ls ∧ ls.map (fun l => Txt.split l " ") = rs ∧ ∀ l ∈ ls, l.length + 2 ≤ sizeLine
  sz : t.length + 2 ≤ sizeLine
theorem rdTxt {rs : List (List Str)} (h0 : rs ≠ []) (h : ∀ r ∈ rs, r ≠ [] ∧ (∀ w ∈ r, Wd w) ∧ r.length ≤ 20) (hl : rs.length ≤ 100) : RdTxt (textOf rs) rs := by
  refine ⟨⟨rs.map lineOf, split_text h0 fun r hr => (h r hr).2.1, ?_, fun l hl => ?_⟩, ?_⟩
  · rw [List.map_map]
    refine (List.map_congr_left fun r hr => ?_).trans (List.map_id rs)
    exact split_line (h r hr).1 (h r hr).2.1
  · obtain ⟨r, hr, rfl⟩ := List.mem_map.mp hl
    have := line_len (h r hr).2.1 (h r hr).2.2
    simp only [sizeLine]; omega
  · have := text_len (fun r hr => (h r hr).2) hl
    simp only [sizeLine]; omega
end
theorem i_text {M : Mem} {Φ : Dat → Mem → Prop} {d : Dat} (rs : List (List Str)) (h1 : seqV M d = some (dSs (rs.map lineOf))) (h : ∀ r ∈ rs, r ≠ [] ∧ (∀ w ∈ r, Wd w) ∧ r.length ≤ 20) (hz : rs.length ≤ 100) (k : Φ (.v (.str (textOf rs))) M) : oJoin (.v (.str ("\n" : Str))) [d] M Φ :=
  i_join (rs.map lineOf) 220 h1 (fun w hw => by
    obtain ⟨r, hr, rfl⟩ := List.mem_map.mp hw
    exact line_len (h r hr).2.1 (h r hr).2.2) (by have e : ("\n" : Str).length = 1 := by decide +kernel
                                                  rw [e, List.length_map]; omega) k
end K51
set_option maxRecDepth 100000
set_option maxHeartbeats 4000000
namespace K51
open PySem PySem.Spec PyProof.Rows L2 SlX DL
local macro_rules | `(tactic| walk_at "ok") => `(tactic| first | assumption | (show PyData.strOk _ = true; decide +kernel))
local macro_rules | `(tactic| walk_at "z") => `(tactic| first | assumption | (simp only [List.length_cons, List.length_nil, List.length_map, List.length_append, sizeLine] at *; omega))
local macro_rules | `(tactic| walk_at "m") => `(tactic| first | assumption | rfl | exact put_same | (simp [Mem.put, *]; done) | (simp [Mem.put, lstV, seqV, objV, dicV, *]; done))
local macro_rules | `(tactic| walk_at "nv") => `(tactic| (try simp only [startD, wipeD, List.map_cons, List.map_nil, List.length_cons, List.length_nil, Nat.reduceAdd, Nat.reduceSub, List.reduceReplicate, List.append_nil, List.cons_append, List.nil_append, List.set_cons_zero, List.set_cons_succ]))
local macro_rules | `(tactic| walk_at "d1") => `(tactic| first
  | ((with_reducible refine i_varI ?_); refine i_var rfl ?_)
  | with_reducible refine i_c ?_
  | with_reducible refine i_op ?_
  | with_reducible refine i_test ?_
  | with_reducible refine i_chain ?_
  | with_reducible refine i_and ?_
  | with_reducible refine i_or ?_
  | with_reducible refine i_not ?_
  | with_reducible refine i_andV ?_
  | with_reducible refine i_orV ?_
  | with_reducible refine i_notV ?_
  | with_reducible refine i_if ?_
  | with_reducible refine i_nil ?_
  | with_reducible refine i_lzip ?_
  | with_reducible refine i_oint ?_
  | with_reducible refine i_ointB ?_
  | with_reducible refine i_mod (by omega) ?_
  | with_reducible refine i_lits ?_
  | with_reducible refine i_get2 ?_
  | with_reducible refine i_bits ?_
  | with_reducible refine i_lrg ?_
  | with_reducible refine i_disp ?_
  | with_reducible refine i_pnil ?_
  | with_reducible refine i_pcons ?_
  | with_reducible refine i_ndw ?_
  | with_reducible refine i_calk ?_
  | with_reducible refine i_enumT ?_
  | with_reducible refine i_zipT ?_
  | with_reducible refine i_cons ?_
  | with_reducible refine i_star ?_
  | with_reducible refine i_tup ?_
  | with_reducible refine i_lst ?_
  | with_reducible refine i_szA (by walk_at "z") ?_
  | with_reducible refine i_szB (by walk_at "z") ?_
  | with_reducible refine i_cal ?_
  | with_reducible refine i_mt ?_
  | with_reducible refine i_m1 ?_
  | with_reducible refine i_fld ?_
  | with_reducible refine i_sl ?_
  | with_reducible refine i_noP ?_
  | with_reducible refine i_part ?_
  | with_reducible refine i_neg ?_
  | with_reducible refine i_meth ?_
  | with_reducible refine i_make ?_
  | with_reducible refine i_pro ?_
  | with_reducible refine i_lc ?_
  | with_reducible refine i_yes ?_
  | with_reducible refine i_next ?_
  | with_reducible refine i_seq ?_
  | with_reducible refine i_ret ?_
  | with_reducible refine i_drop ?_
  | with_reducible refine i_ifS ?_
  | ((with_reducible refine i_gname ?_); walk_at "nv")
  | ((with_reducible refine i_gtupI ?_); refine i_gtup rfl rfl ?_)
  | with_reducible refine i_gnil ?_
  | with_reducible refine i_gcons ?_
  | with_reducible refine i_asg ?_
  | ((with_reducible refine i_par ?_); walk_at "nv")
  | ((with_reducible refine i_par3 ?_); walk_at "nv")
  | with_reducible refine i_gsub ?_
  | with_reducible refine i_gfld ?_
  | with_reducible refine i_for ?_
  | with_reducible refine i_it ?_
  | with_reducible refine i_rng1 ?_
  | with_reducible refine i_enum ?_
  | with_reducible refine i_bl ?_
  | with_reducible refine i_int ?_
  | with_reducible refine i_2 ?_
  | with_reducible refine i_3 ?_
  | with_reducible refine i_iteT ?_
  | with_reducible refine i_iteF ?_
  | with_reducible refine i_iteNT ?_
  | with_reducible refine i_iteNF ?_
  | with_reducible refine i_iteV ?_
  | with_reducible refine i_I0 ?_
  | with_reducible refine i_addI ?_
  | with_reducible refine i_lenSet ?_
  | ((with_reducible refine i_isI ?_); first | refine i_isNF rfl ?_ | refine i_isNT rfl ?_ | refine i_isN ?_)
  | ((with_reducible refine i_notI ?_); first | refine i_notNF rfl ?_ | refine i_notNT rfl ?_ | refine i_notN ?_)
  | with_reducible refine i_len_l ?_
  | with_reducible refine i_len_t ?_
  | ((with_reducible refine i_isiI ?_); refine i_isi rfl rfl ?_)
  | with_reducible refine i_len_s (by first | assumption | (simp only [sizeLine] at *; omega)) ?_
  | with_reducible refine i_it_l ?_
  | with_reducible refine i_it_t ?_
  | with_reducible refine i_it_s ?_
  | with_reducible refine i_tuple_l ?_
  | with_reducible refine i_tuple_t ?_
  | with_reducible refine i_isStr ?_
  | with_reducible refine i_fzR ?_
  | with_reducible refine i_sg ?_)
local macro_rules | `(tactic| walk_at "d") => `(tactic| ((walk_at "d1"); (repeat walk_at "d1")))
local macro_rules | `(tactic| walk_at "s") => `(tactic| (first | (walk_at "d1"; walk_at "s") | (with_reducible refine i_ite (fun hb => ?_) (fun hb => ?_) <;> walk_at "s") | skip))
section
variable {P : Program} {w : World} {K : PySem.W.Frag} {mg : Str → Option Value} {base : Heap} {cl : Nat → Addr} {f : Addr} {fd : FuncData}
/-! ### the contracts -/
def c_is_name : DOs := fun ds M Φ => ∃ s : Str, ds = [.v (.str s)] ∧ s.length ≤ sizeLine ∧ Φ (.v (.bl (isName s))) M
def c_lines_of : DOs := fun ds M Φ => ∃ (t : Str) (ls : List Str), ds = [.v (.str t)] ∧ Txt.split t "\n" = ls ∧ t.length + 2 ≤ sizeLine ∧ ls.length ≤ sizeLine ∧ (∀ l ∈ ls, l.length + 2 ≤ sizeLine) ∧ Φ (.lst (ls.map fun l => .lst (dSs (Txt.split l " ")))) M
def c_many_cells : DOs := fun ds M Φ => ∃ A : An, ds = [.lst (ansD A)] ∧ A.length ≤ 100 ∧ (∀ q ∈ A, q.2.length ≤ 100) ∧ Φ (.v (.int (manyN A))) M
structure RdAt (M : Mem) (a pa pc pf : Addr) (F : List Str) (A : An) : Prop where
  o : M a = some (.obj 0 [.v (.ref pa), .v (.ref pc), .v (.ref pf)])
  ha : M pa = some (.lst (ansD A))
  hc : M pc = some (.lst [])
  hf : M pf = some (.lst (dSs F))
  n1 : pa ≠ pc
  n2 : pa ≠ pf
  n3 : pc ≠ pf
  sf : F.length ≤ 100
  sa : A.length ≤ 100
def c_Reading_init : DOs := fun ds M Φ => ∃ a u1 u2 u3, ds = [.v (.ref a)] ∧ M a = some (.obj 0 [u1, u2, u3]) ∧ ∀ pa pc pf, M pa = none → M pc = none → M pf = none → pa ≠ pc → pa ≠ pf → pc ≠ pf → Φ (.v .non) ((((M.put pf (.lst [])).put pa (.lst [])).put pc (.lst [])).put a (.obj 0 [.v (.ref pa), .v (.ref pc), .v (.ref pf)]))
def c_Reading_all_names : DOs := fun ds M Φ => ∃ a pa pc pf F A, ds = [.v (.ref a)] ∧ RdAt M a pa pc pf F A ∧ Φ (.lst (dSs (F ++ A.map (·.1)))) M
def c_Reading_can_name : DOs := fun ds M Φ => ∃ a pa pc pf F A s, ds = [.v (.ref a), .v (.str s)] ∧ RdAt M a pa pc pf F A ∧ s.length ≤ sizeLine ∧ Φ (.v (.bl (isName s && !decide (s ∈ F ++ A.map (·.1))))) M
def c_Reading_put_foe : DOs := fun ds M Φ => ∃ a pa pc pf F s, ds = [.v (.ref a), .lst (dSs [s])] ∧ RdAt M a pa pc pf F [] ∧ s.length ≤ sizeLine ∧ isName s = true ∧ F.length < 6 ∧ s ∉ F ∧ Φ (.v (.bl true)) (M.put pf (.lst (dSs (F ++ [s]))))
def c_Reading_put_answer : DOs := fun ds M Φ => ∃ a pa pc pf F A s L, ds = [.v (.ref a), .lst (dSs (s :: L))] ∧ RdAt M a pa pc pf F A ∧ s.length ≤ sizeLine ∧ isName s = true ∧ A.length < 6 ∧ s ∉ F ++ A.map (·.1) ∧ L = F.filter (fun f => decide (f ∈ L)) ∧ manyN (A ++ [(s, L)]) ≤ 64 ∧ okSs F ∧ (∀ q ∈ A, q.2.length ≤ 100) ∧ Φ (.v (.bl true)) (M.put pa (.lst (ansD (A ++ [(s, L)]))))
abbrev s_is_name : Stmt := topS 11
theorem sc_is_name : FnScope ["value", "sign"] ["value"] (defScope s_is_name) := ⟨rfl, rfl, rfl, by decide +kernel, rfl, by decide +kernel, by decide +kernel⟩
theorem ok_is_name (T : Tx K mg cl) (F : FunD K "is_name" "is_name" (defArgs s_is_name) (defBody s_is_name) (defScope s_is_name) [] [] f fd) (hm : mg "is_name" = some (.ref f)) (b : Binds K fd ["value"] []) : DCal P w K mg base cl 1 "is_name" c_is_name := by
  refine cal_D F hm b sc_is_name (fun ds M Φ h => ?_) (fun cdv A outer s H E hr => ⟨_, (dss_one (ds_ret (de_and (de_callB (call_isiG (.type "str")) (cd_isi (c := (.ty "str"))) boot_isinstance T.b_isinstance (da_cons (dv 0) (da_cons (de_bltn (v := .ty "str") rfl T.b_str boot_str rfl) da_nil))) (de_and (de_chain op_le od_le op_le od_le de_int (de_callB call_lenG cd_len boot_len T.b_len (da_cons (dv 0) da_nil)) (de_gint T.g_MOST_LETTERS)) (de_one (de_callB (cr_all rfl) cd_all boot_all T.b_all (da_cons (de_lc (own := [("sign", 1)]) rfl sc_is_name.nd (di_any (dv 0)) (blkOk_by (by rfl)) ⟨_, fun _ _ _ _ _ => (pg_name (i := 1) sc_is_name.nd rfl (by first | exact Or.inl rfl | exact Or.inr rfl)), (gc_name (by decide))⟩ (fun _ _ _ _ _ => dtt_nil) (fun _ _ _ _ _ => (de_cmp (op_inA (hu_of hr)) od_inA (by rfl) (dv 1) (de_gstr T.g_LETTERS)))) da_nil))))))), fun ds M Φ h => ?_⟩)
  · obtain ⟨s, rfl, _⟩ := h
    rfl
  · obtain ⟨s, rfl, hz, h⟩ := h
    have hl : s.cps.toList.length ≤ sizeLine := hz
    walk_at "nv"
    walk_at "s"
    · refine lc_map s.cps.toList (fun c => .v (.str ⟨#[c]⟩)) (fun c => .v (.bl (decide (c ∈ ("abcdefghijklmnopqrstuvwxyz" : Str).cps.toList)))) trivial hl ?_ ?_
      · intro c _ T1 h1
        walk_at "nv"
        walk_at "s"
        refine i_sign h1
      · refine .inl ?_
        walk_at "s"
        refine i_all (bs := s.cps.toList.map fun c => decide (c ∈ ("abcdefghijklmnopqrstuvwxyz" : Str).cps.toList)) (by simp) ?_
        walk_at "s"
        refine i_end h ?_
        have h1 : 1 ≤ s.length := by simp only [decide_eq_true_eq] at *; omega
        have h2 : s.length ≤ 6 := by simp only [decide_eq_true_eq] at *; omega
        simp [isName, h1, h2]
    · refine i_end h ?_
      have h1 : ¬ s.length ≤ 6 := by simp only [decide_eq_true_eq, decide_eq_false_iff_not] at *; omega
      simp [isName, h1]
    · refine i_end h ?_
      have h1 : ¬ 1 ≤ s.length := by simp only [decide_eq_true_eq, decide_eq_false_iff_not] at *; omega
      simp [isName, h1]
abbrev s_lines_of : Stmt := topS 12
theorem sc_lines_of : FnScope ["text", "line"] ["text"] (defScope s_lines_of) := ⟨rfl, rfl, rfl, by decide +kernel, rfl, by decide +kernel, by decide +kernel⟩
theorem ok_lines_of (T : Tx K mg cl) (F : FunD K "lines_of" "lines_of" (defArgs s_lines_of) (defBody s_lines_of) (defScope s_lines_of) [] [] f fd) (hm : mg "lines_of" = some (.ref f)) (b : Binds K fd ["text"] []) : DCal P w K mg base cl 1 "lines_of" c_lines_of := by
  refine cal_D F hm b sc_lines_of (fun ds M Φ h => ?_) (fun cdv A outer s H E hr => ⟨_, (dss_one (ds_ret (de_lc (own := [("line", 1)]) rfl sc_lines_of.nd (di_any (de_split (dv 0) (de_gstr T.g_FEED_checks))) (blkOk_by (by rfl)) ⟨_, fun _ _ _ _ _ => (pg_name (i := 1) sc_lines_of.nd rfl (by first | exact Or.inl rfl | exact Or.inr rfl)), (gc_name (by decide))⟩ (fun _ _ _ _ _ => dtt_nil) (fun _ _ _ _ _ => (de_split (dv 1) (de_gstr T.g_BLANK_checks)))))), fun ds M Φ h => ?_⟩)
  · obtain ⟨s, _, rfl, _⟩ := h
    rfl
  · obtain ⟨t, ls, rfl, he, hz, h1, h2, h⟩ := h
    walk_at "nv"
    walk_at "s"
    refine i_split rfl hz ?_
    rw [he]
    refine .inl ?_
    walk_at "s"
    refine lc_map ls (fun l => .v (.str l)) (fun l => .lst (dSs (Txt.split l " "))) trivial h1 ?_ ?_
    · intro l hl T1 k
      walk_at "nv"
      walk_at "s"
      exact i_split rfl (h2 l hl) (.inl k)
    · refine .inl ?_
      walk_at "s"
      exact h
abbrev s_many_cells : Stmt := topS 35
theorem sc_many_cells : FnScope ["answers", "name", "looks"] ["answers"] (defScope s_many_cells) := ⟨rfl, rfl, rfl, by decide +kernel, rfl, by decide +kernel, by decide +kernel⟩
theorem ok_many_cells (T : Tx K mg cl) (F : FunD K "many_cells" "many_cells" (defArgs s_many_cells) (defBody s_many_cells) (defScope s_many_cells) [] [] f fd) (hm : mg "many_cells" = some (.ref f)) (b : Binds K fd ["answers"] []) : DCal P w K mg base cl 1 "many_cells" c_many_cells := by
  refine cal_D F hm b sc_many_cells (fun ds M Φ h => ?_) (fun cdv A outer s H E hr => ⟨_, (dss_one (ds_ret (de_callB (cr_sum rfl) cd_sum boot_sum T.b_sum (da_cons (de_lc (own := [("name", 1), ("looks", 2)]) rfl sc_many_cells.nd (di_any (dv 0)) (blkOk_by (by rfl)) ⟨_, fun _ _ _ _ _ => (PG.or (pg_tup (n := 2) rfl (pgs_cons (pg_name (i := 1) sc_many_cells.nd rfl (by first | exact Or.inl rfl | exact Or.inr rfl)) (pgs_cons (pg_name (i := 2) sc_many_cells.nd rfl (by first | exact Or.inl rfl | exact Or.inr rfl)) pgs_nil))) (pg_lst (n := 2) rfl (pgs_cons (pg_name (i := 1) sc_many_cells.nd rfl (by first | exact Or.inl rfl | exact Or.inr rfl)) (pgs_cons (pg_name (i := 2) sc_many_cells.nd rfl (by first | exact Or.inl rfl | exact Or.inr rfl)) pgs_nil)))), (gc_tup (gcs_cons (gc_name (by decide)) (gcs_cons (gc_name (by decide)) gcs_nil)))⟩ (fun _ _ _ _ _ => dtt_nil) (fun _ _ _ _ _ => (de_op op_shl od_I de_int (de_callB call_lenG cd_len boot_len T.b_len (da_cons (dv 2) da_nil))))) da_nil)))), fun ds M Φ h => ?_⟩)
  · obtain ⟨s, rfl, _⟩ := h
    rfl
  · obtain ⟨A, rfl, hz, h1, h⟩ := h
    walk_at "nv"
    walk_at "s"
    refine lc_map A (fun q => .tup [.v (.str q.1), .tup (dSs q.2)]) (fun q => .v (.int (2 ^ q.2.length : Nat))) trivial (by simp only [sizeLine]; omega) ?_ ?_
    · intro q hq T1 k
      walk_at "nv"
      walk_at "s"
      exact i_pow (n := q.2.length) (by simp) (by have := h1 q hq; omega) (by decide) (by simpa using k)
    · refine i_fr ?_
      walk_at "s"
      refine i_sum (bs := A.map fun q => ((2 ^ q.2.length : Nat) : Int)) (by simp) ?_
      walk_at "s"
      refine i_end h ?_
      have e : (A.map fun q => ((2 ^ q.2.length : Nat) : Int)).sum = (manyN A : Int) := by
        unfold manyN
        clear h h1 hz
        induction A with
        | nil => rfl
        | cons q A ih => simp only [List.map_cons, List.sum_cons, ih]; simp
      rw [e]
abbrev s_Reading_init : Stmt := clsS (topS 34) 1
theorem sc_Reading_init : FnScope ["self"] ["self"] (defScope s_Reading_init) := ⟨rfl, rfl, rfl, by decide +kernel, rfl, by decide +kernel, by decide +kernel⟩
theorem ok_Reading_init (T : Tx K mg cl) (F : FunD K "__init__" "Reading.__init__" (defArgs s_Reading_init) (defBody s_Reading_init) (defScope s_Reading_init) [] [] f fd) (hk : Mk K (cl 0) f) (hm : mg "Reading" = some (.ref (cl 0))) (b : Binds K fd ["self"] []) : DMak P w K mg base cl 1 "Reading" 0 c_Reading_init := by
  refine mak_D hk hm F b sc_Reading_init (fun ds M Φ h => ?_) (fun cdv A outer s H E hr => ⟨_, (dss_one (ds_asg (de_tup (da_cons (de_lst da_nil) (da_cons (de_lst da_nil) (da_cons (de_lst da_nil) da_nil)))) (dt_tup rfl (gds_cons (dt_fld (dv 0)) (gds_cons (dt_fld (dv 0)) (gds_cons (dt_fld (dv 0)) gds_nil)))))), fun ds M Φ h => ?_⟩)
  · obtain ⟨a, _, _, _, rfl, _⟩ := h
    rfl
  · obtain ⟨a, u1, u2, u3, rfl, ho, h⟩ := h
    walk_at "nv"
    walk_at "s"
    refine i_new fun pf h1 => ?_
    walk_at "s"
    refine i_new fun pa h2 => ?_
    walk_at "s"
    refine i_new fun pc h3 => ?_
    walk_at "s"
    have n1 : a ≠ pf := mem_ne ho h1
    obtain ⟨m1, h2⟩ := put_none.mp h2
    obtain ⟨m2, h3⟩ := put_none.mp h3
    obtain ⟨m3, h3⟩ := put_none.mp h3
    have n2 : a ≠ pa := mem_ne ho h2
    have n3 : a ≠ pc := mem_ne ho h3
    have q : (((M.put pf (.lst [])).put pa (.lst [])).put pc (.lst [])) a = some (.obj 0 [u1, u2, u3]) := by walk_at "m"
    refine i_os q T.sc_Reading T.sl_Reading_own_foes rfl ?_
    walk_at "s"
    refine i_os put_same T.sc_Reading T.sl_Reading_own_answers rfl ?_
    rw [put_put]
    walk_at "s"
    refine i_os put_same T.sc_Reading T.sl_Reading_own_clauses rfl ?_
    rw [put_put]
    walk_at "s"
    exact ⟨_, Mem.le_refl _, h pa pc pf h2 h3 h1 (Ne.symm m2) m1 m3⟩
abbrev s_Reading_all_names : Stmt := clsS (topS 34) 2
theorem sc_Reading_all_names : FnScope ["self", "name", "looks"] ["self"] (defScope s_Reading_all_names) := ⟨rfl, rfl, rfl, by decide +kernel, rfl, by decide +kernel, by decide +kernel⟩
theorem ok_Reading_all_names (T : Tx K mg cl) (F : FunD K "all_names" "Reading.all_names" (defArgs s_Reading_all_names) (defBody s_Reading_all_names) (defScope s_Reading_all_names) [] [] f fd) (hm : Meth K (cl 0) "all_names" f) (b : Binds K fd ["self"] []) : DMet P w K mg base cl 1 0 "all_names" c_Reading_all_names := by
  refine met_D T.sc_Reading hm F b sc_Reading_all_names (fun ds M Φ h => ?_) (fun cdv A outer s H E hr => ⟨_, (dss_one (ds_ret (de_lst (da_star (de_fld (dv 0)) (da_star (de_lc (own := [("name", 1), ("looks", 2)]) rfl sc_Reading_all_names.nd (di_any (de_fld (dv 0))) (blkOk_by (by rfl)) ⟨_, fun _ _ _ _ _ => (PG.or (pg_tup (n := 2) rfl (pgs_cons (pg_name (i := 1) sc_Reading_all_names.nd rfl (by first | exact Or.inl rfl | exact Or.inr rfl)) (pgs_cons (pg_name (i := 2) sc_Reading_all_names.nd rfl (by first | exact Or.inl rfl | exact Or.inr rfl)) pgs_nil))) (pg_lst (n := 2) rfl (pgs_cons (pg_name (i := 1) sc_Reading_all_names.nd rfl (by first | exact Or.inl rfl | exact Or.inr rfl)) (pgs_cons (pg_name (i := 2) sc_Reading_all_names.nd rfl (by first | exact Or.inl rfl | exact Or.inr rfl)) pgs_nil)))), (gc_tup (gcs_cons (gc_name (by decide)) (gcs_cons (gc_name (by decide)) gcs_nil)))⟩ (fun _ _ _ _ _ => dtt_nil) (fun _ _ _ _ _ => (dv 1))) da_nil))))), fun ds M Φ h => ?_⟩)
  · obtain ⟨a, pa, pc, pf, F, A, rfl, _⟩ := h
    rfl
  · obtain ⟨a, pa, pc, pf, F, A, rfl, R, h⟩ := h
    have := R.sf
    have := R.sa
    walk_at "nv"
    walk_at "s"
    refine i_o (objV_at R.o) T.sc_Reading T.sl_Reading_own_foes rfl (fun h => nomatch h) ?_
    refine ⟨_, seqV_at R.hf, ?_⟩
    walk_at "s"
    refine i_o (objV_at R.o) T.sc_Reading T.sl_Reading_own_answers rfl (fun h => nomatch h) ?_
    refine .cell R.ha ?_
    refine lc_map A (fun q => .tup [.v (.str q.1), .tup (dSs q.2)]) (fun q => .v (.str q.1)) R.ha (by simp only [sizeLine]; omega) ?_ ?_
    · intro q hq T1 k
      walk_at "nv"
      walk_at "s"
      exact k
    · refine i_fr ?_
      refine ⟨_, rfl, ?_⟩
      walk_at "s"
      refine i_fr ?_
      walk_at "s"
      refine i_end h ?_
      simp
abbrev s_Reading_can_name : Stmt := clsS (topS 34) 3
theorem sc_Reading_can_name : FnScope ["self", "name"] ["self", "name"] (defScope s_Reading_can_name) := ⟨rfl, rfl, rfl, by decide +kernel, rfl, by decide +kernel, by decide +kernel⟩
theorem ok_Reading_can_name (T : Tx K mg cl) (F : FunD K "can_name" "Reading.can_name" (defArgs s_Reading_can_name) (defBody s_Reading_can_name) (defScope s_Reading_can_name) [] [] f fd) (hm : Meth K (cl 0) "can_name" f) (b : Binds K fd ["self", "name"] []) (k_is_name : DCal P w K mg base cl 1 "is_name" c_is_name) (m_Reading_all_names : DMet P w K mg base cl 1 0 "all_names" c_Reading_all_names) : DMet P w K mg base cl 2 0 "can_name" c_Reading_can_name := by
  refine met_D T.sc_Reading hm F b sc_Reading_can_name (fun ds M Φ h => ?_) (fun cdv A outer s H E hr => ⟨_, (dss_one (ds_ret (de_and (de_call k_is_name hr (da_cons (dv 1) da_nil)) (de_one (de_cmp (op_ninA (hu_of hr)) od_inA (by rfl) (dv 1) (de_meth0 m_Reading_all_names hr (dv 0))))))), fun ds M Φ h => ?_⟩)
  · obtain ⟨a, pa, pc, pf, F, A, s, rfl, _⟩ := h
    rfl
  · obtain ⟨a, pa, pc, pf, F, A, s, rfl, R, hz, h⟩ := h
    walk_at "nv"
    walk_at "s"
    refine ⟨s, rfl, hz, ?_⟩
    walk_at "s"
    · rename_i hb
      refine i_isO (objV_at R.o) ?_
      walk_at "s"
      refine ⟨a, pa, pc, pf, F, A, rfl, R, ?_⟩
      refine i_ninS rfl rfl ?_
      walk_at "s"
      refine i_end h ?_
      rw [hb]; rfl
    · rename_i hb
      refine i_end h ?_
      rw [hb]; rfl
abbrev s_Reading_put_foe : Stmt := clsS (topS 34) 4
theorem sc_Reading_put_foe : FnScope ["self", "words", "is_late"] ["self", "words"] (defScope s_Reading_put_foe) := ⟨rfl, rfl, rfl, by decide +kernel, rfl, by decide +kernel, by decide +kernel⟩
theorem ok_Reading_put_foe (T : Tx K mg cl) (F : FunD K "put_foe" "Reading.put_foe" (defArgs s_Reading_put_foe) (defBody s_Reading_put_foe) (defScope s_Reading_put_foe) [] [] f fd) (hm : Meth K (cl 0) "put_foe" f) (b : Binds K fd ["self", "words"] []) (m_Reading_can_name : DMet P w K mg base cl 2 0 "can_name" c_Reading_can_name) : DMet P w K mg base cl 3 0 "put_foe" c_Reading_put_foe := by
  refine met_D T.sc_Reading hm F b sc_Reading_put_foe (fun ds M Φ h => ?_) (fun cdv A outer s H E hr => ⟨_, (dss_cons (ds_set (i := 2) sc_Reading_put_foe.nd rfl (by first | exact Or.inl rfl | exact Or.inr rfl) (de_or (de_cmp (op_neD hr.units) od_ne (nomark _) (de_fld (dv 0)) (de_lst da_nil)) (de_one (de_cmp (op_eqD hr.units) od_eq (nomark _) (de_callB call_lenG cd_len boot_len T.b_len (da_cons (de_fld (dv 0)) da_nil)) (de_gint T.g_MOST_FOES)))))
    (dss_cons (ds_if (DW.dt (dw_or (dt_val (dv 2)) (dw_or (dt_cmp (op_neD hr.units) od_ne (nomark _) (de_callB call_lenG cd_len boot_len T.b_len (da_cons (dv 1) da_nil)) de_int) (dw_or1 (dt_not (dt_val (de_meth m_Reading_can_name hr (dv 0) (da_cons (de_ix (hu_of hr) (dv 1) de_int) da_nil)))))))) (dss_one (ds_ret de_bl)) dss_nil)
    (dss_cons (ds_expr (de_mtL PySem.F.slot_list_append PySem.F.type_list_append mt_append md_append (de_fld (dv 0)) (da_cons (de_ix (hu_of hr) (dv 1) de_int) da_nil)))
    (dss_one (ds_ret de_bl))))), fun ds M Φ h => ?_⟩)
  · obtain ⟨a, pa, pc, pf, F, s, rfl, _⟩ := h
    rfl
  · obtain ⟨a, pa, pc, pf, F, s, rfl, R, hz, hs, hF, hn, h⟩ := h
    walk_at "nv"
    walk_at "s"
    refine i_o (objV_at R.o) T.sc_Reading T.sl_Reading_own_answers rfl (fun h => nomatch h) ?_
    walk_at "s"
    refine i_fr ?_
    refine i_neNil (lstV_at R.ha) rfl rfl (b0 := false) rfl ?_
    walk_at "s"
    refine i_o (objV_at R.o) T.sc_Reading T.sl_Reading_own_foes rfl (fun h => nomatch h) ?_
    walk_at "s"
    refine .seq (seqV_at R.hf) ?_
    walk_at "s"
    refine i_eqI (b0 := false) (by simp; omega) ?_
    walk_at "s"
    refine i_neI (b0 := false) (by simp) ?_
    walk_at "s"
    refine i_isO (objV_at R.o) ?_
    walk_at "s"
    refine .seq rfl rfl ?_
    walk_at "s"
    refine ⟨a, pa, pc, pf, F, [], s, rfl, R, hz, ?_⟩
    simp only [hs, List.map_nil, List.append_nil, hn, decide_false, Bool.not_false, Bool.and_self]
    walk_at "s"
    refine i_o (objV_at R.o) T.sc_Reading T.sl_Reading_own_foes rfl (fun h => nomatch h) ?_
    refine i_isL (lstV_at R.hf) ?_
    walk_at "s"
    refine .seq rfl rfl ?_
    walk_at "s"
    refine i_append R.hf (by simp only [List.length_map, sizeLine]; omega) ?_
    walk_at "s"
    simpa using h
abbrev s_Reading_put_answer : Stmt := clsS (topS 34) 5
theorem sc_Reading_put_answer : FnScope ["self", "words", "looks", "foe"] ["self", "words"] (defScope s_Reading_put_answer) := ⟨rfl, rfl, rfl, by decide +kernel, rfl, by decide +kernel, by decide +kernel⟩
theorem ok_Reading_put_answer (T : Tx K mg cl) (F : FunD K "put_answer" "Reading.put_answer" (defArgs s_Reading_put_answer) (defBody s_Reading_put_answer) (defScope s_Reading_put_answer) [] [] f fd) (hm : Meth K (cl 0) "put_answer" f) (b : Binds K fd ["self", "words"] []) (m_Reading_can_name : DMet P w K mg base cl 2 0 "can_name" c_Reading_can_name) (k_many_cells : DCal P w K mg base cl 1 "many_cells" c_many_cells) : DMet P w K mg base cl 3 0 "put_answer" c_Reading_put_answer := by
  refine met_D T.sc_Reading hm F b sc_Reading_put_answer (fun ds M Φ h => ?_) (fun cdv A outer s H E hr => ⟨_, (dss_cons (ds_if (DW.dt (dw_or (dt_cmp (op_neD hr.units) od_ne (nomark _) (de_fld (dv 0)) (de_lst da_nil)) (dw_or1 (dt_cmp (op_eqD hr.units) od_eq (nomark _) (de_callB call_lenG cd_len boot_len T.b_len (da_cons (de_fld (dv 0)) da_nil)) (de_gint T.g_MOST_ANSWERS))))) (dss_one (ds_ret de_bl)) dss_nil)
    (dss_cons (ds_if (DW.dt (dw_or (dt_cmp (op_eqD hr.units) od_eq (nomark _) (dv 1) (de_lst da_nil)) (dw_or1 (dt_not (dt_val (de_meth m_Reading_can_name hr (dv 0) (da_cons (de_ix (hu_of hr) (dv 1) de_int) da_nil))))))) (dss_one (ds_ret de_bl)) dss_nil)
    (dss_cons (ds_set (i := 2) sc_Reading_put_answer.nd rfl (by first | exact Or.inl rfl | exact Or.inr rfl) (de_callTy call_tuple_of cd_tuple boot_tuple T.b_tuple (da_cons (de_sl (dv 1) (do_some de_int) do_none) da_nil)))
    (dss_cons (ds_if (dt_cmp (op_neD hr.units) od_ne (nomark _) (dv 2) (de_callTy call_tuple_of cd_tuple boot_tuple T.b_tuple (da_cons (de_lc (own := [("foe", 3)]) rfl sc_Reading_put_answer.nd (di_any (de_fld (dv 0))) (blkOk_by (by rfl)) ⟨_, fun _ _ _ _ _ => (pg_name (i := 3) sc_Reading_put_answer.nd rfl (by first | exact Or.inl rfl | exact Or.inr rfl)), (gc_name (by decide))⟩ (fun _ _ _ _ _ => (dtt_one (dt_cmp (op_inA (hu_of hr)) od_inA (by rfl) (dv 3) (dv 2)))) (fun _ _ _ _ _ => (dv 3))) da_nil))) (dss_one (ds_ret de_bl)) dss_nil)
    (dss_cons (ds_if (dt_cmp op_gt od_gt (nomark _) (de_call k_many_cells hr (da_cons (de_lst (da_star (de_fld (dv 0)) (da_cons (de_tup (da_cons (de_ix (hu_of hr) (dv 1) de_int) (da_cons (dv 2) da_nil))) da_nil))) da_nil)) (de_gint T.g_MOST_CELLS)) (dss_one (ds_ret de_bl)) dss_nil)
    (dss_cons (ds_expr (de_mtL PySem.F.slot_list_append PySem.F.type_list_append mt_append md_append (de_fld (dv 0)) (da_cons (de_tup (da_cons (de_ix (hu_of hr) (dv 1) de_int) (da_cons (dv 2) da_nil))) da_nil)))
    (dss_one (ds_ret de_bl)))))))), fun ds M Φ h => ?_⟩)
  · obtain ⟨a, pa, pc, pf, F, A, s, L, rfl, _⟩ := h
    rfl
  · obtain ⟨a, pa, pc, pf, F, A, s, L, rfl, R, hz, hs, hA, hn, hL, hm, h1, h2, h⟩ := h
    walk_at "nv"
    walk_at "s"
    refine i_o (objV_at R.o) T.sc_Reading T.sl_Reading_own_clauses rfl (fun h => nomatch h) ?_
    walk_at "s"
    refine i_fr ?_
    refine i_neNil (lstV_at R.hc) rfl rfl (b0 := false) rfl ?_
    walk_at "s"
    refine i_o (objV_at R.o) T.sc_Reading T.sl_Reading_own_answers rfl (fun h => nomatch h) ?_
    walk_at "s"
    refine .seq (seqV_at R.ha) ?_
    walk_at "s"
    refine i_eqI (b0 := false) (by simp [ansD]; omega) ?_
    walk_at "s"
    refine i_fr ?_
    have hLF : ∀ v ∈ L, v ∈ F := fun v hv => by rw [hL] at hv; exact (List.mem_filter.mp hv).1
    have okL : okSs L := okSs_sub h1 hLF
    have okW : okSs (s :: L) := okSs_cons.mpr ⟨okS_name hs, okL⟩
    refine i_eqSs (ws := s :: L) (vs := []) rfl rfl okW okSs_nil (b0 := false) (by simp) ?_
    walk_at "s"
    refine i_isO (objV_at R.o) ?_
    walk_at "s"
    refine .seq rfl atI0 ?_
    walk_at "s"
    refine ⟨a, pa, pc, pf, F, A, s, rfl, R, hz, ?_⟩
    simp only [hs, hn, decide_false, Bool.not_false, Bool.and_self]
    walk_at "s"
    refine .lst rfl ?_
    rw [cutD_tail]
    refine i_fr ?_
    walk_at "s"
    refine i_o (objV_at R.o) T.sc_Reading T.sl_Reading_own_foes rfl (fun h => nomatch h) ?_
    refine .cell R.hf ?_
    have := R.sf
    have := R.sa
    refine lc_pure F (fun w => .v (.str w)) (fun w => decide (w ∈ L)) (fun w => .v (.str w)) R.hf (by simp only [sizeLine]; omega) ?_ ?_
    · intro f hf T1 T0 k1 k0
      walk_at "nv"
      walk_at "s"
      refine i_inS rfl rfl ?_
      walk_at "s"
      · exact k1 (by assumption)
      · exact k0 (by assumption)
    · refine i_fr ?_
      walk_at "s"
      rw [← hL]
      refine i_neSt okL okL (b0 := false) (by simp) ?_
      walk_at "s"
      refine i_o (objV_at R.o) T.sc_Reading T.sl_Reading_own_answers rfl (fun h => nomatch h) ?_
      refine ⟨_, seqV_at R.ha, ?_⟩
      walk_at "s"
      refine .seq rfl atI0 ?_
      walk_at "s"
      refine i_szA (by simp [ansD, sizeLine]; omega) ?_
      refine i_fr ?_
      walk_at "s"
      have eA : (ansD A ++ [Dat.tup [Dat.v (V.str s), Dat.tup (List.map (fun w => Dat.v (V.str w)) L)]]) = ansD (A ++ [(s, L)]) := by simp [ansD]
      rw [eA]
      refine ⟨_, rfl, by simp; omega, fun q hq => ?_, ?_⟩
      · rcases List.mem_append.mp hq with q1 | q1
        · exact h2 q q1
        · rw [List.mem_singleton.mp q1]
          have : L.length ≤ F.length := by rw [hL]; exact List.length_filter_le _ _
          show L.length ≤ 100
          omega
      walk_at "s"
      · rename_i hb
        simp only [decide_eq_true_eq] at hb
        omega
      · refine i_o (objV_at R.o) T.sc_Reading T.sl_Reading_own_answers rfl (fun h => nomatch h) ?_
        refine i_isL (lstV_at R.ha) ?_
        walk_at "s"
        refine .seq rfl atI0 ?_
        walk_at "s"
        refine i_append R.ha (by simp [ansD, sizeLine]; omega) ?_
        walk_at "s"
        rw [eA]
        exact h
end
end K51
set_option maxRecDepth 100000
set_option maxHeartbeats 4000000
namespace K51
open PySem PySem.Spec PyProof.Rows L2 SlX DL
local macro_rules | `(tactic| walk_at "ok") => `(tactic| first | assumption | (show PyData.strOk _ = true; decide +kernel))
local macro_rules | `(tactic| walk_at "z") => `(tactic| first | assumption | (simp only [List.length_cons, List.length_nil, List.length_map, List.length_append, sizeLine] at *; omega))
local macro_rules | `(tactic| walk_at "m") => `(tactic| first | assumption | rfl | exact put_same | (simp [Mem.put, *]; done) | (simp [Mem.put, lstV, seqV, objV, dicV, *]; done))
local macro_rules | `(tactic| walk_at "nv") => `(tactic| (try simp only [startD, wipeD, List.map_cons, List.map_nil, List.length_cons, List.length_nil, Nat.reduceAdd, Nat.reduceSub, List.reduceReplicate, List.append_nil, List.cons_append, List.nil_append, List.set_cons_zero, List.set_cons_succ]))
local macro_rules | `(tactic| walk_at "d1") => `(tactic| first
  | ((with_reducible refine i_varI ?_); refine i_var rfl ?_)
  | with_reducible refine i_c ?_
  | with_reducible refine i_op ?_
  | with_reducible refine i_test ?_
  | with_reducible refine i_chain ?_
  | with_reducible refine i_and ?_
  | with_reducible refine i_or ?_
  | with_reducible refine i_not ?_
  | with_reducible refine i_andV ?_
  | with_reducible refine i_orV ?_
  | with_reducible refine i_notV ?_
  | with_reducible refine i_if ?_
  | with_reducible refine i_nil ?_
  | with_reducible refine i_lzip ?_
  | with_reducible refine i_oint ?_
  | with_reducible refine i_ointB ?_
  | with_reducible refine i_mod (by omega) ?_
  | with_reducible refine i_lits ?_
  | with_reducible refine i_get2 ?_
  | with_reducible refine i_bits ?_
  | with_reducible refine i_lrg ?_
  | with_reducible refine i_disp ?_
  | with_reducible refine i_pnil ?_
  | with_reducible refine i_pcons ?_
  | with_reducible refine i_ndw ?_
  | with_reducible refine i_calk ?_
  | with_reducible refine i_enumT ?_
  | with_reducible refine i_zipT ?_
  | with_reducible refine i_cons ?_
  | with_reducible refine i_star ?_
  | with_reducible refine i_tup ?_
  | with_reducible refine i_lst ?_
  | with_reducible refine i_szA (by walk_at "z") ?_
  | with_reducible refine i_szB (by walk_at "z") ?_
  | with_reducible refine i_cal ?_
  | with_reducible refine i_mt ?_
  | with_reducible refine i_m1 ?_
  | with_reducible refine i_fld ?_
  | with_reducible refine i_sl ?_
  | with_reducible refine i_noP ?_
  | with_reducible refine i_part ?_
  | with_reducible refine i_neg ?_
  | with_reducible refine i_meth ?_
  | with_reducible refine i_make ?_
  | with_reducible refine i_pro ?_
  | with_reducible refine i_lc ?_
  | with_reducible refine i_yes ?_
  | with_reducible refine i_next ?_
  | with_reducible refine i_seq ?_
  | with_reducible refine i_ret ?_
  | with_reducible refine i_drop ?_
  | with_reducible refine i_ifS ?_
  | ((with_reducible refine i_gname ?_); walk_at "nv")
  | ((with_reducible refine i_gtupI ?_); refine i_gtup rfl rfl ?_)
  | with_reducible refine i_gnil ?_
  | with_reducible refine i_gcons ?_
  | with_reducible refine i_asg ?_
  | ((with_reducible refine i_par ?_); walk_at "nv")
  | ((with_reducible refine i_par3 ?_); walk_at "nv")
  | with_reducible refine i_gsub ?_
  | with_reducible refine i_gfld ?_
  | with_reducible refine i_for ?_
  | with_reducible refine i_it ?_
  | with_reducible refine i_rng1 ?_
  | with_reducible refine i_enum ?_
  | with_reducible refine i_bl ?_
  | with_reducible refine i_int ?_
  | with_reducible refine i_2 ?_
  | with_reducible refine i_3 ?_
  | with_reducible refine i_iteT ?_
  | with_reducible refine i_iteF ?_
  | with_reducible refine i_iteNT ?_
  | with_reducible refine i_iteNF ?_
  | with_reducible refine i_iteV ?_
  | with_reducible refine i_I0 ?_
  | with_reducible refine i_addI ?_
  | with_reducible refine i_lenSet ?_
  | ((with_reducible refine i_isI ?_); first | refine i_isNF rfl ?_ | refine i_isNT rfl ?_ | refine i_isN ?_)
  | ((with_reducible refine i_notI ?_); first | refine i_notNF rfl ?_ | refine i_notNT rfl ?_ | refine i_notN ?_)
  | with_reducible refine i_len_l ?_
  | with_reducible refine i_len_t ?_
  | ((with_reducible refine i_isiI ?_); refine i_isi rfl rfl ?_)
  | with_reducible refine i_len_s (by first | assumption | (simp only [sizeLine] at *; omega)) ?_
  | with_reducible refine i_it_l ?_
  | with_reducible refine i_it_t ?_
  | with_reducible refine i_it_s ?_
  | with_reducible refine i_tuple_l ?_
  | with_reducible refine i_tuple_t ?_
  | with_reducible refine i_isStr ?_
  | with_reducible refine i_fzR ?_
  | with_reducible refine i_sg ?_)
local macro_rules | `(tactic| walk_at "d") => `(tactic| ((walk_at "d1"); (repeat walk_at "d1")))
local macro_rules | `(tactic| walk_at "s") => `(tactic| (first | (walk_at "d1"; walk_at "s") | (with_reducible refine i_ite (fun hb => ?_) (fun hb => ?_) <;> walk_at "s") | skip))
section
variable {P : Program} {w : World} {K : PySem.W.Frag} {mg : Str → Option Value} {base : Heap} {cl : Nat → Addr} {f : Addr} {fd : FuncData}
/-! ### the contracts -/
def c_Reading_put_line : DOs := fun ds M Φ => (∃ a s, ds = [.v (.ref a), .lst (dSs [("foe" : Str), s])] ∧ c_Reading_put_foe [.v (.ref a), .lst (dSs [s])] M Φ) ∨ ∃ a ws, ds = [.v (.ref a), .lst (dSs (("answer" : Str) :: ws))] ∧ okSs ws ∧ c_Reading_put_answer [.v (.ref a), .lst (dSs ws)] M Φ
/-- the text of a book: its lines, its words -/
structure BkTxt (t : Str) (F : List Str) (A : An) : Prop extends RdTxt t ([("book" : Str)] :: headRows F A) where
  good : Good F A
def c_reading_of : DOs := fun ds M Φ => ∃ t F A, ds = [.v (.str t)] ∧ BkTxt t F A ∧ ∀ a pa pc pf M', M.le M' → RdAt M' a pa pc pf F A → Φ (.tup [.v (.ref a), .v .non]) M'
def bookD (t : Str) (F : List Str) (A : An) : List Dat := [.tup (ansD A), .tup [], .tup (dSs F), .v (.str t)]
def c_Book_init : DOs := fun ds M Φ => ∃ a t F A, ds = [.v (.ref a), .v (.str t)] ∧ M a = some (.obj 1 [.unset, .unset, .unset, .unset]) ∧ BkTxt t F A ∧ Φ (.v .non) (M.put a (.obj 1 (bookD t F A)))
def c_Book_foes : DOs := fun ds M Φ => ∃ d t F A, ds = [d] ∧ objV M d = some (1, bookD t F A) ∧ Φ (.tup (dSs F)) M
def c_Book_answers : DOs := fun ds M Φ => ∃ d t F A, ds = [d] ∧ objV M d = some (1, bookD t F A) ∧ Φ (.tup (ansD A)) M
theorem RdAt.foe {M : Mem} {a pa pc pf : Addr} {F : List Str} {A : An} {s : Str} (R : RdAt M a pa pc pf F A) (h : F.length < 100) : RdAt (M.put pf (.lst (dSs (F ++ [s])))) a pa pc pf (F ++ [s]) A := by
  have n : a ≠ pf := fun e => by have := R.o; rw [e, R.hf] at this; cases this
  exact ⟨by rw [put_ne n]; exact R.o, by rw [put_ne R.n2]; exact R.ha, by rw [put_ne R.n3]; exact R.hc, put_same, R.n1, R.n2, R.n3, by simp; omega, R.sa⟩
theorem RdAt.ans {M : Mem} {a pa pc pf : Addr} {F : List Str} {A : An} {q : Str × List Str} (R : RdAt M a pa pc pf F A) (h : A.length < 100) : RdAt (M.put pa (.lst (ansD (A ++ [q])))) a pa pc pf F (A ++ [q]) := by
  have n : a ≠ pa := fun e => by have := R.o; rw [e, R.ha] at this; cases this
  exact ⟨by rw [put_ne n]; exact R.o, put_same, by rw [put_ne (Ne.symm R.n1)]; exact R.hc, by rw [put_ne (Ne.symm R.n2)]; exact R.hf, R.n1, R.n2, R.n3, R.sf, by simp; omega⟩
theorem le_put {M M' : Mem} {p : Addr} {c : Dat} (h : M.le M') (hp : M p = none) : M.le (M'.put p c) := fun x d hx => by
  rw [put_ne (mem_ne hx hp)]
  exact h x d hx
theorem ref_of {a a' : Addr} {x y : List Dat} (h : (.v (.ref a) : Dat) :: x = .v (.ref a') :: y) : a = a' := by
  have := (List.cons.inj h).1
  injection this with h1
  injection h1
theorem headRows_at {F : List Str} {A : An} {i : Nat} {r : List Str} (h : (headRows F A)[i]? = some r) : (∃ f, F[i]? = some f ∧ r = [("foe" : Str), f] ∧ A.take (i - F.length) = [] ∧ A.take (i + 1 - F.length) = []) ∨ ∃ q, F.length ≤ i ∧ A[i - F.length]? = some q ∧ r = ("answer" : Str) :: q.1 :: q.2 ∧ F.take i = F ∧ F.take (i + 1) = F ∧ A.take (i + 1 - F.length) = A.take (i - F.length) ++ [q] := by
  unfold headRows at h
  by_cases hi : i < F.length
  · left
    rw [List.getElem?_append_left (by simpa using hi), List.getElem?_map] at h
    cases hf : F[i]? with
    | none => rw [hf] at h; cases h
    | some f =>
      rw [hf] at h
      refine ⟨f, rfl, (Option.some.inj h).symm, ?_, ?_⟩
      · rw [show i - F.length = 0 by omega]; rfl
      · rw [show i + 1 - F.length = 0 by omega]; rfl
  · right
    rw [List.getElem?_append_right (by simpa using hi), List.getElem?_map, List.length_map] at h
    cases hf : A[i - F.length]? with
    | none => rw [hf] at h; cases h
    | some q =>
      rw [hf] at h
      refine ⟨q, by omega, rfl, (Option.some.inj h).symm, List.take_of_length_le (by omega), List.take_of_length_le (by omega), ?_⟩
      rw [show i + 1 - F.length = (i - F.length) + 1 by omega]
      exact take_snoc hf
abbrev s_Reading_put_line : Stmt := clsS (topS 34) 7
theorem sc_Reading_put_line : FnScope ["self", "words"] ["self", "words"] (defScope s_Reading_put_line) := ⟨rfl, rfl, rfl, by decide +kernel, rfl, by decide +kernel, by decide +kernel⟩
theorem ok_Reading_put_line (T : Tx K mg cl) (F : FunD K "put_line" "Reading.put_line" (defArgs s_Reading_put_line) (defBody s_Reading_put_line) (defScope s_Reading_put_line) [] [] f fd) (hm : Meth K (cl 0) "put_line" f) (b : Binds K fd ["self", "words"] []) (m_Reading_put_foe : DMet P w K mg base cl 3 0 "put_foe" c_Reading_put_foe) (m_Reading_put_answer : DMet P w K mg base cl 3 0 "put_answer" c_Reading_put_answer) : DMet P w K mg base cl 4 0 "put_line" c_Reading_put_line := by
  refine met_D T.sc_Reading hm F b sc_Reading_put_line (fun ds M Φ h => ?_) (fun cdv A outer s H E hr => ⟨_, (dss_cons (ds_if (dt_cmp (op_eqD hr.units) od_eq (nomark _) (de_ix (hu_of hr) (dv 1) de_int) (de_gstr T.g_FOE_books)) (dss_one (ds_ret (de_meth m_Reading_put_foe hr (dv 0) (da_cons (de_sl (dv 1) (do_some de_int) do_none) da_nil)))) dss_nil)
    (dss_cons (ds_if (dt_cmp (op_eqD hr.units) od_eq (nomark _) (de_ix (hu_of hr) (dv 1) de_int) (de_gstr T.g_ANSWER_books)) (dss_one (ds_ret (de_meth m_Reading_put_answer hr (dv 0) (da_cons (de_sl (dv 1) (do_some de_int) do_none) da_nil)))) dss_nil)
    (dss_one (ds_ret de_never)))), fun ds M Φ h => ?_⟩)
  · rcases h with ⟨a, s, rfl, _⟩ | ⟨a, s, rfl, _⟩ <;> rfl
  · rcases h with ⟨a, s, rfl, h⟩ | ⟨a, ws, rfl, ok, h⟩
    · walk_at "nv"
      have ho : ∃ ds, objV M (.v (.ref a)) = some (0, ds) := by
        obtain ⟨a', pa, pc, pf, F, s', e, R, _⟩ := id h
        obtain rfl := ref_of e
        exact ⟨_, objV_at R.o⟩
      walk_at "s"
      refine .seq rfl rfl ?_
      walk_at "s"
      refine i_eqS (by walk_at "ok") (by walk_at "ok") (b0 := true) (by decide +kernel) ?_
      walk_at "s"
      refine ⟨ho, ?_⟩
      walk_at "s"
      refine .lst rfl ?_
      rw [cutD_tail]
      refine i_fr ?_
      walk_at "s"
      obtain ⟨a', pa, pc, pf, F, s', e, R, h1, h2, h3, h4, h5⟩ := h
      refine ⟨a', pa, pc, pf, F, s', e, R, h1, h2, h3, h4, ?_⟩
      walk_at "s"
      exact h5
    · walk_at "nv"
      have ho : ∃ ds, objV M (.v (.ref a)) = some (0, ds) := by
        obtain ⟨a', pa, pc, pf, F, A, s', L, e, R, _⟩ := id h
        obtain rfl := ref_of e
        exact ⟨_, objV_at R.o⟩
      walk_at "s"
      refine .seq rfl atI0 ?_
      walk_at "s"
      refine i_eqS (by walk_at "ok") (by walk_at "ok") (b0 := false) (by decide +kernel) ?_
      walk_at "s"
      refine .seq rfl atI0 ?_
      walk_at "s"
      refine i_eqS (by walk_at "ok") (by walk_at "ok") (b0 := true) (by decide +kernel) ?_
      walk_at "s"
      refine ⟨ho, ?_⟩
      walk_at "s"
      refine .lst rfl ?_
      rw [cutD_tail]
      refine i_fr ?_
      walk_at "s"
      obtain ⟨a', pa, pc, pf, F, A, s', L, e, R, h1, h2, h3, h4, h5, h6, h7, h8, h9⟩ := h
      refine ⟨a', pa, pc, pf, F, A, s', L, e, R, h1, h2, h3, h4, h5, h6, h7, h8, ?_⟩
      walk_at "s"
      exact h9
abbrev s_reading_of : Stmt := topS 37
theorem sc_reading_of : FnScope ["text", "rows", "found", "at", "words"] ["text"] (defScope s_reading_of) := ⟨rfl, rfl, rfl, by decide +kernel, rfl, by decide +kernel, by decide +kernel⟩
theorem ok_reading_of (T : Tx K mg cl) (F : FunD K "reading_of" "reading_of" (defArgs s_reading_of) (defBody s_reading_of) (defScope s_reading_of) [] [] f fd) (hm : mg "reading_of" = some (.ref f)) (b : Binds K fd ["text"] []) (mk_Reading : DMak P w K mg base cl 1 "Reading" 0 c_Reading_init) (k_lines_of : DCal P w K mg base cl 1 "lines_of" c_lines_of) (m_Reading_put_line : DMet P w K mg base cl 4 0 "put_line" c_Reading_put_line) : DCal P w K mg base cl 5 "reading_of" c_reading_of := by
  refine cal_D F hm b sc_reading_of (fun ds M Φ h => ?_) (fun cdv A outer s H E hr => ⟨_, (dss_cons (ds_par (i := 1) (j := 2) rfl sc_reading_of.nd rfl rfl (da_cons (de_call k_lines_of hr (da_cons (dv 0) da_nil)) (da_cons (de_make0 (nf := 3) mk_Reading hr) da_nil)))
    (dss_cons (ds_if (dt_cmp (op_neD hr.units) od_ne (nomark _) (de_ix (hu_of hr) (dv 1) de_int) (de_lst (da_cons (de_gstr T.g_BOOK) da_nil))) (dss_one (ds_ret (de_tup (da_cons de_non (da_cons de_int da_nil))))) dss_nil)
    (dss_cons (ds_for PassesOwn.never rfl (di_enum T.b_enumerate (da_cons (de_sl (dv 1) (do_some de_int) do_none) da_nil)) (dt_tup rfl (gds_cons (dt_name (i := 3) sc_reading_of.nd rfl (by first | exact Or.inl rfl | exact Or.inr rfl)) (gds_cons (dt_name (i := 4) sc_reading_of.nd rfl (by first | exact Or.inl rfl | exact Or.inr rfl)) gds_nil)))
    (dss_one (ds_if (dt_not (dt_val (de_meth m_Reading_put_line hr (dv 2) (da_cons (dv 4) da_nil)))) (dss_one (ds_ret (de_tup (da_cons de_non (da_cons (de_op op_addG od_add (dv 3) (de_gint T.g_PAIR_books)) da_nil))))) dss_nil)))
    (dss_one (ds_ret (de_if (dt_cmp (op_neD hr.units) od_ne (nomark _) (de_fld (dv 2)) (de_lst da_nil)) (de_tup (da_cons (dv 2) (da_cons de_non da_nil))) (de_tup (da_cons de_non (da_cons (de_op op_addG od_add (de_callB call_lenG cd_len boot_len T.b_len (da_cons (dv 1) da_nil)) de_int) da_nil))))))))), fun ds M Φ h => ?_⟩)
  · obtain ⟨t, F, A, rfl, _⟩ := h
    rfl
  · obtain ⟨t, F, A, rfl, B, h⟩ := h
    obtain ⟨ls, hls, hrows, hsz⟩ := B.sp
    have g := B.good
    have hln : ls.length = 1 + (F.length + A.length) := by
      have := congrArg List.length hrows
      simp [headRows] at this
      omega
    have := g.f6
    have := g.a6
    walk_at "nv"
    walk_at "s"
    refine ⟨t, ls, rfl, hls, B.sz, by simp only [sizeLine]; omega, hsz, ?_⟩
    rw [show (ls.map fun l => Dat.lst (dSs (Txt.split l " "))) = (([("book" : Str)] :: headRows F A).map fun r => Dat.lst (dSs r)) from by rw [← hrows, List.map_map]; rfl]
    walk_at "s"
    intro a ha
    refine ⟨a, .unset, .unset, .unset, rfl, put_same, fun pa pc pf h1 h2 h3 n1 n2 n3 => ⟨rfl, ?_⟩⟩
    obtain ⟨m1, h1⟩ := put_none.mp h1
    obtain ⟨m2, h2⟩ := put_none.mp h2
    obtain ⟨m3, h3⟩ := put_none.mp h3
    have R0 : RdAt (((((M.put a (.obj 0 (List.replicate 3 .unset))).put pf (.lst [])).put pa (.lst [])).put pc (.lst [])).put a (.obj 0 [.v (.ref pa), .v (.ref pc), .v (.ref pf)])) a pa pc pf [] [] :=
      ⟨put_same, by simp [Mem.put, ansD, *], by simp [Mem.put, *], by simp [Mem.put, *, Ne.symm n2, Ne.symm n3], n1, n2, n3, by simp, by simp⟩
    have le : M.le (((((M.put a (.obj 0 (List.replicate 3 .unset))).put pf (.lst [])).put pa (.lst [])).put pc (.lst [])).put a (.obj 0 [.v (.ref pa), .v (.ref pc), .v (.ref pf)])) := by
      intro x c hx
      have e1 := mem_ne hx ha
      have e2 := mem_ne hx h1
      have e3 := mem_ne hx h2
      have e4 := mem_ne hx h3
      rw [put_ne e1, put_ne e3, put_ne e2, put_ne e4, put_ne e1]
      exact hx
    revert R0 le
    generalize (((((M.put a (.obj 0 (List.replicate 3 .unset))).put pf (.lst [])).put pa (.lst [])).put pc (.lst [])).put a (.obj 0 [.v (.ref pa), .v (.ref pc), .v (.ref pf)])) = M1
    intro R0 le
    walk_at "s"
    refine .seq rfl atI0 ?_
    walk_at "s"
    refine i_fr ?_
    refine i_neSs (ws := [("book" : Str)]) (vs := [("book" : Str)]) rfl rfl (okSs_cons.mpr ⟨by walk_at "ok", okSs_nil⟩) (okSs_cons.mpr ⟨by walk_at "ok", okSs_nil⟩) (b0 := false) (by simp) ?_
    walk_at "s"
    refine .lst rfl ?_
    rw [List.map_cons, cutD_tail]
    refine i_fr ?_
    walk_at "s"
    refine ⟨_, _, rfl, rfl, ?_⟩
    refine for_enum (headRows F A) (fun r => .lst (dSs r)) (fun i ρ' M' => ∃ x y, ρ' = [some (.v (.str t)), some (.lst (([("book" : Str)] :: headRows F A).map fun r => Dat.lst (dSs r))), some (.v (.ref a)), x, y] ∧ M.le M' ∧ RdAt M' a pa pc pf (F.take i) (A.take (i - F.length))) ⟨_, _, rfl, le, by simpa using R0⟩ (fun _ _ _ _ => rfl) ?_ ?_
    · rintro i r ρ' M' hr ⟨x, y, rfl, le', R⟩
      walk_at "s"
      refine i_isO (objV_at R.o) ?_
      walk_at "s"
      rcases headRows_at hr with ⟨f, hf, rfl, e1, e2⟩ | ⟨q, hi, hq, rfl, e1, e2, e3⟩
      · obtain ⟨k1, k2⟩ := g.foeAt hf
        have hf' : f ∈ F := List.mem_of_getElem? hf
        rw [e1] at R
        rw [e2, take_snoc hf]
        refine .inl ⟨a, f, rfl, a, pa, pc, pf, F.take i, f, rfl, R, by have := len_name (g.foe hf'); simp only [sizeLine]; omega, g.foe hf', k2, k1, ?_⟩
        walk_at "s"
        exact ⟨_, _, rfl, le_put le' h3, R.foe (by omega)⟩
      · obtain ⟨k1, k2, k3⟩ := g.ansAt hq
        have hq' : q ∈ A := List.mem_of_getElem? hq
        rw [e1] at R
        rw [e2, e3]
        refine .inr ⟨a, q.1 :: q.2, rfl, okSs_cons.mpr ⟨okS_name (g.ans hq'), g.okL hq'⟩, a, pa, pc, pf, F, A.take (i - F.length), q.1, q.2, rfl, R, by have := len_name (g.ans hq'); simp only [sizeLine]; omega, g.ans hq', k2, k1, g.looks q hq', k3, g.okF, fun q' h' => by have := g.lenL (List.mem_of_mem_take h'); omega, ?_⟩
        walk_at "s"
        exact ⟨_, _, rfl, le_put le' h1, R.ans (by omega)⟩
    · rintro ρ' M' ⟨x, y, rfl, le', R⟩
      rw [show (headRows F A).length = F.length + A.length from by simp [headRows], Nat.add_sub_cancel_left, List.take_length, List.take_of_length_le (by omega)] at R
      walk_at "s"
      refine i_o (objV_at R.o) T.sc_Reading T.sl_Reading_own_answers rfl (fun h => nomatch h) ?_
      walk_at "s"
      refine i_fr ?_
      refine i_neNil (lstV_at R.ha) (pdFs_ans A) (shaped_pdA fun q hq => ⟨okS_name (g.ans hq), g.okL hq⟩) (b0 := true) (by simp [ansD, g.a1]) ?_
      walk_at "s"
      exact h a pa pc pf M' le' R
abbrev s_Book_init : Stmt := clsS (topS 38) 1
theorem sc_Book_init : FnScope ["self", "text", "found", "number"] ["self", "text"] (defScope s_Book_init) := ⟨rfl, rfl, rfl, by decide +kernel, rfl, by decide +kernel, by decide +kernel⟩
theorem ok_Book_init (T : Tx K mg cl) (F : FunD K "__init__" "Book.__init__" (defArgs s_Book_init) (defBody s_Book_init) (defScope s_Book_init) [] [] f fd) (hk : Mk K (cl 1) f) (hm : mg "Book" = some (.ref (cl 1))) (b : Binds K fd ["self", "text"] []) (k_reading_of : DCal P w K mg base cl 5 "reading_of" c_reading_of) : DMak P w K mg base cl 6 "Book" 1 c_Book_init := by
  refine mak_D hk hm F b sc_Book_init (fun ds M Φ h => ?_) (fun cdv A outer s H E hr => ⟨_, (dss_cons (ds_if (dt_not (dt_val (de_callB (call_isiG (.type "str")) (cd_isi (c := (.ty "str"))) boot_isinstance T.b_isinstance (da_cons (dv 1) (da_cons (de_bltn (v := .ty "str") rfl T.b_str boot_str rfl) da_nil))))) (dss_one ds_never) dss_nil)
    (dss_cons (ds_asg (de_call k_reading_of hr (da_cons (dv 1) da_nil)) (dt_tup rfl (gds_cons (dt_name (i := 2) sc_Book_init.nd rfl (by first | exact Or.inl rfl | exact Or.inr rfl)) (gds_cons (dt_name (i := 3) sc_Book_init.nd rfl (by first | exact Or.inl rfl | exact Or.inr rfl)) gds_nil))))
    (dss_cons (ds_if (dt_cmp op_isN od_is (nomark _) (dv 2) de_non) (dss_one ds_never) dss_nil)
    (dss_cons (ds_fld (dv 0) (dv 1))
    (dss_cons (ds_fld (dv 0) (de_callTy call_tuple_of cd_tuple boot_tuple T.b_tuple (da_cons (de_fld (dv 2)) da_nil)))
    (dss_cons (ds_fld (dv 0) (de_callTy call_tuple_of cd_tuple boot_tuple T.b_tuple (da_cons (de_fld (dv 2)) da_nil)))
    (dss_one (ds_fld (dv 0) (de_callTy call_tuple_of cd_tuple boot_tuple T.b_tuple (da_cons (de_fld (dv 2)) da_nil)))))))))), fun ds M Φ h => ?_⟩)
  · obtain ⟨a, t, F, A, rfl, _⟩ := h
    rfl
  · obtain ⟨a, t, F, A, rfl, ho, B, h⟩ := h
    walk_at "nv"
    walk_at "s"
    refine ⟨t, F, A, rfl, B, fun r pa pc pf M' le R => ?_⟩
    have ho' := le a _ ho
    have n0 : r ≠ a := fun e => by have := R.o; rw [e, ho'] at this; cases this
    have n1 : pf ≠ a := fun e => by have := R.hf; rw [e, ho'] at this; cases this
    have n2 : pa ≠ a := fun e => by have := R.ha; rw [e, ho'] at this; cases this
    have n3 : pc ≠ a := fun e => by have := R.hc; rw [e, ho'] at this; cases this
    walk_at "s"
    refine i_os ho' T.sc_Book T.sl_Book_own_text rfl ?_
    walk_at "s"
    refine i_o (objV_at ((put_ne n0).trans R.o)) T.sc_Reading T.sl_Reading_own_foes rfl (fun h => nomatch h) ?_
    walk_at "s"
    refine ⟨_, _, rfl, seqV_at ((put_ne n1).trans R.hf), ?_⟩
    walk_at "s"
    refine i_os put_same T.sc_Book T.sl_Book_own_foes rfl ?_
    rw [put_put]
    walk_at "s"
    refine i_o (objV_at ((put_ne n0).trans R.o)) T.sc_Reading T.sl_Reading_own_answers rfl (fun h => nomatch h) ?_
    walk_at "s"
    refine ⟨_, _, rfl, seqV_at ((put_ne n2).trans R.ha), ?_⟩
    walk_at "s"
    refine i_os put_same T.sc_Book T.sl_Book_own_answers rfl ?_
    rw [put_put]
    walk_at "s"
    refine i_o (objV_at ((put_ne n0).trans R.o)) T.sc_Reading T.sl_Reading_own_clauses rfl (fun h => nomatch h) ?_
    walk_at "s"
    refine ⟨_, _, rfl, seqV_at ((put_ne n3).trans R.hc), ?_⟩
    walk_at "s"
    refine i_os put_same T.sc_Book T.sl_Book_own_clauses rfl ?_
    rw [put_put]
    walk_at "s"
    exact ⟨_, Mem.put_mono le, h⟩
abbrev s_Book_foes : Stmt := clsS (topS 38) 3
theorem sc_Book_foes : FnScope ["self"] ["self"] (defScope s_Book_foes) := ⟨rfl, rfl, rfl, by decide +kernel, rfl, by decide +kernel, by decide +kernel⟩
theorem ok_Book_foes (T : Tx K mg cl) (F : FunD K "foes" "Book.foes" (defArgs s_Book_foes) (defBody s_Book_foes) (defScope s_Book_foes) [] [] f fd) (hm : PAt K (cl 1) "foes" f) (b : Binds K fd ["self"] []) : DPro P w K mg base cl 1 1 "foes" c_Book_foes := by
  refine pro_D T.sc_Book hm F b sc_Book_foes (fun ds M Φ h => ?_) (fun cdv A outer s H E hr => ⟨_, (dss_one (ds_ret (de_fld (dv 0)))), fun ds M Φ h => ?_⟩)
  · obtain ⟨d, t, F, A, rfl, _⟩ := h
    rfl
  · obtain ⟨d, t, F, A, rfl, ho, h⟩ := h
    walk_at "nv"
    walk_at "s"
    refine i_o ho T.sc_Book T.sl_Book_own_foes rfl (fun h => nomatch h) ?_
    walk_at "s"
    exact h
abbrev s_Book_answers : Stmt := clsS (topS 38) 4
theorem sc_Book_answers : FnScope ["self"] ["self"] (defScope s_Book_answers) := ⟨rfl, rfl, rfl, by decide +kernel, rfl, by decide +kernel, by decide +kernel⟩
theorem ok_Book_answers (T : Tx K mg cl) (F : FunD K "answers" "Book.answers" (defArgs s_Book_answers) (defBody s_Book_answers) (defScope s_Book_answers) [] [] f fd) (hm : PAt K (cl 1) "answers" f) (b : Binds K fd ["self"] []) : DPro P w K mg base cl 1 1 "answers" c_Book_answers := by
  refine pro_D T.sc_Book hm F b sc_Book_answers (fun ds M Φ h => ?_) (fun cdv A outer s H E hr => ⟨_, (dss_one (ds_ret (de_fld (dv 0)))), fun ds M Φ h => ?_⟩)
  · obtain ⟨d, t, F, A, rfl, _⟩ := h
    rfl
  · obtain ⟨d, t, F, A, rfl, ho, h⟩ := h
    walk_at "nv"
    walk_at "s"
    refine i_o ho T.sc_Book T.sl_Book_own_answers rfl (fun h => nomatch h) ?_
    walk_at "s"
    exact h
end
end K51
set_option maxRecDepth 100000
set_option maxHeartbeats 4000000
namespace K51
open PySem PySem.Spec PyProof.Rows L2 SlX DL
local macro_rules | `(tactic| walk_at "ok") => `(tactic| first | assumption | (show PyData.strOk _ = true; decide +kernel))
local macro_rules | `(tactic| walk_at "z") => `(tactic| first | assumption | (simp only [List.length_cons, List.length_nil, List.length_map, List.length_append, sizeLine] at *; omega))
local macro_rules | `(tactic| walk_at "m") => `(tactic| first | assumption | rfl | exact put_same | (simp [Mem.put, *]; done) | (simp [Mem.put, lstV, seqV, objV, dicV, *]; done))
local macro_rules | `(tactic| walk_at "nv") => `(tactic| (try simp only [startD, wipeD, List.map_cons, List.map_nil, List.length_cons, List.length_nil, Nat.reduceAdd, Nat.reduceSub, List.reduceReplicate, List.append_nil, List.cons_append, List.nil_append, List.set_cons_zero, List.set_cons_succ]))
local macro_rules | `(tactic| walk_at "d1") => `(tactic| first
  | ((with_reducible refine i_varI ?_); refine i_var rfl ?_)
  | with_reducible refine i_c ?_
  | with_reducible refine i_op ?_
  | with_reducible refine i_test ?_
  | with_reducible refine i_chain ?_
  | with_reducible refine i_and ?_
  | with_reducible refine i_or ?_
  | with_reducible refine i_not ?_
  | with_reducible refine i_andV ?_
  | with_reducible refine i_orV ?_
  | with_reducible refine i_notV ?_
  | with_reducible refine i_if ?_
  | with_reducible refine i_nil ?_
  | with_reducible refine i_lzip ?_
  | with_reducible refine i_oint ?_
  | with_reducible refine i_ointB ?_
  | with_reducible refine i_mod (by omega) ?_
  | with_reducible refine i_lits ?_
  | with_reducible refine i_get2 ?_
  | with_reducible refine i_bits ?_
  | with_reducible refine i_lrg ?_
  | with_reducible refine i_disp ?_
  | with_reducible refine i_pnil ?_
  | with_reducible refine i_pcons ?_
  | with_reducible refine i_ndw ?_
  | with_reducible refine i_calk ?_
  | with_reducible refine i_enumT ?_
  | with_reducible refine i_zipT ?_
  | with_reducible refine i_cons ?_
  | with_reducible refine i_star ?_
  | with_reducible refine i_tup ?_
  | with_reducible refine i_lst ?_
  | with_reducible refine i_szA (by walk_at "z") ?_
  | with_reducible refine i_szB (by walk_at "z") ?_
  | with_reducible refine i_cal ?_
  | with_reducible refine i_mt ?_
  | with_reducible refine i_m1 ?_
  | with_reducible refine i_fld ?_
  | with_reducible refine i_sl ?_
  | with_reducible refine i_noP ?_
  | with_reducible refine i_part ?_
  | with_reducible refine i_neg ?_
  | with_reducible refine i_meth ?_
  | with_reducible refine i_make ?_
  | with_reducible refine i_pro ?_
  | with_reducible refine i_lc ?_
  | with_reducible refine i_yes ?_
  | with_reducible refine i_next ?_
  | with_reducible refine i_seq ?_
  | with_reducible refine i_ret ?_
  | with_reducible refine i_drop ?_
  | with_reducible refine i_ifS ?_
  | ((with_reducible refine i_gname ?_); walk_at "nv")
  | ((with_reducible refine i_gtupI ?_); refine i_gtup rfl rfl ?_)
  | with_reducible refine i_gnil ?_
  | with_reducible refine i_gcons ?_
  | with_reducible refine i_asg ?_
  | ((with_reducible refine i_par ?_); walk_at "nv")
  | ((with_reducible refine i_par3 ?_); walk_at "nv")
  | with_reducible refine i_gsub ?_
  | with_reducible refine i_gfld ?_
  | with_reducible refine i_for ?_
  | with_reducible refine i_it ?_
  | with_reducible refine i_rng1 ?_
  | with_reducible refine i_enum ?_
  | with_reducible refine i_bl ?_
  | with_reducible refine i_int ?_
  | with_reducible refine i_2 ?_
  | with_reducible refine i_3 ?_
  | with_reducible refine i_iteT ?_
  | with_reducible refine i_iteF ?_
  | with_reducible refine i_iteNT ?_
  | with_reducible refine i_iteNF ?_
  | with_reducible refine i_iteV ?_
  | with_reducible refine i_I0 ?_
  | with_reducible refine i_addI ?_
  | with_reducible refine i_lenSet ?_
  | ((with_reducible refine i_isI ?_); first | refine i_isNF rfl ?_ | refine i_isNT rfl ?_ | refine i_isN ?_)
  | ((with_reducible refine i_notI ?_); first | refine i_notNF rfl ?_ | refine i_notNT rfl ?_ | refine i_notN ?_)
  | with_reducible refine i_len_l ?_
  | with_reducible refine i_len_t ?_
  | ((with_reducible refine i_isiI ?_); refine i_isi rfl rfl ?_)
  | with_reducible refine i_len_s (by first | assumption | (simp only [sizeLine] at *; omega)) ?_
  | with_reducible refine i_it_l ?_
  | with_reducible refine i_it_t ?_
  | with_reducible refine i_it_s ?_
  | with_reducible refine i_tuple_l ?_
  | with_reducible refine i_tuple_t ?_
  | with_reducible refine i_isStr ?_
  | with_reducible refine i_fzR ?_
  | with_reducible refine i_sg ?_)
local macro_rules | `(tactic| walk_at "d") => `(tactic| ((walk_at "d1"); (repeat walk_at "d1")))
local macro_rules | `(tactic| walk_at "s") => `(tactic| (first | (walk_at "d1"; walk_at "s") | (with_reducible refine i_ite (fun hb => ?_) (fun hb => ?_) <;> walk_at "s") | skip))
section
variable {P : Program} {w : World} {K : PySem.W.Frag} {mg : Str → Option Value} {base : Heap} {cl : Nat → Addr} {f : Addr} {fd : FuncData}
def c_head_rows : DOs := fun ds M Φ => ∃ pf pa F A, ds = [.v (.ref pf), .v (.ref pa)] ∧ M pf = some (.lst (dSs F)) ∧ M pa = some (.lst (ansD A)) ∧ Good F A ∧ Φ (.lst (dSs ((headRows F A).map lineOf))) M
def c_book_of : DOs := fun ds M Φ => ∃ pf pa F A, ds = [.v (.ref pf), .v (.ref pa), .lst []] ∧ M pf = some (.lst (dSs F)) ∧ M pa = some (.lst (ansD A)) ∧ Good F A ∧ Φ (.obj 1 (bookD (textOf ([("book" : Str)] :: headRows F A)) F A)) M
def c_parity_line_in : DOs := fun ds M Φ => ∃ (v : Str) (ns N : List Str), ds = [.lst (dSs (v :: ns)), .lst (dSs N)] ∧ v ∈ [("even" : Str), "odd"] ∧ ns.Nodup ∧ ns.length ≤ 8 ∧ N.length ≤ 100 ∧ (∀ n ∈ ns, n ∈ N) ∧ Φ (.tup [.v (.str v), .tup (dSs ns)]) M
theorem bkTxt {F : List Str} {A : An} (g : Good F A) : BkTxt (textOf ([("book" : Str)] :: headRows F A)) F A := by
  refine ⟨rdTxt (by simp) (fun r hr => ?_) ?_, g⟩
  · rcases List.mem_cons.mp hr with rfl | hr
    · exact ⟨by simp, fun w hw => by rw [List.mem_singleton.mp hw]; exact wd_book, by simp⟩
    · exact g.rows r hr
  · have := g.f6
    have := g.a6
    rw [List.length_cons, headRows_len]
    omega
abbrev s_head_rows : Stmt := topS 39
theorem sc_head_rows : FnScope ["foes", "answers", "rows", "name", "looks"] ["foes", "answers"] (defScope s_head_rows) := ⟨rfl, rfl, rfl, by decide +kernel, rfl, by decide +kernel, by decide +kernel⟩
theorem ok_head_rows (T : Tx K mg cl) (F : FunD K "head_rows" "head_rows" (defArgs s_head_rows) (defBody s_head_rows) (defScope s_head_rows) [] [] f fd) (hm : mg "head_rows" = some (.ref f)) (b : Binds K fd ["foes", "answers"] []) : DCal P w K mg base cl 1 "head_rows" c_head_rows := by
  refine cal_D F hm b sc_head_rows (fun ds M Φ h => ?_) (fun cdv A outer s H E hr => ⟨_, (dss_cons (ds_setLc (i := 2) (own := [("name", 3)]) rfl sc_head_rows.nd rfl rfl (sw_true rfl rfl rfl (by decide +kernel)) (di_any (dv 0)) (blkOk_by (by rfl)) ⟨_, fun _ _ _ _ _ => (pg_name (i := 3) sc_head_rows.nd rfl (by first | exact Or.inl rfl | exact Or.inr rfl)), (gc_name (by decide))⟩ (fun _ _ _ _ _ => dtt_nil) (fun _ _ _ _ _ => (de_join (de_gstr T.g_BLANK_books) (de_lst (da_cons (de_gstr T.g_FOE_books) (da_cons (dv 3) da_nil))))))
    (dss_one (ds_ret (de_op op_addG od_add (dv 2) (de_lc (own := [("name", 3), ("looks", 4)]) rfl sc_head_rows.nd (di_any (dv 1)) (blkOk_by (by rfl)) ⟨_, fun _ _ _ _ _ => (PG.or (pg_tup (n := 2) rfl (pgs_cons (pg_name (i := 3) sc_head_rows.nd rfl (by first | exact Or.inl rfl | exact Or.inr rfl)) (pgs_cons (pg_name (i := 4) sc_head_rows.nd rfl (by first | exact Or.inl rfl | exact Or.inr rfl)) pgs_nil))) (pg_lst (n := 2) rfl (pgs_cons (pg_name (i := 3) sc_head_rows.nd rfl (by first | exact Or.inl rfl | exact Or.inr rfl)) (pgs_cons (pg_name (i := 4) sc_head_rows.nd rfl (by first | exact Or.inl rfl | exact Or.inr rfl)) pgs_nil)))), (gc_tup (gcs_cons (gc_name (by decide)) (gcs_cons (gc_name (by decide)) gcs_nil)))⟩ (fun _ _ _ _ _ => dtt_nil) (fun _ _ _ _ _ => (de_join (de_gstr T.g_BLANK_books) (de_lst (da_cons (de_gstr T.g_ANSWER_books) (da_cons (dv 3) (da_star (dv 4) da_nil))))))))))), fun ds M Φ h => ?_⟩)
  · obtain ⟨pf, pa, F, A, rfl, _⟩ := h
    rfl
  · obtain ⟨pf, pa, F, A, rfl, hf, ha, g, h⟩ := h
    have := g.f6
    have := g.a6
    walk_at "nv"
    walk_at "s"
    refine .cell hf ?_
    refine lc_map F (fun w => .v (.str w)) (fun w => .v (.str (lineOf [("foe" : Str), w]))) hf (by simp only [sizeLine]; omega) ?_ ?_
    · intro q hq T1 k
      walk_at "nv"
      walk_at "s"
      refine i_fr ?_
      refine i_line [("foe" : Str), q] rfl (fun w hw => ?_) (by simp) k
      rcases List.mem_cons.mp hw with rfl | hw
      · exact wd_foe
      · rw [List.mem_singleton.mp hw]; exact wd_name (g.foe hq)
    · refine i_fr ?_
      walk_at "s"
      refine .cell ha ?_
      refine lc_map A (fun q => .tup [.v (.str q.1), .tup (dSs q.2)]) (fun q => .v (.str (lineOf (("answer" : Str) :: q.1 :: q.2)))) ha (by simp only [sizeLine]; omega) ?_ ?_
      · intro q hq T1 k
        have hr := g.rows (("answer" : Str) :: q.1 :: q.2) (List.mem_append_right _ (List.mem_map.mpr ⟨q, hq, rfl⟩))
        walk_at "nv"
        walk_at "s"
        refine ⟨_, rfl, ?_⟩
        walk_at "s"
        refine i_fr ?_
        refine i_line (("answer" : Str) :: q.1 :: q.2) (by simp [seqV]) hr.2.1 hr.2.2 k
      · refine i_fr ?_
        refine OAdd.l (by simp [sizeLine]; omega) ?_
        walk_at "s"
        refine i_end h ?_
        simp only [headRows, List.map_append, List.map_map]
        rfl
abbrev s_book_of : Stmt := topS 40
theorem sc_book_of : FnScope ["foes", "answers", "clauses", "rows", "clause", "literal"] ["foes", "answers", "clauses"] (defScope s_book_of) := ⟨rfl, rfl, rfl, by decide +kernel, rfl, by decide +kernel, by decide +kernel⟩
theorem ok_book_of (T : Tx K mg cl) (F : FunD K "book_of" "book_of" (defArgs s_book_of) (defBody s_book_of) (defScope s_book_of) [] [] f fd) (hm : mg "book_of" = some (.ref f)) (b : Binds K fd ["foes", "answers", "clauses"] []) (mk_Book : DMak P w K mg base cl 6 "Book" 1 c_Book_init) (k_head_rows : DCal P w K mg base cl 1 "head_rows" c_head_rows) : DCal P w K mg base cl 8 "book_of" c_book_of := by
  refine cal_D F hm b sc_book_of (fun ds M Φ h => ?_) (fun cdv A outer s H E hr => ⟨_, (dss_cons (ds_setLc (i := 3) (own := [("clause", 4)]) rfl sc_book_of.nd rfl rfl (sw_true rfl rfl rfl (by decide +kernel)) (di_any (dv 2)) (blkOk_by (by rfl)) ⟨_, fun _ _ _ _ _ => (pg_name (i := 4) sc_book_of.nd rfl (by first | exact Or.inl rfl | exact Or.inr rfl)), (gc_name (by decide))⟩ (fun _ _ _ _ _ => dtt_nil) (fun _ _ _ _ _ => (de_join (de_gstr T.g_BLANK_books) (de_lst (da_cons (de_gstr T.g_CLAUSE) (da_star (de_lc (own := [("literal", 5)]) rfl sc_book_of.nd (di_any (dv 4)) (blkOk_by (by rfl)) ⟨_, fun _ _ _ _ _ => (pg_name (i := 5) sc_book_of.nd rfl (by first | exact Or.inl rfl | exact Or.inr rfl)), (gc_name (by decide))⟩ (fun _ _ _ _ _ => dtt_nil) (fun _ _ _ _ _ => de_never)) da_nil))))))
    (dss_one (ds_ret (de_make (nf := 4) mk_Book hr (da_cons (de_join (de_gstr T.g_FEED_books) (de_lst (da_cons (de_gstr T.g_BOOK) (da_star (de_call k_head_rows hr (da_cons (dv 0) (da_cons (dv 1) da_nil))) (da_star (dv 3) da_nil))))) da_nil))))), fun ds M Φ h => ?_⟩)
  · obtain ⟨pf, pa, F, A, rfl, _⟩ := h
    rfl
  · obtain ⟨pf, pa, F, A, rfl, hf, ha, g, h⟩ := h
    have := g.f6
    have := g.a6
    walk_at "nv"
    walk_at "s"
    refine lc_map ([] : List Str) (fun w => .v (.str w)) (fun w => .v (.str w)) trivial (by simp) (fun x hx => by cases hx) ?_
    refine i_fr ?_
    walk_at "s"
    refine ⟨pf, pa, F, A, rfl, hf, ha, g, ?_⟩
    refine ⟨_, rfl, ?_⟩
    walk_at "s"
    refine ⟨[], rfl, ?_⟩
    walk_at "s"
    refine ⟨by simp [headRows, sizeLine]; omega, i_fr ?_⟩
    refine i_text ([("book" : Str)] :: headRows F A) ?_ (fun r hr => ?_) (by rw [List.length_cons, headRows_len]; omega) ?_
    · simp [seqV]
      exact (by decide +kernel : lineOf [("book" : Str)] = "book").symm
    · rcases List.mem_cons.mp hr with rfl | hr
      · exact ⟨by simp, fun w hw => by rw [List.mem_singleton.mp hw]; exact wd_book, by simp⟩
      · exact g.rows r hr
    walk_at "s"
    intro a ha'
    refine ⟨a, _, F, A, rfl, put_same, bkTxt g, rfl, ?_⟩
    rw [put_put]
    refine ⟨_, _, Fz.cell put_same (fun n ds e => ?_), ?_⟩
    · cases e
      exact ⟨_, List.mem_cons_self, fun z => nomatch z⟩
    · rw [del_put ha']
      exact h
abbrev s_parity_line_in : Stmt := topS 56
theorem sc_parity_line_in : FnScope ["words", "names", "name"] ["words", "names"] (defScope s_parity_line_in) := ⟨rfl, rfl, rfl, by decide +kernel, rfl, by decide +kernel, by decide +kernel⟩
theorem ok_parity_line_in (T : Tx K mg cl) (F : FunD K "parity_line_in" "parity_line_in" (defArgs s_parity_line_in) (defBody s_parity_line_in) (defScope s_parity_line_in) [] [] f fd) (hm : mg "parity_line_in" = some (.ref f)) (b : Binds K fd ["words", "names"] []) : DCal P w K mg base cl 1 "parity_line_in" c_parity_line_in := by
  refine cal_D F hm b sc_parity_line_in (fun ds M Φ h => ?_) (fun cdv A outer s H E hr => ⟨_, (dss_cons (ds_if (DW.dt (dw_or (dt_cmp (op_ninA (hu_of hr)) od_inA (by rfl) (de_ix (hu_of hr) (dv 0) de_int) (de_tup (da_cons (de_gstr T.g_EVEN) (da_cons (de_gstr T.g_ODD) da_nil)))) (dw_or (dt_cmp op_gt od_gt (nomark _) (de_callB call_lenG cd_len boot_len T.b_len (da_cons (dv 0) da_nil)) (de_op op_addG od_add (de_gint T.g_MOST_NAMES) de_int)) (dw_or1 (dt_cmp op_lt od_lt (nomark _) (de_lenSet T.b_len T.b_set (de_sl (dv 0) (do_some de_int) do_none)) (de_op op_sub od_sub (de_callB call_lenG cd_len boot_len T.b_len (da_cons (dv 0) da_nil)) de_int)))))) (dss_one (ds_ret de_non)) dss_nil)
    (dss_one (ds_ret (de_if (dt_val (de_callB (cr_all rfl) cd_all boot_all T.b_all (da_cons (de_lc (own := [("name", 2)]) rfl sc_parity_line_in.nd (di_any (de_sl (dv 0) (do_some de_int) do_none)) (blkOk_by (by rfl)) ⟨_, fun _ _ _ _ _ => (pg_name (i := 2) sc_parity_line_in.nd rfl (by first | exact Or.inl rfl | exact Or.inr rfl)), (gc_name (by decide))⟩ (fun _ _ _ _ _ => dtt_nil) (fun _ _ _ _ _ => (de_cmp (op_inA (hu_of hr)) od_inA (by rfl) (dv 2) (dv 1)))) da_nil))) (de_tup (da_cons (de_ix (hu_of hr) (dv 0) de_int) (da_cons (de_callTy call_tuple_of cd_tuple boot_tuple T.b_tuple (da_cons (de_sl (dv 0) (do_some de_int) do_none) da_nil)) da_nil))) de_non)))), fun ds M Φ h => ?_⟩)
  · obtain ⟨v, ns, N, rfl, _⟩ := h
    rfl
  · obtain ⟨v, ns, N, rfl, hv, nd, hz, hN, hs, h⟩ := h
    walk_at "nv"
    walk_at "s"
    refine .seq rfl atI0 ?_
    walk_at "s"
    refine i_ninS (ws := [("even" : Str), "odd"]) rfl (b0 := false) (by rw [decide_eq_true hv]; rfl) ?_
    walk_at "s"
    · rename_i hb
      simp only [decide_eq_true_eq, List.length_cons, List.length_map] at hb
      omega
    refine .lst rfl ?_
    rw [cutD_tail]
    refine i_fr ?_
    refine ⟨ns, rfl, nd, by omega, ?_⟩
    walk_at "s"
    · rename_i hb
      simp only [decide_eq_true_eq, List.length_cons, List.length_map] at hb
      omega
    refine .lst rfl ?_
    rw [cutD_tail]
    refine i_fr ?_
    walk_at "s"
    refine lc_map ns (fun w => .v (.str w)) (fun w => .v (.bl true)) trivial (by simp only [sizeLine]; omega) ?_ ?_
    · intro n hn T1 k
      walk_at "nv"
      walk_at "s"
      refine i_inS rfl (b0 := true) (by simpa using hs n hn) ?_
      exact k
    · refine i_fr ?_
      walk_at "s"
      refine i_all (bs := ns.map fun _ => true) (by simp) ?_
      rw [show (ns.map fun _ => true).all id = true from by simp]
      walk_at "s"
      refine .seq rfl atI0 ?_
      walk_at "s"
      refine .lst rfl ?_
      rw [cutD_tail]
      refine i_fr ?_
      walk_at "s"
      exact h
end
end K51
set_option maxRecDepth 100000
set_option maxHeartbeats 4000000
namespace K51
open PySem PySem.Spec PyProof.Rows L2 SlX DL
local macro_rules | `(tactic| walk_at "ok") => `(tactic| first | assumption | (show PyData.strOk _ = true; decide +kernel))
local macro_rules | `(tactic| walk_at "z") => `(tactic| first | assumption | (simp only [List.length_cons, List.length_nil, List.length_map, List.length_append, sizeLine] at *; omega))
local macro_rules | `(tactic| walk_at "m") => `(tactic| first | assumption | rfl | exact put_same | (simp [Mem.put, *]; done) | (simp [Mem.put, lstV, seqV, objV, dicV, *]; done))
local macro_rules | `(tactic| walk_at "nv") => `(tactic| (try simp only [startD, wipeD, List.map_cons, List.map_nil, List.length_cons, List.length_nil, Nat.reduceAdd, Nat.reduceSub, List.reduceReplicate, List.append_nil, List.cons_append, List.nil_append, List.set_cons_zero, List.set_cons_succ]))
local macro_rules | `(tactic| walk_at "d1") => `(tactic| first
  | ((with_reducible refine i_varI ?_); refine i_var rfl ?_)
  | with_reducible refine i_c ?_
  | with_reducible refine i_op ?_
  | with_reducible refine i_test ?_
  | with_reducible refine i_chain ?_
  | with_reducible refine i_and ?_
  | with_reducible refine i_or ?_
  | with_reducible refine i_not ?_
  | with_reducible refine i_andV ?_
  | with_reducible refine i_orV ?_
  | with_reducible refine i_notV ?_
  | with_reducible refine i_if ?_
  | with_reducible refine i_nil ?_
  | with_reducible refine i_lzip ?_
  | with_reducible refine i_oint ?_
  | with_reducible refine i_ointB ?_
  | with_reducible refine i_mod (by omega) ?_
  | with_reducible refine i_lits ?_
  | with_reducible refine i_get2 ?_
  | with_reducible refine i_bits ?_
  | with_reducible refine i_lrg ?_
  | with_reducible refine i_disp ?_
  | with_reducible refine i_pnil ?_
  | with_reducible refine i_pcons ?_
  | with_reducible refine i_ndw ?_
  | with_reducible refine i_calk ?_
  | with_reducible refine i_enumT ?_
  | with_reducible refine i_zipT ?_
  | with_reducible refine i_cons ?_
  | with_reducible refine i_star ?_
  | with_reducible refine i_tup ?_
  | with_reducible refine i_lst ?_
  | with_reducible refine i_szA (by walk_at "z") ?_
  | with_reducible refine i_szB (by walk_at "z") ?_
  | with_reducible refine i_cal ?_
  | with_reducible refine i_mt ?_
  | with_reducible refine i_m1 ?_
  | with_reducible refine i_fld ?_
  | with_reducible refine i_sl ?_
  | with_reducible refine i_noP ?_
  | with_reducible refine i_part ?_
  | with_reducible refine i_neg ?_
  | with_reducible refine i_meth ?_
  | with_reducible refine i_make ?_
  | with_reducible refine i_pro ?_
  | with_reducible refine i_lc ?_
  | with_reducible refine i_yes ?_
  | with_reducible refine i_next ?_
  | with_reducible refine i_seq ?_
  | with_reducible refine i_ret ?_
  | with_reducible refine i_drop ?_
  | with_reducible refine i_ifS ?_
  | ((with_reducible refine i_gname ?_); walk_at "nv")
  | ((with_reducible refine i_gtupI ?_); refine i_gtup rfl rfl ?_)
  | with_reducible refine i_gnil ?_
  | with_reducible refine i_gcons ?_
  | with_reducible refine i_asg ?_
  | ((with_reducible refine i_par ?_); walk_at "nv")
  | ((with_reducible refine i_par3 ?_); walk_at "nv")
  | with_reducible refine i_gsub ?_
  | with_reducible refine i_gfld ?_
  | with_reducible refine i_for ?_
  | with_reducible refine i_it ?_
  | with_reducible refine i_rng1 ?_
  | with_reducible refine i_enum ?_
  | with_reducible refine i_bl ?_
  | with_reducible refine i_int ?_
  | with_reducible refine i_2 ?_
  | with_reducible refine i_3 ?_
  | with_reducible refine i_iteT ?_
  | with_reducible refine i_iteF ?_
  | with_reducible refine i_iteNT ?_
  | with_reducible refine i_iteNF ?_
  | with_reducible refine i_iteV ?_
  | with_reducible refine i_I0 ?_
  | with_reducible refine i_addI ?_
  | with_reducible refine i_lenSet ?_
  | ((with_reducible refine i_isI ?_); first | refine i_isNF rfl ?_ | refine i_isNT rfl ?_ | refine i_isN ?_)
  | ((with_reducible refine i_notI ?_); first | refine i_notNF rfl ?_ | refine i_notNT rfl ?_ | refine i_notN ?_)
  | with_reducible refine i_len_l ?_
  | with_reducible refine i_len_t ?_
  | ((with_reducible refine i_isiI ?_); refine i_isi rfl rfl ?_)
  | with_reducible refine i_len_s (by first | assumption | (simp only [sizeLine] at *; omega)) ?_
  | with_reducible refine i_it_l ?_
  | with_reducible refine i_it_t ?_
  | with_reducible refine i_it_s ?_
  | with_reducible refine i_tuple_l ?_
  | with_reducible refine i_tuple_t ?_
  | with_reducible refine i_isStr ?_
  | with_reducible refine i_fzR ?_
  | with_reducible refine i_sg ?_)
local macro_rules | `(tactic| walk_at "d") => `(tactic| ((walk_at "d1"); (repeat walk_at "d1")))
local macro_rules | `(tactic| walk_at "s") => `(tactic| (first | (walk_at "d1"; walk_at "s") | (with_reducible refine i_ite (fun hb => ?_) (fun hb => ?_) <;> walk_at "s") | skip))
section
variable {P : Program} {w : World} {K : PySem.W.Frag} {mg : Str → Option Value} {base : Heap} {cl : Nat → Addr} {f : Addr} {fd : FuncData}
/-- lines that stand -/
structure GoodL (F : List Str) (A L : An) : Prop where
  n : L.length ≤ 30
  w : ∀ q ∈ L, q.1 ∈ [("even" : Str), "odd"]
  d : ∀ q ∈ L, q.2.Nodup
  l : ∀ q ∈ L, q.2.length ≤ 8
  s : ∀ q ∈ L, ∀ x ∈ q.2, x ∈ F ++ A.map (·.1)
def lineRows (L : An) : List (List Str) := L.map fun q => q.1 :: q.2
def parRows (F : List Str) (A L : An) : List (List Str) := [("parities" : Str)] :: (headRows F A ++ lineRows L)
structure ParTxt (t : Str) (F : List Str) (A L : An) : Prop extends RdTxt t (parRows F A L) where
  good : Good F A
  goodL : GoodL F A L
def c_parities_in : DOs := fun ds M Φ => ∃ t F A L, ds = [.v (.str t)] ∧ ParTxt t F A L ∧ ∀ a pa pc pf pl M', M.le M' → RdAt M' a pa pc pf F A → M' pl = some (.lst (ansD L)) → Φ (.tup [.v (.ref a), .v (.ref pl), .v .non]) M'
def parD (t : Str) (F : List Str) (A L : An) : List Dat := [.obj 1 (bookD (textOf ([("book" : Str)] :: headRows F A)) F A), .tup (ansD L), .v (.str t)]
def c_Parities_init : DOs := fun ds M Φ => ∃ a t F A L, ds = [.v (.ref a), .v (.str t)] ∧ M a = some (.obj 2 [.unset, .unset, .unset]) ∧ ParTxt t F A L ∧ Φ (.v .non) (M.put a (.obj 2 (parD t F A L)))
def c_Parities_foes : DOs := fun ds M Φ => ∃ d t F A L, ds = [d] ∧ objV M d = some (2, parD t F A L) ∧ Φ (.tup (dSs F)) M
def c_Parities_answers : DOs := fun ds M Φ => ∃ d t F A L, ds = [d] ∧ objV M d = some (2, parD t F A L) ∧ Φ (.tup (ansD A)) M
/-- which row stands at i -/
theorem parRows_at {F : List Str} {A L : An} {i : Nat} {r : List Str} (h : (headRows F A ++ lineRows L)[i]? = some r) : ((headRows F A)[i]? = some r ∧ i < F.length + A.length ∧ L.take (i - (F.length + A.length)) = [] ∧ L.take (i + 1 - (F.length + A.length)) = []) ∨
    ∃ q, F.length + A.length ≤ i ∧ L[i - (F.length + A.length)]? = some q ∧ r = q.1 :: q.2 ∧ L.take (i + 1 - (F.length + A.length)) = L.take (i - (F.length + A.length)) ++ [q] := by
  by_cases hi : i < F.length + A.length
  · left
    rw [List.getElem?_append_left (by rw [headRows_len]; exact hi)] at h
    refine ⟨h, hi, ?_, ?_⟩
    · rw [show i - (F.length + A.length) = 0 by omega]; rfl
    · rw [show i + 1 - (F.length + A.length) = 0 by omega]; rfl
  · right
    rw [List.getElem?_append_right (by rw [headRows_len]; omega), headRows_len] at h
    unfold lineRows at h
    rw [List.getElem?_map] at h
    cases hf : L[i - (F.length + A.length)]? with
    | none => rw [hf] at h; cases h
    | some q =>
      rw [hf] at h
      refine ⟨q, by omega, rfl, (Option.some.inj h).symm, ?_⟩
      rw [show i + 1 - (F.length + A.length) = (i - (F.length + A.length)) + 1 by omega]
      exact take_snoc hf
abbrev s_parities_in : Stmt := topS 57
theorem sc_parities_in : FnScope ["text", "rows", "found", "lines", "at", "words", "does_stand", "line"] ["text"] (defScope s_parities_in) := ⟨rfl, rfl, rfl, by decide +kernel, rfl, by decide +kernel, by decide +kernel⟩
theorem ok_parities_in (T : Tx K mg cl) (F : FunD K "parities_in" "parities_in" (defArgs s_parities_in) (defBody s_parities_in) (defScope s_parities_in) [] [] f fd) (hm : mg "parities_in" = some (.ref f)) (b : Binds K fd ["text"] []) (mk_Reading : DMak P w K mg base cl 1 "Reading" 0 c_Reading_init) (k_lines_of : DCal P w K mg base cl 1 "lines_of" c_lines_of) (m_Reading_put_line : DMet P w K mg base cl 4 0 "put_line" c_Reading_put_line) (k_parity_line_in : DCal P w K mg base cl 1 "parity_line_in" c_parity_line_in) (m_Reading_all_names : DMet P w K mg base cl 1 0 "all_names" c_Reading_all_names) : DCal P w K mg base cl 5 "parities_in" c_parities_in := by
  refine cal_D F hm b sc_parities_in (fun ds M Φ h => ?_) (fun cdv A outer s H E hr => ⟨_, (dss_cons (ds_par3 (i := 1) (j := 2) (l := 3) rfl sc_parities_in.nd rfl rfl rfl (da_cons (de_call k_lines_of hr (da_cons (dv 0) da_nil)) (da_cons (de_make0 (nf := 3) mk_Reading hr) (da_cons (de_lst da_nil) da_nil))))
    (dss_cons (ds_if (dt_cmp (op_neD hr.units) od_ne (nomark _) (de_ix (hu_of hr) (dv 1) de_int) (de_lst (da_cons (de_gstr T.g_PARITIES) da_nil))) (dss_one (ds_ret (de_tup (da_cons de_non (da_cons de_non (da_cons de_int da_nil)))))) dss_nil)
    (dss_cons (ds_for PassesOwn.never rfl (di_enum T.b_enumerate (da_cons (de_sl (dv 1) (do_some de_int) do_none) da_nil)) (dt_tup rfl (gds_cons (dt_name (i := 4) sc_parities_in.nd rfl (by first | exact Or.inl rfl | exact Or.inr rfl)) (gds_cons (dt_name (i := 5) sc_parities_in.nd rfl (by first | exact Or.inl rfl | exact Or.inr rfl)) gds_nil)))
    (dss_cons (ds_if (dt_cmp (op_inA (hu_of hr)) od_inA (by rfl) (de_ix (hu_of hr) (dv 5) de_int) (de_tup (da_cons (de_gstr T.g_FOE_parities) (da_cons (de_gstr T.g_ANSWER_parities) da_nil)))) (dss_one (ds_set (i := 6) sc_parities_in.nd rfl (by first | exact Or.inl rfl | exact Or.inr rfl) (de_and (de_cmp (op_eqD hr.units) od_eq (nomark _) (dv 3) (de_lst da_nil)) (de_one (de_meth m_Reading_put_line hr (dv 2) (da_cons (dv 5) da_nil)))))) (dss_cons (ds_set (i := 7) sc_parities_in.nd rfl (by first | exact Or.inl rfl | exact Or.inr rfl) (de_call k_parity_line_in hr (da_cons (dv 5) (da_cons (de_meth0 m_Reading_all_names hr (dv 2)) da_nil))))
    (dss_cons (ds_set (i := 6) sc_parities_in.nd rfl (by first | exact Or.inl rfl | exact Or.inr rfl) (de_and (de_cmp op_notN od_isnt (nomark _) (dv 7) de_non) (de_and (de_cmp (op_neD hr.units) od_ne (nomark _) (de_fld (dv 2)) (de_lst da_nil)) (de_one (de_cmp op_lt od_lt (nomark _) (de_callB call_lenG cd_len boot_len T.b_len (da_cons (dv 3) da_nil)) (de_gint T.g_MOST_LINES))))))
    (dss_one (ds_expr (de_mtL PySem.F.slot_list_append PySem.F.type_list_append mt_append md_append (dv 3) (da_cons (dv 7) da_nil)))))))
    (dss_one (ds_if (dt_not (dt_val (dv 6))) (dss_one (ds_ret (de_tup (da_cons de_non (da_cons de_non (da_cons (de_op op_addG od_add (dv 4) (de_gint T.g_PAIR_parities)) da_nil)))))) dss_nil))))
    (dss_cons (ds_if (dt_cmp (op_eqD hr.units) od_eq (nomark _) (de_fld (dv 2)) (de_lst da_nil)) (dss_one (ds_ret (de_tup (da_cons de_non (da_cons de_non (da_cons (de_op op_addG od_add (de_callB call_lenG cd_len boot_len T.b_len (da_cons (dv 1) da_nil)) de_int) da_nil)))))) dss_nil)
    (dss_one (ds_ret (de_tup (da_cons (dv 2) (da_cons (dv 3) (da_cons de_non da_nil)))))))))), fun ds M Φ h => ?_⟩)
  · obtain ⟨t, F, A, L, rfl, _⟩ := h
    rfl
  · obtain ⟨t, F, A, L, rfl, B, h⟩ := h
    obtain ⟨ls, hls, hrows, hsz⟩ := B.sp
    have g := B.good
    have gl := B.goodL
    have := g.f6
    have := g.a6
    have := gl.n
    have hln : ls.length = 1 + (F.length + A.length + L.length) := by
      have := congrArg List.length hrows
      simp [parRows, headRows, lineRows] at this
      omega
    walk_at "nv"
    walk_at "s"
    refine ⟨t, ls, rfl, hls, B.sz, by simp only [sizeLine]; omega, hsz, ?_⟩
    rw [show (ls.map fun l => Dat.lst (dSs (Txt.split l " "))) = ((parRows F A L).map fun r => Dat.lst (dSs r)) from by rw [← hrows, List.map_map]; rfl]
    walk_at "s"
    intro a ha
    refine ⟨a, .unset, .unset, .unset, rfl, put_same, fun pa pc pf h1 h2 h3 n1 n2 n3 => ⟨rfl, ?_⟩⟩
    obtain ⟨m1, h1⟩ := put_none.mp h1
    obtain ⟨m2, h2⟩ := put_none.mp h2
    obtain ⟨m3, h3⟩ := put_none.mp h3
    have R0 : RdAt (((((M.put a (.obj 0 (List.replicate 3 .unset))).put pf (.lst [])).put pa (.lst [])).put pc (.lst [])).put a (.obj 0 [.v (.ref pa), .v (.ref pc), .v (.ref pf)])) a pa pc pf [] [] :=
      ⟨put_same, by simp [Mem.put, ansD, *], by simp [Mem.put, *], by simp [Mem.put, *, Ne.symm n2, Ne.symm n3], n1, n2, n3, by simp, by simp⟩
    have le : M.le (((((M.put a (.obj 0 (List.replicate 3 .unset))).put pf (.lst [])).put pa (.lst [])).put pc (.lst [])).put a (.obj 0 [.v (.ref pa), .v (.ref pc), .v (.ref pf)])) := by
      intro x c hx
      have e1 := mem_ne hx ha
      have e2 := mem_ne hx h1
      have e3 := mem_ne hx h2
      have e4 := mem_ne hx h3
      rw [put_ne e1, put_ne e3, put_ne e2, put_ne e4, put_ne e1]
      exact hx
    revert R0 le
    generalize (((((M.put a (.obj 0 (List.replicate 3 .unset))).put pf (.lst [])).put pa (.lst [])).put pc (.lst [])).put a (.obj 0 [.v (.ref pa), .v (.ref pc), .v (.ref pf)])) = M1
    intro R0 le
    walk_at "s"
    refine i_new fun pl hpl => ?_
    have hpl0 : M pl = none := by
      cases q : M pl with
      | none => rfl
      | some c => rw [le _ _ q] at hpl; cases hpl
    walk_at "s"
    refine .seq rfl atI0 ?_
    walk_at "s"
    refine i_fr ?_
    refine i_neSs (ws := [("parities" : Str)]) (vs := [("parities" : Str)]) rfl rfl (okSs_cons.mpr ⟨by walk_at "ok", okSs_nil⟩) (okSs_cons.mpr ⟨by walk_at "ok", okSs_nil⟩) (b0 := false) (by simp) ?_
    walk_at "s"
    refine .lst rfl ?_
    unfold parRows
    rw [List.map_cons, cutD_tail]
    refine i_fr ?_
    walk_at "s"
    refine ⟨_, _, rfl, rfl, ?_⟩
    have nl : pl ≠ a ∧ pl ≠ pa ∧ pl ≠ pc ∧ pl ≠ pf := by
      refine ⟨fun e => ?_, fun e => ?_, fun e => ?_, fun e => ?_⟩
      · rw [e, R0.o] at hpl; cases hpl
      · rw [e, R0.ha] at hpl; cases hpl
      · rw [e, R0.hc] at hpl; cases hpl
      · rw [e, R0.hf] at hpl; cases hpl
    refine for_enum (headRows F A ++ lineRows L) (fun r => .lst (dSs r)) (fun i ρ' M' => ∃ x y z u, ρ' = [some (.v (.str t)), some (.lst (([("parities" : Str)] :: (headRows F A ++ lineRows L)).map fun r => Dat.lst (dSs r))), some (.v (.ref a)), some (.v (.ref pl)), x, y, z, u] ∧ M.le M' ∧ RdAt M' a pa pc pf (F.take i) (A.take (i - F.length)) ∧ M' pl = some (.lst (ansD (L.take (i - (F.length + A.length)))))) ⟨_, _, _, _, rfl, ?_, ?_, ?_⟩ (fun _ _ _ _ => rfl) ?_ ?_
    · exact le_put le hpl0
    · obtain ⟨x1, x2, x3, x4⟩ := nl
      exact ⟨(put_ne (Ne.symm x1)).trans R0.o, by rw [put_ne (Ne.symm x2)]; simpa using R0.ha, (put_ne (Ne.symm x3)).trans R0.hc, by rw [put_ne (Ne.symm x4)]; simpa using R0.hf, R0.n1, R0.n2, R0.n3, by simp, by simp⟩
    · rw [put_same, Nat.zero_sub]; rfl
    · rintro i r ρ' M' hr ⟨x, y, z, u, rfl, le', R, hL⟩
      walk_at "s"
      rcases parRows_at hr with ⟨hr, hi, el1, el2⟩ | ⟨q, hi, hq, rfl, el⟩
      · have fin : ∀ (M2 : Mem) (F2 : List Str) (A2 : An), M.le M2 → RdAt M2 a pa pc pf F2 A2 → F2 = F.take (i + 1) → A2 = A.take (i + 1 - F.length) → M2 pl = some (.lst (ansD [])) → M.le M2 ∧ RdAt M2 a pa pc pf (F.take (i + 1)) (A.take (i + 1 - F.length)) ∧ M2 pl = some (.lst (ansD (L.take (i + 1 - (F.length + A.length))))) := fun M2 F2 A2 h1 h2 h3 h4 h5 => by
          subst h3 h4
          rw [el2]
          exact ⟨h1, h2, h5⟩
        rw [el1] at hL
        rcases headRows_at hr with ⟨f, hf, rfl, e1, e2⟩ | ⟨q, hi, hq, rfl, e1, e2, e3⟩
        · obtain ⟨k1, k2⟩ := g.foeAt hf
          have hf' : f ∈ F := List.mem_of_getElem? hf
          rw [e1] at R
          refine .seq rfl rfl ?_
          walk_at "s"
          refine i_inS (ws := [("foe" : Str), "answer"]) rfl (b0 := true) (by decide +kernel) ?_
          walk_at "s"
          refine i_fr ?_
          refine i_eqNil (lstV_at hL) rfl rfl (b0 := true) rfl ?_
          walk_at "s"
          refine i_isO (objV_at R.o) ?_
          walk_at "s"
          refine .inl ⟨a, f, rfl, a, pa, pc, pf, F.take i, f, rfl, R, by have := len_name (g.foe hf'); simp only [sizeLine]; omega, g.foe hf', k2, k1, ?_⟩
          walk_at "s"
          exact ⟨_, _, _, _, rfl, fin _ _ _ (le_put le' h3) (R.foe (by omega)) (take_snoc hf).symm e2.symm ((put_ne nl.2.2.2).trans hL)⟩
        · obtain ⟨k1, k2, k3⟩ := g.ansAt hq
          have hq' : q ∈ A := List.mem_of_getElem? hq
          rw [e1] at R
          refine .seq rfl atI0 ?_
          walk_at "s"
          refine i_inS (ws := [("foe" : Str), "answer"]) rfl (b0 := true) (by decide +kernel) ?_
          walk_at "s"
          refine i_fr ?_
          refine i_eqNil (lstV_at hL) rfl rfl (b0 := true) rfl ?_
          walk_at "s"
          refine i_isO (objV_at R.o) ?_
          walk_at "s"
          refine .inr ⟨a, q.1 :: q.2, rfl, okSs_cons.mpr ⟨okS_name (g.ans hq'), g.okL hq'⟩, a, pa, pc, pf, F, A.take (i - F.length), q.1, q.2, rfl, R, by have := len_name (g.ans hq'); simp only [sizeLine]; omega, g.ans hq', k2, k1, g.looks q hq', k3, g.okF, fun q' h' => by have := g.lenL (List.mem_of_mem_take h'); omega, ?_⟩
          walk_at "s"
          exact ⟨_, _, _, _, rfl, fin _ _ _ (le_put le' h1) (R.ans (by omega)) e2.symm e3.symm ((put_ne nl.2.1).trans hL)⟩
      · have hq' : q ∈ L := List.mem_of_getElem? hq
        have hw := gl.w q hq'
        have eF : ∀ j, i ≤ j → F.take j = F := fun j hj => List.take_of_length_le (by omega)
        have eA : ∀ j, i ≤ j → A.take (j - F.length) = A := fun j hj => List.take_of_length_le (by omega)
        rw [eF i (Nat.le_refl _), eA i (Nat.le_refl _)] at R
        refine .seq rfl atI0 ?_
        walk_at "s"
        refine i_inS (ws := [("foe" : Str), "answer"]) rfl (b0 := false) ?_ ?_
        · rcases List.mem_cons.mp hw with e | hw
          · rw [e]; decide +kernel
          · rw [List.mem_singleton.mp hw]; decide +kernel
        walk_at "s"
        refine i_isO (objV_at R.o) ?_
        walk_at "s"
        refine ⟨a, pa, pc, pf, F, A, rfl, R, ?_⟩
        refine ⟨q.1, q.2, F ++ A.map (·.1), rfl, hw, gl.d q hq', gl.l q hq', by simp; omega, gl.s q hq', ?_⟩
        walk_at "s"
        refine i_o (objV_at R.o) T.sc_Reading T.sl_Reading_own_answers rfl (fun h => nomatch h) ?_
        walk_at "s"
        refine i_fr ?_
        refine i_neNil (lstV_at R.ha) (pdFs_ans A) (shaped_pdA fun q hq => ⟨okS_name (g.ans hq), g.okL hq⟩) (b0 := true) (by simp [ansD, g.a1]) ?_
        walk_at "s"
        refine .seq (seqV_at hL) ?_
        walk_at "s"
        have hlt : i - (F.length + A.length) < L.length := (List.getElem?_eq_some_iff.mp hq).1
        have hlen : (ansD (L.take (i - (F.length + A.length)))).length = i - (F.length + A.length) := by simp [ansD]; omega
        rw [hlen, decide_eq_true (show ((i - (F.length + A.length) : Nat) : Int) < 30 by omega)]
        walk_at "s"
        refine i_isL (lstV_at hL) ?_
        walk_at "s"
        refine i_append hL (by rw [hlen]; simp only [sizeLine]; omega) ?_
        walk_at "s"
        refine ⟨_, _, _, _, rfl, le_put le' hpl0, ?_, ?_⟩
        · rw [eF _ (by omega), eA _ (by omega)]
          obtain ⟨x1, x2, x3, x4⟩ := nl
          exact ⟨(put_ne (Ne.symm x1)).trans R.o, (put_ne (Ne.symm x2)).trans R.ha, (put_ne (Ne.symm x3)).trans R.hc, (put_ne (Ne.symm x4)).trans R.hf, R.n1, R.n2, R.n3, R.sf, R.sa⟩
        · rw [put_same, el]
          simp [ansD]
    · rintro ρ' M' ⟨x, y, z, u, rfl, le', R, hL⟩
      rw [show (headRows F A ++ lineRows L).length = F.length + A.length + L.length from by simp [headRows, lineRows]; omega] at R hL
      rw [List.take_of_length_le (by omega), List.take_of_length_le (by omega)] at R
      rw [List.take_of_length_le (by omega)] at hL
      walk_at "s"
      refine i_o (objV_at R.o) T.sc_Reading T.sl_Reading_own_answers rfl (fun h => nomatch h) ?_
      walk_at "s"
      refine i_fr ?_
      refine i_eqNil (lstV_at R.ha) (pdFs_ans A) (shaped_pdA fun q hq => ⟨okS_name (g.ans hq), g.okL hq⟩) (b0 := false) (by simp [ansD, g.a1]) ?_
      walk_at "s"
      exact h a pa pc pf pl M' le' R hL
abbrev s_Parities_init : Stmt := clsS (topS 58) 1
theorem sc_Parities_init : FnScope ["self", "text", "found", "lines", "number"] ["self", "text"] (defScope s_Parities_init) := ⟨rfl, rfl, rfl, by decide +kernel, rfl, by decide +kernel, by decide +kernel⟩
theorem ok_Parities_init (T : Tx K mg cl) (F : FunD K "__init__" "Parities.__init__" (defArgs s_Parities_init) (defBody s_Parities_init) (defScope s_Parities_init) [] [] f fd) (hk : Mk K (cl 2) f) (hm : mg "Parities" = some (.ref (cl 2))) (b : Binds K fd ["self", "text"] []) (k_parities_in : DCal P w K mg base cl 5 "parities_in" c_parities_in) (k_book_of : DCal P w K mg base cl 8 "book_of" c_book_of) : DMak P w K mg base cl 9 "Parities" 2 c_Parities_init := by
  refine mak_D hk hm F b sc_Parities_init (fun ds M Φ h => ?_) (fun cdv A outer s H E hr => ⟨_, (dss_cons (ds_if (dt_not (dt_val (de_callB (call_isiG (.type "str")) (cd_isi (c := (.ty "str"))) boot_isinstance T.b_isinstance (da_cons (dv 1) (da_cons (de_bltn (v := .ty "str") rfl T.b_str boot_str rfl) da_nil))))) (dss_one ds_never) dss_nil)
    (dss_cons (ds_asg (de_call k_parities_in hr (da_cons (dv 1) da_nil)) (dt_tup rfl (gds_cons (dt_name (i := 2) sc_Parities_init.nd rfl (by first | exact Or.inl rfl | exact Or.inr rfl)) (gds_cons (dt_name (i := 3) sc_Parities_init.nd rfl (by first | exact Or.inl rfl | exact Or.inr rfl)) (gds_cons (dt_name (i := 4) sc_Parities_init.nd rfl (by first | exact Or.inl rfl | exact Or.inr rfl)) gds_nil)))))
    (dss_cons (ds_if (dt_cmp op_isN od_is (nomark _) (dv 2) de_non) (dss_one ds_never) dss_nil)
    (dss_cons (ds_fld (dv 0) (dv 1))
    (dss_cons (ds_fld (dv 0) (de_call k_book_of hr (da_cons (de_fld (dv 2)) (da_cons (de_fld (dv 2)) (da_cons (de_lst da_nil) da_nil)))))
    (dss_one (ds_fld (dv 0) (de_callTy call_tuple_of cd_tuple boot_tuple T.b_tuple (da_cons (dv 3) da_nil))))))))), fun ds M Φ h => ?_⟩)
  · obtain ⟨a, t, F, A, L, rfl, _⟩ := h
    rfl
  · obtain ⟨a, t, F, A, L, rfl, ho, B, h⟩ := h
    have g := B.good
    walk_at "nv"
    walk_at "s"
    refine ⟨t, F, A, L, rfl, B, fun r pa pc pf pl M' le R hL => ?_⟩
    have ho' := le a _ ho
    have n0 : r ≠ a := fun e => by have := R.o; rw [e, ho'] at this; cases this
    have n1 : pf ≠ a := fun e => by have := R.hf; rw [e, ho'] at this; cases this
    have n2 : pa ≠ a := fun e => by have := R.ha; rw [e, ho'] at this; cases this
    have n3 : pl ≠ a := fun e => by rw [e, ho'] at hL; cases hL
    walk_at "s"
    refine i_os ho' T.sc_Parities T.sl_Parities_own_text rfl ?_
    walk_at "s"
    refine i_o (objV_at ((put_ne n0).trans R.o)) T.sc_Reading T.sl_Reading_own_foes rfl (fun h => nomatch h) ?_
    walk_at "s"
    refine i_o (objV_at ((put_ne n0).trans R.o)) T.sc_Reading T.sl_Reading_own_answers rfl (fun h => nomatch h) ?_
    walk_at "s"
    refine i_fr ?_
    walk_at "s"
    refine ⟨pf, pa, F, A, rfl, (put_ne n1).trans R.hf, (put_ne n2).trans R.ha, g, ?_⟩
    walk_at "s"
    refine i_os put_same T.sc_Parities T.sl_Parities_own_bare rfl ?_
    rw [put_put]
    walk_at "s"
    refine ⟨_, _, rfl, seqV_at ((put_ne n3).trans hL), ?_⟩
    walk_at "s"
    refine i_os put_same T.sc_Parities T.sl_Parities_own_lines rfl ?_
    rw [put_put]
    walk_at "s"
    exact ⟨_, Mem.put_mono le, h⟩
abbrev s_Parities_foes : Stmt := clsS (topS 58) 3
theorem sc_Parities_foes : FnScope ["self"] ["self"] (defScope s_Parities_foes) := ⟨rfl, rfl, rfl, by decide +kernel, rfl, by decide +kernel, by decide +kernel⟩
theorem ok_Parities_foes (T : Tx K mg cl) (F : FunD K "foes" "Parities.foes" (defArgs s_Parities_foes) (defBody s_Parities_foes) (defScope s_Parities_foes) [] [] f fd) (hm : PAt K (cl 2) "foes" f) (b : Binds K fd ["self"] []) (p_Book_foes : DPro P w K mg base cl 1 1 "foes" c_Book_foes) : DPro P w K mg base cl 3 2 "foes" c_Parities_foes := by
  refine pro_D T.sc_Parities hm F b sc_Parities_foes (fun ds M Φ h => ?_) (fun cdv A outer s H E hr => ⟨_, (dss_one (ds_ret (de_pro p_Book_foes hr (de_fld (dv 0))))), fun ds M Φ h => ?_⟩)
  · obtain ⟨d, t, F, A, L, rfl, _⟩ := h
    rfl
  · obtain ⟨d, t, F, A, L, rfl, ho, h⟩ := h
    walk_at "nv"
    walk_at "s"
    refine i_o ho T.sc_Parities T.sl_Parities_own_bare rfl (fun h => nomatch h) ?_
    refine i_isO rfl ?_
    walk_at "s"
    refine ⟨_, _, F, A, rfl, rfl, ?_⟩
    walk_at "s"
    exact h
abbrev s_Parities_answers : Stmt := clsS (topS 58) 4
theorem sc_Parities_answers : FnScope ["self"] ["self"] (defScope s_Parities_answers) := ⟨rfl, rfl, rfl, by decide +kernel, rfl, by decide +kernel, by decide +kernel⟩
theorem ok_Parities_answers (T : Tx K mg cl) (F : FunD K "answers" "Parities.answers" (defArgs s_Parities_answers) (defBody s_Parities_answers) (defScope s_Parities_answers) [] [] f fd) (hm : PAt K (cl 2) "answers" f) (b : Binds K fd ["self"] []) (p_Book_answers : DPro P w K mg base cl 1 1 "answers" c_Book_answers) : DPro P w K mg base cl 3 2 "answers" c_Parities_answers := by
  refine pro_D T.sc_Parities hm F b sc_Parities_answers (fun ds M Φ h => ?_) (fun cdv A outer s H E hr => ⟨_, (dss_one (ds_ret (de_pro p_Book_answers hr (de_fld (dv 0))))), fun ds M Φ h => ?_⟩)
  · obtain ⟨d, t, F, A, L, rfl, _⟩ := h
    rfl
  · obtain ⟨d, t, F, A, L, rfl, ho, h⟩ := h
    walk_at "nv"
    walk_at "s"
    refine i_o ho T.sc_Parities T.sl_Parities_own_bare rfl (fun h => nomatch h) ?_
    refine i_isO rfl ?_
    walk_at "s"
    refine ⟨_, _, F, A, rfl, rfl, ?_⟩
    walk_at "s"
    exact h
end
end K51
set_option maxRecDepth 100000
set_option maxHeartbeats 4000000
namespace K51
open PySem PySem.Spec PyProof.Rows L2 SlX DL
local macro_rules | `(tactic| walk_at "ok") => `(tactic| first | assumption | (show PyData.strOk _ = true; decide +kernel))
local macro_rules | `(tactic| walk_at "z") => `(tactic| first | assumption | (simp only [List.length_cons, List.length_nil, List.length_map, List.length_append, sizeLine] at *; omega))
local macro_rules | `(tactic| walk_at "m") => `(tactic| first | assumption | rfl | exact put_same | (simp [Mem.put, *]; done) | (simp [Mem.put, lstV, seqV, objV, dicV, *]; done))
local macro_rules | `(tactic| walk_at "nv") => `(tactic| (try simp only [startD, wipeD, List.map_cons, List.map_nil, List.length_cons, List.length_nil, Nat.reduceAdd, Nat.reduceSub, List.reduceReplicate, List.append_nil, List.cons_append, List.nil_append, List.set_cons_zero, List.set_cons_succ]))
local macro_rules | `(tactic| walk_at "d1") => `(tactic| first
  | ((with_reducible refine i_varI ?_); refine i_var rfl ?_)
  | with_reducible refine i_c ?_
  | with_reducible refine i_op ?_
  | with_reducible refine i_test ?_
  | with_reducible refine i_chain ?_
  | with_reducible refine i_and ?_
  | with_reducible refine i_or ?_
  | with_reducible refine i_not ?_
  | with_reducible refine i_andV ?_
  | with_reducible refine i_orV ?_
  | with_reducible refine i_notV ?_
  | with_reducible refine i_if ?_
  | with_reducible refine i_nil ?_
  | with_reducible refine i_lzip ?_
  | with_reducible refine i_oint ?_
  | with_reducible refine i_ointB ?_
  | with_reducible refine i_mod (by omega) ?_
  | with_reducible refine i_lits ?_
  | with_reducible refine i_get2 ?_
  | with_reducible refine i_bits ?_
  | with_reducible refine i_lrg ?_
  | with_reducible refine i_disp ?_
  | with_reducible refine i_pnil ?_
  | with_reducible refine i_pcons ?_
  | with_reducible refine i_ndw ?_
  | with_reducible refine i_calk ?_
  | with_reducible refine i_enumT ?_
  | with_reducible refine i_zipT ?_
  | with_reducible refine i_cons ?_
  | with_reducible refine i_star ?_
  | with_reducible refine i_tup ?_
  | with_reducible refine i_lst ?_
  | with_reducible refine i_szA (by walk_at "z") ?_
  | with_reducible refine i_szB (by walk_at "z") ?_
  | with_reducible refine i_cal ?_
  | with_reducible refine i_mt ?_
  | with_reducible refine i_m1 ?_
  | with_reducible refine i_fld ?_
  | with_reducible refine i_sl ?_
  | with_reducible refine i_noP ?_
  | with_reducible refine i_part ?_
  | with_reducible refine i_neg ?_
  | with_reducible refine i_meth ?_
  | with_reducible refine i_make ?_
  | with_reducible refine i_pro ?_
  | with_reducible refine i_lc ?_
  | with_reducible refine i_yes ?_
  | with_reducible refine i_next ?_
  | with_reducible refine i_seq ?_
  | with_reducible refine i_ret ?_
  | with_reducible refine i_drop ?_
  | with_reducible refine i_ifS ?_
  | ((with_reducible refine i_gname ?_); walk_at "nv")
  | ((with_reducible refine i_gtupI ?_); refine i_gtup rfl rfl ?_)
  | with_reducible refine i_gnil ?_
  | with_reducible refine i_gcons ?_
  | with_reducible refine i_asg ?_
  | ((with_reducible refine i_par ?_); walk_at "nv")
  | ((with_reducible refine i_par3 ?_); walk_at "nv")
  | with_reducible refine i_gsub ?_
  | with_reducible refine i_gfld ?_
  | with_reducible refine i_for ?_
  | with_reducible refine i_it ?_
  | with_reducible refine i_rng1 ?_
  | with_reducible refine i_enum ?_
  | with_reducible refine i_bl ?_
  | with_reducible refine i_int ?_
  | with_reducible refine i_2 ?_
  | with_reducible refine i_3 ?_
  | with_reducible refine i_iteT ?_
  | with_reducible refine i_iteF ?_
  | with_reducible refine i_iteNT ?_
  | with_reducible refine i_iteNF ?_
  | with_reducible refine i_iteV ?_
  | with_reducible refine i_I0 ?_
  | with_reducible refine i_addI ?_
  | with_reducible refine i_lenSet ?_
  | ((with_reducible refine i_isI ?_); first | refine i_isNF rfl ?_ | refine i_isNT rfl ?_ | refine i_isN ?_)
  | ((with_reducible refine i_notI ?_); first | refine i_notNF rfl ?_ | refine i_notNT rfl ?_ | refine i_notN ?_)
  | with_reducible refine i_len_l ?_
  | with_reducible refine i_len_t ?_
  | ((with_reducible refine i_isiI ?_); refine i_isi rfl rfl ?_)
  | with_reducible refine i_len_s (by first | assumption | (simp only [sizeLine] at *; omega)) ?_
  | with_reducible refine i_it_l ?_
  | with_reducible refine i_it_t ?_
  | with_reducible refine i_it_s ?_
  | with_reducible refine i_tuple_l ?_
  | with_reducible refine i_tuple_t ?_
  | with_reducible refine i_isStr ?_
  | with_reducible refine i_fzR ?_
  | with_reducible refine i_sg ?_)
local macro_rules | `(tactic| walk_at "d") => `(tactic| ((walk_at "d1"); (repeat walk_at "d1")))
local macro_rules | `(tactic| walk_at "s") => `(tactic| (first | (walk_at "d1"; walk_at "s") | (with_reducible refine i_ite (fun hb => ?_) (fun hb => ?_) <;> walk_at "s") | skip))
abbrev dIs (r : List Int) : List Dat := r.map fun i => .v (.int i)
def rowsN : Nat → List (List Int)
  | 0 => [[]]
  | n + 1 => (rowsN n).map (0 :: ·) ++ (rowsN n).map (1 :: ·)
theorem rowsN_len : ∀ n, (rowsN n).length = 2 ^ n
  | 0 => rfl
  | n + 1 => by simp [rowsN, rowsN_len n]; omega
theorem rowsN_mem : ∀ {n : Nat} {r : List Int}, r ∈ rowsN n → r.length = n
  | 0, r, h => by rw [List.mem_singleton.mp h]; rfl
  | n + 1, r, h => by
    unfold rowsN at h
    rcases List.mem_append.mp h with h | h
    · obtain ⟨q, hq, rfl⟩ := List.mem_map.mp h
      simp [rowsN_mem hq]
    · obtain ⟨q, hq, rfl⟩ := List.mem_map.mp h
      simp [rowsN_mem hq]
abbrev Cl := Str × List Int
def cellsN (A : An) : List Cl := A.flatMap fun q => (rowsN q.2.length).map fun r => (q.1, r)
theorem objV_put {M : Mem} {p : Addr} {c : Dat} {d : Dat} {n : Nat} {ds : List Dat} (hp : M p = none) (h : objV M d = some (n, ds)) : objV (M.put p c) d = some (n, ds) := by
  cases d with
  | v x =>
    cases x with
    | ref q =>
      unfold objV at h ⊢
      simp only at h ⊢
      rw [show (M.put p c) q = M q from by
        unfold Mem.put
        by_cases e : q = p
        · subst e; rw [hp] at h; simp at h
        · simp [e]]
      exact h
    | _ => simp [objV] at h
  | obj _ _ => exact h
  | _ => simp [objV] at h
theorem cellsN_len : ∀ {A : An}, (∀ q ∈ A, q.2.length ≤ 6) → (cellsN A).length ≤ 64 * A.length
  | [], _ => by simp [cellsN]
  | q :: A, h => by
    have := cellsN_len (A := A) (fun q' h' => h q' (List.mem_cons_of_mem _ h'))
    have h6 := h q (List.mem_cons_self ..)
    have hl6 : 2 ^ q.2.length ≤ 64 := Nat.le_trans (Nat.pow_le_pow_right (by decide) h6) (by decide)
    show ((rowsN q.2.length).map (fun r => (q.1, r)) ++ cellsN A).length ≤ _
    rw [List.length_append, List.length_map, rowsN_len, List.length_cons]
    omega
section
variable {P : Program} {w : World} {K : PySem.W.Frag} {mg : Str → Option Value} {base : Heap} {cl : Nat → Addr} {f : Addr} {fd : FuncData}
theorem pow_small {n : Nat} (h : n ≤ 12) : 2 ^ n ≤ 4096 := Nat.le_trans (Nat.pow_le_pow_right (by decide) h) (by decide)
def c_all_rows : DOs := fun ds M Φ => ∃ n : Nat, ds = [.v (.int n)] ∧ n ≤ 12 ∧ Φ (.lst (rowsD (rowsN n))) M
def c_settings : DOs := fun ds M Φ => ∃ d t F A, ds = [d] ∧ objV M d = some (1, bookD t F A) ∧ F.length ≤ 12 ∧ Φ (.tup (rowsD (rowsN F.length))) M
def clsD (cs : List Cl) : List Dat := cs.map fun c => .tup [.v (.str c.1), .tup (dIs c.2)]
def c_cells : DOs := fun ds M Φ => ∃ d t F A, ds = [d] ∧ objV M d = some (1, bookD t F A) ∧ Good F A ∧ Φ (.tup (clsD (cellsN A))) M
abbrev s_all_rows : Stmt := topS 41
theorem sc_all_rows : FnScope ["many", "found", "lap", "row"] ["many"] (defScope s_all_rows) := ⟨rfl, rfl, rfl, by decide +kernel, rfl, by decide +kernel, by decide +kernel⟩
theorem ok_all_rows (T : Tx K mg cl) (F : FunD K "all_rows" "all_rows" (defArgs s_all_rows) (defBody s_all_rows) (defScope s_all_rows) [] [] f fd) (hm : mg "all_rows" = some (.ref f)) (b : Binds K fd ["many"] []) : DCal P w K mg base cl 1 "all_rows" c_all_rows := by
  refine cal_D F hm b sc_all_rows (fun ds M Φ h => ?_) (fun cdv A outer s H E hr => ⟨_, (dss_cons (ds_set (i := 1) sc_all_rows.nd rfl (by first | exact Or.inl rfl | exact Or.inr rfl) (de_lst (da_cons (de_tup da_nil) da_nil)))
    (dss_cons (ds_for PassesOwn.never rfl (di_rng1 T.b_range (da_cons (dv 0) da_nil)) (dt_name (i := 2) sc_all_rows.nd rfl (by first | exact Or.inl rfl | exact Or.inr rfl))
    (dss_one (ds_set (i := 1) sc_all_rows.nd rfl (by first | exact Or.inl rfl | exact Or.inr rfl) (de_op op_addG od_add (de_lc (own := [("row", 3)]) rfl sc_all_rows.nd (di_any (dv 1)) (blkOk_by (by rfl)) ⟨_, fun _ _ _ _ _ => (pg_name (i := 3) sc_all_rows.nd rfl (by first | exact Or.inl rfl | exact Or.inr rfl)), (gc_name (by decide))⟩ (fun _ _ _ _ _ => dtt_nil) (fun _ _ _ _ _ => (de_tup (da_cons de_int (da_star (dv 3) da_nil))))) (de_lc (own := [("row", 3)]) rfl sc_all_rows.nd (di_any (dv 1)) (blkOk_by (by rfl)) ⟨_, fun _ _ _ _ _ => (pg_name (i := 3) sc_all_rows.nd rfl (by first | exact Or.inl rfl | exact Or.inr rfl)), (gc_name (by decide))⟩ (fun _ _ _ _ _ => dtt_nil) (fun _ _ _ _ _ => (de_tup (da_cons de_int (da_star (dv 3) da_nil)))))))))
    (dss_one (ds_ret (dv 1))))), fun ds M Φ h => ?_⟩)
  · obtain ⟨n, rfl, _⟩ := h
    rfl
  · obtain ⟨n, rfl, hn, h⟩ := h
    walk_at "nv"
    walk_at "s"
    refine i_fr ?_
    walk_at "s"
    refine ⟨n, rfl, by omega, by omega, ?_⟩
    rw [Int.toNat_natCast]
    refine for_rng (fun i ρ' M' => M' = M ∧ i ≤ n ∧ ∃ x y, ρ' = [some (.v (.int n)), some (.lst (rowsD (rowsN i))), x, y]) ⟨rfl, Nat.zero_le _, _, _, rfl⟩ (fun _ _ _ _ => trivial) ?_ ?_
    · rintro i ρ' M' hi ⟨rfl, _, x, y, rfl⟩
      have hp := pow_small (n := i) (by omega)
      have hl := rowsN_len i
      walk_at "s"
      refine lc_map (rowsN i) (fun r => .tup (dIs r)) (fun r => .tup (dIs (0 :: r))) trivial (by simp only [sizeLine]; omega) ?_ ?_
      · intro r hr T1 k
        have := rowsN_mem hr
        walk_at "nv"
        walk_at "s"
        refine ⟨_, rfl, ?_⟩
        walk_at "s"
        rw [List.append_nil]
        exact k
      · refine i_fr ?_
        walk_at "s"
        refine lc_map (rowsN i) (fun r => .tup (dIs r)) (fun r => .tup (dIs (1 :: r))) trivial (by simp only [sizeLine]; omega) ?_ ?_
        · intro r hr T1 k
          have := rowsN_mem hr
          walk_at "nv"
          walk_at "s"
          refine ⟨_, rfl, ?_⟩
          walk_at "s"
          rw [List.append_nil]
          exact k
        · refine i_fr ?_
          refine OAdd.l (by simp [sizeLine]; omega) ?_
          walk_at "s"
          refine ⟨trivial, by omega, some (.v (.int (0 + (i : Nat)))), y, ?_⟩
          simp [rowsD, rowsN, Function.comp_def]
    · rintro ρ' M' ⟨rfl, _, x, y, rfl⟩
      walk_at "s"
      exact h
abbrev s_settings : Stmt := topS 42
theorem sc_settings : FnScope ["book"] ["book"] (defScope s_settings) := ⟨rfl, rfl, rfl, by decide +kernel, rfl, by decide +kernel, by decide +kernel⟩
theorem ok_settings (T : Tx K mg cl) (F : FunD K "settings" "settings" (defArgs s_settings) (defBody s_settings) (defScope s_settings) [] [] f fd) (hm : mg "settings" = some (.ref f)) (b : Binds K fd ["book"] []) (k_all_rows : DCal P w K mg base cl 1 "all_rows" c_all_rows) : DCal P w K mg base cl 2 "settings" c_settings := by
  refine cal_D F hm b sc_settings (fun ds M Φ h => ?_) (fun cdv A outer s H E hr => ⟨_, (dss_one (ds_ret (de_callTy call_tuple_of cd_tuple boot_tuple T.b_tuple (da_cons (de_call k_all_rows hr (da_cons (de_callB call_lenG cd_len boot_len T.b_len (da_cons (de_fld (dv 0)) da_nil)) da_nil)) da_nil)))), fun ds M Φ h => ?_⟩)
  · obtain ⟨d, t, F, A, rfl, _⟩ := h
    rfl
  · obtain ⟨d, t, F, A, rfl, ho, hn, h⟩ := h
    walk_at "nv"
    walk_at "s"
    refine i_o ho T.sc_Book T.sl_Book_own_foes rfl (fun h => nomatch h) ?_
    walk_at "s"
    refine ⟨F.length, by simp, hn, ?_⟩
    walk_at "s"
    exact h
abbrev s_cells : Stmt := topS 43
theorem sc_cells : FnScope ["book", "found", "name", "looks", "row"] ["book"] (defScope s_cells) := ⟨rfl, rfl, rfl, by decide +kernel, rfl, by decide +kernel, by decide +kernel⟩
theorem ok_cells (T : Tx K mg cl) (F : FunD K "cells" "cells" (defArgs s_cells) (defBody s_cells) (defScope s_cells) [] [] f fd) (hm : mg "cells" = some (.ref f)) (b : Binds K fd ["book"] []) (k_all_rows : DCal P w K mg base cl 1 "all_rows" c_all_rows) : DCal P w K mg base cl 2 "cells" c_cells := by
  refine cal_D F hm b sc_cells (fun ds M Φ h => ?_) (fun cdv A outer s H E hr => ⟨_, (dss_cons (ds_set (i := 1) sc_cells.nd rfl (by first | exact Or.inl rfl | exact Or.inr rfl) (de_lst da_nil))
    (dss_cons (ds_for PassesOwn.never rfl (di_any (de_fld (dv 0))) (dt_tup rfl (gds_cons (dt_name (i := 2) sc_cells.nd rfl (by first | exact Or.inl rfl | exact Or.inr rfl)) (gds_cons (dt_name (i := 3) sc_cells.nd rfl (by first | exact Or.inl rfl | exact Or.inr rfl)) gds_nil)))
    (dss_one (ds_expr (de_mtL PySem.F.slot_list_extend PySem.F.type_list_extend mt_extend md_extend (dv 1) (da_cons (de_lc (own := [("row", 4)]) rfl sc_cells.nd (di_any (de_call k_all_rows hr (da_cons (de_callB call_lenG cd_len boot_len T.b_len (da_cons (dv 3) da_nil)) da_nil))) (blkOk_by (by rfl)) ⟨_, fun _ _ _ _ _ => (pg_name (i := 4) sc_cells.nd rfl (by first | exact Or.inl rfl | exact Or.inr rfl)), (gc_name (by decide))⟩ (fun _ _ _ _ _ => dtt_nil) (fun _ _ _ _ _ => (de_tup (da_cons (dv 2) (da_cons (dv 4) da_nil))))) da_nil)))))
    (dss_one (ds_ret (de_callTy call_tuple_of cd_tuple boot_tuple T.b_tuple (da_cons (dv 1) da_nil)))))), fun ds M Φ h => ?_⟩)
  · obtain ⟨d, t, F, A, rfl, _⟩ := h
    rfl
  · obtain ⟨d, t, F, A, rfl, ho, g, h⟩ := h
    have := g.a6
    walk_at "nv"
    walk_at "s"
    refine i_new fun p hp => ?_
    walk_at "s"
    refine i_o (objV_put hp ho) T.sc_Book T.sl_Book_own_answers rfl (fun h => nomatch h) ?_
    walk_at "s"
    refine for_list A (fun q => Dat.tup [.v (.str q.1), .tup (dSs q.2)]) (fun i ρ' M' => ∃ x y z, ρ' = [some d, some (.v (.ref p)), x, y, z] ∧ M' = M.put p (.lst (clsD (cellsN (A.take i))))) ⟨_, _, _, rfl, rfl⟩ (fun _ _ _ _ => trivial) ?_ ?_
    · rintro i q ρ' M' hq ⟨x, y, z, rfl, rfl⟩
      have hq' : q ∈ A := List.mem_of_getElem? hq
      have hi : i < A.length := (List.getElem?_eq_some_iff.mp hq).1
      have hql := g.lenL hq'
      have hz : (clsD (cellsN (A.take i))).length ≤ 64 * 6 := by
        have h2 := cellsN_len (A := A.take i) (fun q' h' => g.lenL (List.mem_of_mem_take h'))
        simp only [clsD, List.length_map]
        have : (A.take i).length ≤ 6 := by simp; omega
        omega
      have hp := pow_small (n := q.2.length) (by omega)
      have hl := rowsN_len q.2.length
      have hl6 : 2 ^ q.2.length ≤ 64 := Nat.le_trans (Nat.pow_le_pow_right (by decide) hql) (by decide)
      walk_at "s"
      refine i_isL (lstV_at put_same) ?_
      walk_at "s"
      refine ⟨q.2.length, by simp, by omega, ?_⟩
      walk_at "s"
      refine lc_map (rowsN q.2.length) (fun r => .tup (dIs r)) (fun r => .tup [.v (.str q.1), .tup (dIs r)]) trivial (by simp only [sizeLine]; omega) ?_ ?_
      · intro r hr T1 k
        walk_at "nv"
        walk_at "s"
        exact k
      · refine i_fr ?_
        walk_at "s"
        refine i_extend (fs := (rowsN q.2.length).map fun r => Dat.tup [.v (.str q.1), .tup (dIs r)]) put_same ?_ ?_ ?_
        · rfl
        · simp only [List.length_map, sizeLine] at hz ⊢; omega
        walk_at "s"
        refine ⟨_, _, _, rfl, ?_⟩
        rw [put_put, take_snoc hq]
        simp [cellsN, clsD, Function.comp_def]
    · rintro ρ' M' ⟨x, y, z, rfl, rfl⟩
      rw [List.take_of_length_le (Nat.le_refl _)]
      iterate 5 walk_at "d1"
      exact ⟨_, _, rfl, seqV_at put_same, _, M, Fz.le (le_put (Mem.le_refl M) hp), h⟩
end
end K51
set_option maxRecDepth 100000
set_option maxHeartbeats 4000000
namespace K51
open PySem PySem.Spec PyProof.Rows L2 SlX DL
local macro_rules | `(tactic| walk_at "ok") => `(tactic| first | assumption | (show PyData.strOk _ = true; decide +kernel))
local macro_rules | `(tactic| walk_at "z") => `(tactic| first | assumption | (simp only [List.length_cons, List.length_nil, List.length_map, List.length_append, sizeLine] at *; omega))
local macro_rules | `(tactic| walk_at "m") => `(tactic| first | assumption | rfl | exact put_same | (simp [Mem.put, *]; done) | (simp [Mem.put, lstV, seqV, objV, dicV, *]; done))
local macro_rules | `(tactic| walk_at "nv") => `(tactic| (try simp only [startD, wipeD, List.map_cons, List.map_nil, List.length_cons, List.length_nil, Nat.reduceAdd, Nat.reduceSub, List.reduceReplicate, List.append_nil, List.cons_append, List.nil_append, List.set_cons_zero, List.set_cons_succ]))
local macro_rules | `(tactic| walk_at "d1") => `(tactic| first
  | ((with_reducible refine i_varI ?_); refine i_var rfl ?_)
  | with_reducible refine i_c ?_
  | with_reducible refine i_op ?_
  | with_reducible refine i_test ?_
  | with_reducible refine i_chain ?_
  | with_reducible refine i_and ?_
  | with_reducible refine i_or ?_
  | with_reducible refine i_not ?_
  | with_reducible refine i_andV ?_
  | with_reducible refine i_orV ?_
  | with_reducible refine i_notV ?_
  | with_reducible refine i_if ?_
  | with_reducible refine i_nil ?_
  | with_reducible refine i_lzip ?_
  | with_reducible refine i_oint ?_
  | with_reducible refine i_ointB ?_
  | with_reducible refine i_mod (by omega) ?_
  | with_reducible refine i_lits ?_
  | with_reducible refine i_get2 ?_
  | with_reducible refine i_bits ?_
  | with_reducible refine i_lrg ?_
  | with_reducible refine i_disp ?_
  | with_reducible refine i_pnil ?_
  | with_reducible refine i_pcons ?_
  | with_reducible refine i_ndw ?_
  | with_reducible refine i_calk ?_
  | with_reducible refine i_enumT ?_
  | with_reducible refine i_zipT ?_
  | with_reducible refine i_cons ?_
  | with_reducible refine i_star ?_
  | with_reducible refine i_tup ?_
  | with_reducible refine i_lst ?_
  | with_reducible refine i_szA (by walk_at "z") ?_
  | with_reducible refine i_szB (by walk_at "z") ?_
  | with_reducible refine i_cal ?_
  | with_reducible refine i_mt ?_
  | with_reducible refine i_m1 ?_
  | with_reducible refine i_fld ?_
  | with_reducible refine i_sl ?_
  | with_reducible refine i_noP ?_
  | with_reducible refine i_part ?_
  | with_reducible refine i_neg ?_
  | with_reducible refine i_meth ?_
  | with_reducible refine i_make ?_
  | with_reducible refine i_pro ?_
  | with_reducible refine i_lc ?_
  | with_reducible refine i_yes ?_
  | with_reducible refine i_next ?_
  | with_reducible refine i_seq ?_
  | with_reducible refine i_ret ?_
  | with_reducible refine i_drop ?_
  | with_reducible refine i_ifS ?_
  | ((with_reducible refine i_gname ?_); walk_at "nv")
  | ((with_reducible refine i_gtupI ?_); refine i_gtup rfl rfl ?_)
  | with_reducible refine i_gnil ?_
  | with_reducible refine i_gcons ?_
  | with_reducible refine i_asg ?_
  | ((with_reducible refine i_par ?_); walk_at "nv")
  | ((with_reducible refine i_par3 ?_); walk_at "nv")
  | with_reducible refine i_gsub ?_
  | with_reducible refine i_gfld ?_
  | with_reducible refine i_for ?_
  | with_reducible refine i_it ?_
  | with_reducible refine i_rng1 ?_
  | with_reducible refine i_enum ?_
  | with_reducible refine i_bl ?_
  | with_reducible refine i_int ?_
  | with_reducible refine i_2 ?_
  | with_reducible refine i_3 ?_
  | with_reducible refine i_iteT ?_
  | with_reducible refine i_iteF ?_
  | with_reducible refine i_iteNT ?_
  | with_reducible refine i_iteNF ?_
  | with_reducible refine i_iteV ?_
  | with_reducible refine i_I0 ?_
  | with_reducible refine i_addI ?_
  | with_reducible refine i_lenSet ?_
  | ((with_reducible refine i_isI ?_); first | refine i_isNF rfl ?_ | refine i_isNT rfl ?_ | refine i_isN ?_)
  | ((with_reducible refine i_notI ?_); first | refine i_notNF rfl ?_ | refine i_notNT rfl ?_ | refine i_notN ?_)
  | with_reducible refine i_len_l ?_
  | with_reducible refine i_len_t ?_
  | ((with_reducible refine i_isiI ?_); refine i_isi rfl rfl ?_)
  | with_reducible refine i_len_s (by first | assumption | (simp only [sizeLine] at *; omega)) ?_
  | with_reducible refine i_it_l ?_
  | with_reducible refine i_it_t ?_
  | with_reducible refine i_it_s ?_
  | with_reducible refine i_tuple_l ?_
  | with_reducible refine i_tuple_t ?_
  | with_reducible refine i_isStr ?_
  | with_reducible refine i_fzR ?_
  | with_reducible refine i_sg ?_)
local macro_rules | `(tactic| walk_at "d") => `(tactic| ((walk_at "d1"); (repeat walk_at "d1")))
local macro_rules | `(tactic| walk_at "s") => `(tactic| (first | (walk_at "d1"; walk_at "s") | (with_reducible refine i_ite (fun hb => ?_) (fun hb => ?_) <;> walk_at "s") | skip))
section
variable {P : Program} {w : World} {K : PySem.W.Frag} {mg : Str → Option Value} {base : Heap} {cl : Nat → Addr} {f : Addr} {fd : FuncData}
/-- what is seen of a setting -/
def seenN (F L : List Str) (s : List Int) : List Int := ((F.zip s).filter fun p => decide (p.1 ∈ L)).map (·.2)
theorem pair_zip (F : List Str) (s : List Int) : DL.pairD (dSs F) (dIs s) = (F.zip s).map fun p => .tup [.v (.str p.1), .v (.int p.2)] := by
  unfold DL.pairD dSs dIs
  rw [List.zipWith_map, List.zip, List.map_zipWith]
theorem zip_len_le {F : List Str} {s : List Int} : (F.zip s).length ≤ F.length := by rw [List.length_zip]; exact Nat.min_le_left ..
theorem dget_ans : ∀ {A : An} {q : Str × List Str}, q ∈ A → (A.map (·.1)).Nodup → dget (A.map fun q => (.inr q.1 : Key)) (A.map fun q => .tup (dSs q.2)) (.inr q.1) = some (.tup (dSs q.2))
  | p :: A, q, h, nd => by
    rw [List.map_cons, List.map_cons, dget]
    by_cases e : p.1 = q.1
    · rw [if_pos (by rw [e])]
      rcases List.mem_cons.mp h with h | h
      · rw [h]
      · exact absurd (show p.1 ∈ A.map (·.1) from by rw [e]; exact List.mem_map_of_mem h) (List.nodup_cons.mp nd).1
    · rw [if_neg (fun z => e (Sum.inr.inj z))]
      rcases List.mem_cons.mp h with h | h
      · exact absurd (by rw [h]) e
      · exact dget_ans h (List.nodup_cons.mp nd).2
theorem ans_pair (A : An) : ansD A = DL.pairD ((A.map fun q => (.inr q.1 : Key)).map kD) (A.map fun q => .tup (dSs q.2)) := by
  unfold DL.pairD ansD
  rw [List.map_map, List.zipWith_map, List.zipWith_self]
  rfl
theorem ans_keys {F : List Str} {A : An} (g : Good F A) : (A.map fun q => (.inr q.1 : Key)).Nodup := by
  have h := (List.nodup_append.mp g.nodup).2.1
  have : (A.map fun q => (.inr q.1 : Key)) = (A.map (·.1)).map Sum.inr := by rw [List.map_map]; rfl
  rw [this]
  exact List.Pairwise.map _ (fun a b hn e => hn (Sum.inr.inj e)) h
def c_seen_by : DOs := fun ds M Φ => ∃ d t F A L s, ds = [d, .tup (dSs L), .tup (dIs s)] ∧ objV M d = some (1, bookD t F A) ∧ F.length ≤ 12 ∧ Φ (.tup (dIs (seenN F L s))) M
def c_cell_of : DOs := fun ds M Φ => ∃ d t F A q s, ds = [d, .v (.str q.1), .tup (dIs s)] ∧ objV M d = some (1, bookD t F A) ∧ Good F A ∧ q ∈ A ∧ Φ (.tup [.v (.str q.1), .tup (dIs (seenN F q.2 s))]) M
/-- a foe's number at a setting -/
def valN (F : List Str) (s : List Int) (n : Str) : Int := ((F.zip s).lookup n).getD 0
def oddN (F : List Str) (s : List Int) (q : Str × List Str) : Int := ((if q.1 = ("odd" : Str) then 1 else 0) + ((q.2.filter fun n => decide (n ∈ F)).map (valN F s)).sum) % 2
def lineCells (F : List Str) (A : An) (s : List Int) (names : List Str) : List Cl := (A.filter fun a => decide (a.1 ∈ names)).map fun a => (a.1, seenN F a.2 s)
def rowsOf (F : List Str) (n : Nat) : List (List Int × Nat) := (rowsN F.length).flatMap fun s => (List.range n).map fun i => (s, i)
theorem dget_zip : ∀ {F : List Str} {s : List Int} {n : Str}, F.length = s.length → dget (F.map fun f => (.inr f : Key)) (dIs s) (.inr n) = if n ∈ F then some (.v (.int (valN F s n))) else none
  | [], _, n, _ => by simp [dget]
  | f :: F, [], n, h => by simp at h
  | f :: F, i :: s, n, h => by
    have ih := dget_zip (F := F) (s := s) (n := n) (by simpa using h)
    unfold dIs at ih ⊢
    rw [List.map_cons, List.map_cons, dget, ih]
    unfold valN
    by_cases e : f = n
    · subst e
      simp
    · rw [if_neg (fun z => e (Sum.inr.inj z))]
      have e' : ¬ n = f := fun z => e z.symm
      by_cases hm : n ∈ F
      · simp [hm, List.lookup_cons, beq_eq_false_iff_ne.mpr e']
      · simp [hm, e']
theorem rowsOf_len {R : List (List Int)} {n : Nat} : (R.flatMap fun s => (List.range n).map fun j => (s, j)).length = R.length * n := by
  induction R with
  | nil => simp
  | cons r R ih => rw [List.flatMap_cons, List.length_append, ih, List.length_map, List.length_range, List.length_cons, Nat.succ_mul, Nat.add_comm]
theorem foe_keys {F : List Str} {A : An} (g : Good F A) : (F.map fun f => (.inr f : Key)).Nodup := by
  have h := (List.nodup_append.mp g.nodup).1
  exact List.Pairwise.map _ (fun a b hn e => hn (Sum.inr.inj e)) h
theorem foe_pair (F : List Str) (s : List Int) : DL.pairD (dSs F) (dIs s) = DL.pairD ((F.map fun f => (.inr f : Key)).map kD) (dIs s) := by
  rw [List.map_map]
  rfl
def c_written_line : DOs := fun ds M Φ => ∃ d t F A L s n q, ds = [d, .tup (dIs s), .v (.int (n : Nat))] ∧ objV M d = some (2, parD t F A L) ∧ Good F A ∧ GoodL F A L ∧ s.length = F.length ∧ L[n]? = some q ∧ Φ (.tup [.lst (clsD (lineCells F A s q.2)), .v (.int (oddN F s q))]) M
def c_written_rows : DOs := fun ds M Φ => ∃ d t F A L, ds = [d] ∧ objV M d = some (2, parD t F A L) ∧ Good F A ∧ GoodL F A L ∧ Φ (.lst ((rowsOf F L.length).map fun r => .tup [.tup (dIs r.1), .v (.int r.2)])) M
abbrev s_seen_by : Stmt := topS 45
theorem sc_seen_by : FnScope ["book", "looks", "setting", "foe", "number"] ["book", "looks", "setting"] (defScope s_seen_by) := ⟨rfl, rfl, rfl, by decide +kernel, rfl, by decide +kernel, by decide +kernel⟩
theorem ok_seen_by (T : Tx K mg cl) (F : FunD K "seen_by" "seen_by" (defArgs s_seen_by) (defBody s_seen_by) (defScope s_seen_by) [] [] f fd) (hm : mg "seen_by" = some (.ref f)) (b : Binds K fd ["book", "looks", "setting"] []) (p_Book_foes : DPro P w K mg base cl 1 1 "foes" c_Book_foes) : DCal P w K mg base cl 3 "seen_by" c_seen_by := by
  refine cal_D F hm b sc_seen_by (fun ds M Φ h => ?_) (fun cdv A outer s H E hr => ⟨_, (dss_one (ds_ret (de_callTy call_tuple_of cd_tuple boot_tuple T.b_tuple (da_cons (de_lc (own := [("foe", 3), ("number", 4)]) rfl sc_seen_by.nd (di_zipT T.b_zip (da_cons (de_pro p_Book_foes hr (dv 0)) (da_cons (dv 2) da_nil))) (blkOk_by (by rfl)) ⟨_, fun _ _ _ _ _ => (PG.or (pg_tup (n := 2) rfl (pgs_cons (pg_name (i := 3) sc_seen_by.nd rfl (by first | exact Or.inl rfl | exact Or.inr rfl)) (pgs_cons (pg_name (i := 4) sc_seen_by.nd rfl (by first | exact Or.inl rfl | exact Or.inr rfl)) pgs_nil))) (pg_lst (n := 2) rfl (pgs_cons (pg_name (i := 3) sc_seen_by.nd rfl (by first | exact Or.inl rfl | exact Or.inr rfl)) (pgs_cons (pg_name (i := 4) sc_seen_by.nd rfl (by first | exact Or.inl rfl | exact Or.inr rfl)) pgs_nil)))), (gc_tup (gcs_cons (gc_name (by decide)) (gcs_cons (gc_name (by decide)) gcs_nil)))⟩ (fun _ _ _ _ _ => (dtt_one (dt_cmp (op_inA (hu_of hr)) od_inA (by rfl) (dv 3) (dv 1)))) (fun _ _ _ _ _ => (dv 4))) da_nil)))), fun ds M Φ h => ?_⟩)
  · obtain ⟨d, t, F, A, L, s, rfl, _⟩ := h
    rfl
  · obtain ⟨d, t, F, A, L, s, rfl, ho, hF, h⟩ := h
    walk_at "nv"
    walk_at "s"
    refine i_isO ho ⟨d, t, F, A, rfl, ho, ?_⟩
    walk_at "s"
    refine ⟨_, _, rfl, ?_⟩
    rw [pair_zip]
    have := zip_len_le (F := F) (s := s)
    refine lc_pure (F.zip s) (fun p => .tup [.v (.str p.1), .v (.int p.2)]) (fun p => decide (p.1 ∈ L)) (fun p => .v (.int p.2)) trivial (by simp only [sizeLine]; omega) ?_ ?_
    · intro p hp T1 T0 k1 k0
      walk_at "nv"
      walk_at "s"
      refine i_inS rfl (b0 := decide (p.1 ∈ L)) rfl ?_
      refine i_bl (i_ite (fun hb => ?_) (fun hb => ?_))
      · walk_at "s"
        exact k1 hb
      · exact k0 hb
    · refine i_fr ?_
      walk_at "s"
      rw [show (((F.zip s).filter fun p => decide (p.1 ∈ L)).map fun p => Dat.v (.int p.2)) = dIs (seenN F L s) from by unfold dIs seenN; rw [List.map_map]; rfl]
      exact h
abbrev s_cell_of : Stmt := topS 46
theorem sc_cell_of : FnScope ["book", "answer", "setting"] ["book", "answer", "setting"] (defScope s_cell_of) := ⟨rfl, rfl, rfl, by decide +kernel, rfl, by decide +kernel, by decide +kernel⟩
theorem ok_cell_of (T : Tx K mg cl) (F : FunD K "cell_of" "cell_of" (defArgs s_cell_of) (defBody s_cell_of) (defScope s_cell_of) [] [] f fd) (hm : mg "cell_of" = some (.ref f)) (b : Binds K fd ["book", "answer", "setting"] []) (k_seen_by : DCal P w K mg base cl 3 "seen_by" c_seen_by) (p_Book_answers : DPro P w K mg base cl 1 1 "answers" c_Book_answers) : DCal P w K mg base cl 4 "cell_of" c_cell_of := by
  refine cal_D F hm b sc_cell_of (fun ds M Φ h => ?_) (fun cdv A outer s H E hr => ⟨_, (dss_one (ds_ret (de_tup (da_cons (dv 1) (da_cons (de_call k_seen_by hr (da_cons (dv 0) (da_cons (de_ix (hu_of hr) (de_callTy (call_dictP rfl) cd_dictP boot_dict T.b_dict (da_cons (de_callTy call_list_of cd_list boot_list T.b_list (da_cons (de_pro p_Book_answers hr (dv 0)) da_nil)) da_nil)) (dv 1)) (da_cons (dv 2) da_nil)))) da_nil))))), fun ds M Φ h => ?_⟩)
  · obtain ⟨d, t, F, A, q, s, rfl, _⟩ := h
    rfl
  · obtain ⟨d, t, F, A, q, s, rfl, ho, g, hq, h⟩ := h
    walk_at "nv"
    walk_at "s"
    refine i_isO ho ⟨d, t, F, A, rfl, ho, ?_⟩
    walk_at "s"
    refine ⟨_, _, rfl, rfl, ?_⟩
    refine i_fr ?_
    walk_at "s"
    refine ⟨_, _, _, rfl, by rw [← ans_pair]; rfl, by simp, ans_keys g, ?_⟩
    refine i_frD ?_
    walk_at "s"
    refine .dic rfl rfl (dget_ans hq (List.nodup_append.mp g.nodup).2.1) ?_
    walk_at "s"
    refine ⟨d, t, F, A, q.2, s, rfl, ho, by have := g.f6; omega, ?_⟩
    walk_at "s"
    exact h
abbrev s_written_line : Stmt := topS 59
theorem sc_written_line : FnScope ["parities", "setting", "number", "word", "names", "known", "answers", "odd", "name", "looks"] ["parities", "setting", "number"] (defScope s_written_line) := ⟨rfl, rfl, rfl, by decide +kernel, rfl, by decide +kernel, by decide +kernel⟩
theorem ok_written_line (T : Tx K mg cl) (F : FunD K "written_line" "written_line" (defArgs s_written_line) (defBody s_written_line) (defScope s_written_line) [] [] f fd) (hm : mg "written_line" = some (.ref f)) (b : Binds K fd ["parities", "setting", "number"] []) (p_Parities_foes : DPro P w K mg base cl 3 2 "foes" c_Parities_foes) (p_Parities_answers : DPro P w K mg base cl 3 2 "answers" c_Parities_answers) (k_cell_of : DCal P w K mg base cl 4 "cell_of" c_cell_of) : DCal P w K mg base cl 5 "written_line" c_written_line := by
  refine cal_D F hm b sc_written_line (fun ds M Φ h => ?_) (fun cdv A outer s H E hr => ⟨_, (dss_cons (ds_asg (de_ix (hu_of hr) (de_fld (dv 0)) (dv 2)) (dt_tup rfl (gds_cons (dt_name (i := 3) sc_written_line.nd rfl (by first | exact Or.inl rfl | exact Or.inr rfl)) (gds_cons (dt_name (i := 4) sc_written_line.nd rfl (by first | exact Or.inl rfl | exact Or.inr rfl)) gds_nil))))
    (dss_cons (ds_set (i := 5) sc_written_line.nd rfl (by first | exact Or.inl rfl | exact Or.inr rfl) (de_callTy (call_dictP rfl) cd_dictP boot_dict T.b_dict (da_cons (de_listZip T.b_list T.b_zip (da_cons (de_pro p_Parities_foes hr (dv 0)) (da_cons (dv 1) da_nil))) da_nil)))
    (dss_cons (ds_setLc (i := 6) (own := [("name", 8), ("looks", 9)]) rfl sc_written_line.nd rfl rfl (sw_true rfl rfl rfl (by decide +kernel)) (di_any (de_pro p_Parities_answers hr (dv 0))) (blkOk_by (by rfl)) ⟨_, fun _ _ _ _ _ => (PG.or (pg_tup (n := 2) rfl (pgs_cons (pg_name (i := 8) sc_written_line.nd rfl (by first | exact Or.inl rfl | exact Or.inr rfl)) (pgs_cons (pg_name (i := 9) sc_written_line.nd rfl (by first | exact Or.inl rfl | exact Or.inr rfl)) pgs_nil))) (pg_lst (n := 2) rfl (pgs_cons (pg_name (i := 8) sc_written_line.nd rfl (by first | exact Or.inl rfl | exact Or.inr rfl)) (pgs_cons (pg_name (i := 9) sc_written_line.nd rfl (by first | exact Or.inl rfl | exact Or.inr rfl)) pgs_nil)))), (gc_tup (gcs_cons (gc_name (by decide)) (gcs_cons (gc_name (by decide)) gcs_nil)))⟩ (fun _ _ _ _ _ => (dtt_one (dt_cmp (op_inA (hu_of hr)) od_inA (by rfl) (dv 8) (dv 4)))) (fun _ _ _ _ _ => (dv 8)))
    (dss_cons (ds_set (i := 7) sc_written_line.nd rfl (by first | exact Or.inl rfl | exact Or.inr rfl) (de_op op_mod od_I (de_op op_addG od_add (de_callTy call_int1 cd_int boot_int T.b_int (da_cons (de_cmp (op_eqD hr.units) od_eq (nomark _) (dv 3) (de_gstr T.g_ODD)) da_nil)) (de_callB (cr_sum rfl) cd_sum boot_sum T.b_sum (da_cons (de_lc (own := [("name", 8)]) rfl sc_written_line.nd (di_any (dv 4)) (blkOk_by (by rfl)) ⟨_, fun _ _ _ _ _ => (pg_name (i := 8) sc_written_line.nd rfl (by first | exact Or.inl rfl | exact Or.inr rfl)), (gc_name (by decide))⟩ (fun _ _ _ _ _ => (dtt_one (dt_cmp (op_inA (hu_of hr)) od_inA (by rfl) (dv 8) (dv 5)))) (fun _ _ _ _ _ => (de_ix (hu_of hr) (dv 5) (dv 8)))) da_nil))) (de_gint T.g_PAIR_parities)))
    (dss_one (ds_ret (de_tup (da_cons (de_lc (own := [("name", 8)]) rfl sc_written_line.nd (di_any (dv 6)) (blkOk_by (by rfl)) ⟨_, fun _ _ _ _ _ => (pg_name (i := 8) sc_written_line.nd rfl (by first | exact Or.inl rfl | exact Or.inr rfl)), (gc_name (by decide))⟩ (fun _ _ _ _ _ => dtt_nil) (fun _ _ _ _ _ => (de_call k_cell_of hr (da_cons (de_fldK (K := K) rfl (dv 0)) (da_cons (dv 8) (da_cons (dv 1) da_nil)))))) (da_cons (dv 7) da_nil))))))))), fun ds M Φ h => ?_⟩)
  · obtain ⟨d, t, F, A, L, s, n, q, rfl, _⟩ := h
    rfl
  · obtain ⟨d, t, F, A, L, s, n, q, rfl, ho, g, gl, hs, hn, h⟩ := h
    have hq := List.mem_of_getElem? hn
    have := g.f6
    have := g.a6
    have := gl.l q hq
    walk_at "nv"
    walk_at "s"
    refine i_o ho T.sc_Parities T.sl_Parities_own_lines rfl (fun h => nomatch h) ?_
    walk_at "s"
    refine .seq (d := .tup [.v (.str q.1), .tup (dSs q.2)]) rfl ?_ ?_
    · have hlt := (List.getElem?_eq_some_iff.mp hn).1
      rw [atI_nat (by simpa [ansD] using hlt)]
      unfold ansD
      rw [List.getElem?_map, hn]
      rfl
    walk_at "s"
    refine i_isO ho ⟨d, t, F, A, L, rfl, ho, ?_⟩
    walk_at "s"
    refine ⟨_, _, _, _, rfl, rfl, rfl, by simp [hs], by simp only [sizeLine, List.length_map]; omega, ?_⟩
    walk_at "s"
    refine ⟨_, _, _, rfl, congrArg some (foe_pair F s), by simp [hs], foe_keys g, ?_⟩
    refine i_frD ?_
    walk_at "s"
    refine i_isO ho ⟨d, t, F, A, L, rfl, ho, ?_⟩
    walk_at "s"
    refine lc_pure A (fun q => Dat.tup [.v (.str q.1), .tup (dSs q.2)]) (fun a => decide (a.1 ∈ q.2)) (fun a => .v (.str a.1)) trivial (by simp only [sizeLine]; omega) ?_ ?_
    · intro p hp T1 T0 k1 k0
      walk_at "nv"
      walk_at "s"
      refine i_inS rfl (b0 := decide (p.1 ∈ q.2)) rfl ?_
      refine i_bl (i_ite (fun hb => ?_) (fun hb => ?_))
      · walk_at "s"
        exact k1 hb
      · exact k0 hb
    refine i_fr ?_
    walk_at "s"
    have hw : okS q.1 := by
      rcases List.mem_cons.mp (gl.w q hq) with e | e
      · rw [e]; walk_at "ok"
      · rw [List.mem_singleton.mp e]; walk_at "ok"
    refine i_eqS hw (by walk_at "ok") rfl ?_
    walk_at "s"
    refine lc_pure q.2 (fun w => Dat.v (.str w)) (fun w => decide (w ∈ F)) (fun w => .v (.int (valN F s w))) trivial (by simp only [sizeLine]; omega) ?_ ?_
    · intro p hp T1 T0 k1 k0
      walk_at "nv"
      walk_at "s"
      refine i_inD rfl rfl (b0 := decide (p ∈ F)) ?_ ?_
      · rw [dget_zip hs.symm]
        by_cases e : p ∈ F
        · simp [e]
        · simp [e]
      refine i_bl (i_ite (fun hb => ?_) (fun hb => ?_))
      · walk_at "s"
        refine .dic rfl rfl ((dget_zip hs.symm).trans (if_pos (of_decide_eq_true hb))) ?_
        exact k1 hb
      · exact k0 hb
    refine i_fr ?_
    walk_at "s"
    refine i_sum (bs := (q.2.filter fun w => decide (w ∈ F)).map (valN F s)) (by rw [List.map_map]; rfl) ?_
    walk_at "s"
    have hfl : (A.filter fun a => decide (a.1 ∈ q.2)).length ≤ 6 := Nat.le_trans (List.length_filter_le _ _) g.a6
    refine lc_map (gd := gdT) (A.filter fun a => decide (a.1 ∈ q.2)) (fun a => .v (.str a.1)) (fun a => .tup [.v (.str a.1), .tup (dIs (seenN F a.2 s))]) trivial (by simp only [sizeLine]; omega) ?_ ?_
    · intro a ha T1 k
      walk_at "nv"
      walk_at "s"
      refine i_o ho T.sc_Parities T.sl_Parities_own_bare rfl (fun h => nomatch h) ?_
      walk_at "s"
      refine ⟨_, _, F, A, a, s, rfl, rfl, g, (List.mem_filter.mp ha).1, ?_⟩
      exact k
    · refine i_fr ?_
      walk_at "s"
      have e1 : clsD (lineCells F A s q.2) = (A.filter fun a => decide (a.1 ∈ q.2)).map fun a => Dat.tup [.v (.str a.1), .tup (dIs (seenN F a.2 s))] := by
        unfold clsD lineCells
        rw [List.map_map]
        rfl
      have e2 : oddN F s q = ((if decide (q.1 = ("odd" : Str)) = true then (1 : Int) else 0) + ((q.2.filter fun w => decide (w ∈ F)).map (valN F s)).sum) % 2 := by
        unfold oddN
        simp
      rw [e1, e2] at h
      exact h
abbrev s_written_rows : Stmt := topS 60
theorem sc_written_rows : FnScope ["parities", "found", "setting", "number"] ["parities"] (defScope s_written_rows) := ⟨rfl, rfl, rfl, by decide +kernel, rfl, by decide +kernel, by decide +kernel⟩
theorem ok_written_rows (T : Tx K mg cl) (F : FunD K "written_rows" "written_rows" (defArgs s_written_rows) (defBody s_written_rows) (defScope s_written_rows) [] [] f fd) (hm : mg "written_rows" = some (.ref f)) (b : Binds K fd ["parities"] []) (k_settings : DCal P w K mg base cl 2 "settings" c_settings) : DCal P w K mg base cl 3 "written_rows" c_written_rows := by
  refine cal_D F hm b sc_written_rows (fun ds M Φ h => ?_) (fun cdv A outer s H E hr => ⟨_, (dss_cons (ds_set (i := 1) sc_written_rows.nd rfl (by first | exact Or.inl rfl | exact Or.inr rfl) (de_lst da_nil))
    (dss_cons (ds_for PassesOwn.never rfl (di_any (de_call k_settings hr (da_cons (de_fld (dv 0)) da_nil))) (dt_name (i := 2) sc_written_rows.nd rfl (by first | exact Or.inl rfl | exact Or.inr rfl))
    (dss_one (ds_expr (de_mtL PySem.F.slot_list_extend PySem.F.type_list_extend mt_extend md_extend (dv 1) (da_cons (de_lc (own := [("number", 3)]) rfl sc_written_rows.nd (di_rng1 T.b_range (da_cons (de_callB call_lenG cd_len boot_len T.b_len (da_cons (de_fld (dv 0)) da_nil)) da_nil)) (blkOk_by (by rfl)) ⟨_, fun _ _ _ _ _ => (pg_name (i := 3) sc_written_rows.nd rfl (by first | exact Or.inl rfl | exact Or.inr rfl)), (gc_name (by decide))⟩ (fun _ _ _ _ _ => dtt_nil) (fun _ _ _ _ _ => (de_tup (da_cons (dv 2) (da_cons (dv 3) da_nil))))) da_nil)))))
    (dss_one (ds_ret (dv 1))))), fun ds M Φ h => ?_⟩)
  · obtain ⟨d, t, F, A, L, rfl, _⟩ := h
    rfl
  · obtain ⟨d, t, F, A, L, rfl, ho, g, gl, h⟩ := h
    have := g.f6
    have := gl.n
    walk_at "nv"
    walk_at "s"
    refine i_new fun p hp => ?_
    walk_at "s"
    refine i_o (objV_put hp ho) T.sc_Parities T.sl_Parities_own_bare rfl (fun h => nomatch h) ?_
    walk_at "s"
    refine ⟨_, _, F, A, rfl, rfl, by omega, ?_⟩
    walk_at "s"
    have hw : (rowsN F.length).length ≤ 64 := by rw [rowsN_len]; exact Nat.le_trans (Nat.pow_le_pow_right (by decide) (show F.length ≤ 6 by omega)) (by decide)
    refine for_list (rowsN F.length) (fun r => Dat.tup (dIs r)) (fun i ρ' M' => ∃ x y, ρ' = [some d, some (.v (.ref p)), x, y] ∧ M' = M.put p (.lst ((((rowsN F.length).take i).flatMap fun s => (List.range L.length).map fun j => (s, j)).map fun r => .tup [.tup (dIs r.1), .v (.int r.2)]))) ⟨_, _, rfl, rfl⟩ (fun _ _ _ _ => trivial) ?_ ?_
    · rintro i r ρ' M' hr ⟨x, y, rfl, rfl⟩
      walk_at "s"
      refine i_isL (lstV_at put_same) ?_
      walk_at "s"
      refine i_o (objV_put hp ho) T.sc_Parities T.sl_Parities_own_lines rfl (fun h => nomatch h) ?_
      walk_at "s"
      have hal : (ansD L).length = L.length := by simp [ansD]
      rw [hal]
      refine ⟨_, rfl, by omega, by omega, ?_⟩
      rw [Int.toNat_natCast]
      refine lc_map (List.range L.length) (fun j => .v (.int (0 + (j : Nat)))) (fun j => .tup [.tup (dIs r), .v (.int (j : Nat))]) trivial (by rw [List.length_range]; simp only [sizeLine]; omega) ?_ ?_
      · intro j hj T1 k
        walk_at "nv"
        walk_at "s"
        rw [Int.zero_add]
        exact k
      · refine i_fr ?_
        walk_at "s"
        have hz := rowsOf_len (R := (rowsN F.length).take i) (n := L.length)
        have ht : ((rowsN F.length).take i).length ≤ 64 := by rw [List.length_take]; omega
        have hzz : ((rowsN F.length).take i).length * L.length ≤ 64 * 30 := Nat.mul_le_mul ht (by omega)
        refine i_extend (fs := (List.range L.length).map fun j => Dat.tup [.tup (dIs r), .v (.int (j : Nat))]) put_same ?_ ?_ ?_
        · rfl
        · simp only [List.length_map, List.length_range, hz, sizeLine]; omega
        walk_at "s"
        refine ⟨_, _, rfl, ?_⟩
        rw [put_put, take_snoc hr]
        simp [Function.comp_def]
    · rintro ρ' M' ⟨x, y, rfl, rfl⟩
      rw [List.take_of_length_le (Nat.le_refl _)]
      walk_at "d1"
      walk_at "d1"
      refine ⟨_, _, Fz.lst put_same, ?_⟩
      rw [del_put hp]
      exact h
end
end K51
set_option maxRecDepth 100000
set_option maxHeartbeats 4000000
/-! plain: lines written out as whole numbers, cleared by one another -/
namespace K51
open PySem PySem.Spec PyProof.Rows L2 SlX DL
/-- cells, odd, rows -/
abbrev Row := Nat × Nat × Nat
abbrev El := List (Nat × Row)
def Row.xor (x y : Row) : Row := (x.1 ^^^ y.1, x.2.1 ^^^ y.2.1, x.2.2 ^^^ y.2.2)
inductive Red (fs : El) : Row → Row → Prop
  | refl (x : Row) : Red fs x x
  | step {x y z : Row} : 0 < x.1 → (x.1.log2, y) ∈ fs → Red fs (x.xor y) z → Red fs x z
theorem Red.trans {fs : El} {x y z : Row} (h : Red fs x y) (k : Red fs y z) : Red fs x z := by
  induction h with
  | refl => exact k
  | step a b _ ih => exact .step a b (ih k)
def nextF (fs : El) (x : Row) : El := if 0 < x.1 then fs ++ [(x.1.log2, x)] else fs
def nextC (c : Option Nat) (x : Row) : Option Nat := if 0 < x.1 then c else if x.2.1 = 1 ∧ c = none then some x.2.2 else c
def Fresh (fs : El) (x : Row) : Prop := x.1 = 0 ∨ ∀ y, (x.1.log2, y) ∉ fs
inductive Runs : List Row → El → Option Nat → Prop
  | nil : Runs [] [] none
  | snoc {rs : List Row} {fs : El} {c : Option Nat} {r x : Row} : Runs rs fs c → Red fs r x → Fresh fs x → Runs (rs ++ [r]) (nextF fs x) (nextC c x)
/-- what stands in the table of firsts -/
structure WfE (fs : El) : Prop where
  top : ∀ p ∈ fs, 0 < p.2.1 ∧ p.2.1.log2 = p.1
  nd : (fs.map (·.1)).Nodup
  odd : ∀ p ∈ fs, p.2.2.1 < 2
theorem WfE.next {fs : El} {x : Row} (w : WfE fs) (h : Fresh fs x) (ho : x.2.1 < 2) : WfE (nextF fs x) := by
  unfold nextF
  split
  · rename_i hx
    have hf : ∀ y, (x.1.log2, y) ∉ fs := h.resolve_left (Nat.ne_of_gt hx)
    refine ⟨fun p hp => ?_, ?_, fun p hp => ?_⟩
    · rcases List.mem_append.mp hp with hp | hp
      · exact w.top p hp
      · rw [List.mem_singleton.mp hp]; exact ⟨hx, rfl⟩
    · rw [List.map_append, List.nodup_append]
      refine ⟨w.nd, by simp, fun a ha b hb e => ?_⟩
      obtain ⟨p, hp, rfl⟩ := List.mem_map.mp ha
      have : b = x.1.log2 := by simpa using hb
      exact hf p.2 (by rw [← this, ← e]; exact hp)
    · rcases List.mem_append.mp hp with hp | hp
      · exact w.odd p hp
      · rw [List.mem_singleton.mp hp]; exact ho
  · exact w
theorem xor_lt_top {a b : Nat} (ha : 0 < a) (h : b.log2 = a.log2) (hb : 0 < b) : a ^^^ b < a := by
  have h1 : a < 2 ^ (a.log2 + 1) := Nat.lt_log2_self
  have h2 : b < 2 ^ (b.log2 + 1) := Nat.lt_log2_self
  have h3 : 2 ^ a.log2 ≤ a := Nat.log2_self_le (Nat.ne_of_gt ha)
  have h4 : 2 ^ b.log2 ≤ b := Nat.log2_self_le (Nat.ne_of_gt hb)
  rw [h] at h2 h4
  refine Nat.lt_of_lt_of_le ?_ h3
  refine Nat.lt_pow_two_of_testBit _ fun i hi => ?_
  rw [Nat.testBit_xor]
  by_cases e : i = a.log2
  · subst e
    have t1 : a.testBit a.log2 = true := by
      rw [Nat.testBit_eq_decide_div_mod_eq]
      have : a / 2 ^ a.log2 = 1 := by
        refine Nat.div_eq_of_lt_le (by omega) ?_
        rw [Nat.pow_succ] at h1
        omega
      rw [this]; rfl
    have t2 : b.testBit a.log2 = true := by
      rw [Nat.testBit_eq_decide_div_mod_eq]
      have : b / 2 ^ a.log2 = 1 := by
        refine Nat.div_eq_of_lt_le (by omega) ?_
        rw [Nat.pow_succ] at h2
        omega
      rw [this]; rfl
    rw [t1, t2]; rfl
  · have hi' : a.log2 + 1 ≤ i := by omega
    have hp : 2 ^ (a.log2 + 1) ≤ 2 ^ i := Nat.pow_le_pow_right (by decide) hi'
    rw [Nat.testBit_lt_two_pow (Nat.lt_of_lt_of_le h1 hp), Nat.testBit_lt_two_pow (Nat.lt_of_lt_of_le h2 hp)]
    rfl
theorem xor_two {a b : Nat} (ha : a < 2) (hb : b < 2) : a ^^^ b < 2 := Nat.xor_lt_two_pow (n := 1) ha hb
end K51
namespace K51
open PySem PySem.Spec PyProof.Rows L2 SlX DL
theorem xor_and_add (n : Nat) : ∀ a b : Nat, a ≤ n → (a ^^^ b) + 2 * (a &&& b) = a + b := by
  induction n with
  | zero => intro a b h; obtain rfl : a = 0 := by omega
            simp
  | succ n ih =>
    intro a b h
    have h1 := ih (a / 2) (b / 2) (by omega)
    have e1 : (a ^^^ b) / 2 = a / 2 ^^^ b / 2 := Nat.xor_div_two
    have e2 : (a &&& b) / 2 = a / 2 &&& b / 2 := Nat.and_div_two
    have e3 : (a ^^^ b) % 2 = (a + b) % 2 := by
      have h3 : (a ^^^ b) % 2 = a % 2 ^^^ b % 2 := by simpa using Nat.xor_mod_two_pow (a := a) (b := b) (n := 1)
      rw [h3, Nat.add_mod]
      rcases Nat.mod_two_eq_zero_or_one a with p | p <;> rcases Nat.mod_two_eq_zero_or_one b with q | q <;> rw [p, q] <;> rfl
    have e4 : (a &&& b) % 2 = 1 ↔ a % 2 = 1 ∧ b % 2 = 1 := Nat.and_mod_two_eq_one
    have e5 : (a &&& b) % 2 < 2 := Nat.mod_lt _ (by decide)
    rw [← e1, ← e2] at h1
    by_cases p : a % 2 = 1 <;> by_cases q : b % 2 = 1
    · have := e4.mpr ⟨p, q⟩; omega
    · have : (a &&& b) % 2 ≠ 1 := fun z => q (e4.mp z).2
      omega
    · have : (a &&& b) % 2 ≠ 1 := fun z => p (e4.mp z).1
      omega
    · have : (a &&& b) % 2 ≠ 1 := fun z => p (e4.mp z).1
      omega
theorem bitXor_nat (a b : Nat) : Builtin.bitXor (a : Int) (b : Int) = ((a ^^^ b : Nat) : Int) := by
  rw [bitXor_and]
  have h : Builtin.bitAnd (a : Int) (b : Int) = ((a &&& b : Nat) : Int) := by
    unfold Builtin.bitAnd
    rw [decide_eq_true (Int.natCast_nonneg a), decide_eq_true (Int.natCast_nonneg b)]
    rfl
  rw [h]
  have := xor_and_add a a b (Nat.le_refl _)
  omega
theorem bits_nat {a : Nat} (h : 0 < a) : ((Builtin.Int.intBits (a : Int) : Nat) : Int) - 1 = (a.log2 : Nat) := by
  unfold Builtin.Int.intBits
  rw [if_neg (by simp; omega)]
  simp
theorem bits_zero : ((Builtin.Int.intBits ((0 : Nat) : Int) : Nat) : Int) = 0 := rfl
end K51
set_option maxRecDepth 100000
set_option maxHeartbeats 4000000
namespace K51
open PySem PySem.Spec PyProof.Rows L2 SlX DL
local macro_rules | `(tactic| walk_at "ok") => `(tactic| first | assumption | (show PyData.strOk _ = true; decide +kernel))
local macro_rules | `(tactic| walk_at "z") => `(tactic| first | assumption | (simp only [List.length_cons, List.length_nil, List.length_map, List.length_append, sizeLine] at *; omega))
local macro_rules | `(tactic| walk_at "m") => `(tactic| first | assumption | rfl | exact put_same | (simp [Mem.put, *]; done) | (simp [Mem.put, lstV, seqV, objV, dicV, *]; done))
local macro_rules | `(tactic| walk_at "nv") => `(tactic| (try simp only [startD, wipeD, List.map_cons, List.map_nil, List.length_cons, List.length_nil, Nat.reduceAdd, Nat.reduceSub, List.reduceReplicate, List.append_nil, List.cons_append, List.nil_append, List.set_cons_zero, List.set_cons_succ]))
local macro_rules | `(tactic| walk_at "d1") => `(tactic| first
  | ((with_reducible refine i_varI ?_); refine i_var rfl ?_)
  | with_reducible refine i_c ?_
  | with_reducible refine i_op ?_
  | with_reducible refine i_test ?_
  | with_reducible refine i_chain ?_
  | with_reducible refine i_and ?_
  | with_reducible refine i_or ?_
  | with_reducible refine i_not ?_
  | with_reducible refine i_andV ?_
  | with_reducible refine i_orV ?_
  | with_reducible refine i_notV ?_
  | with_reducible refine i_if ?_
  | with_reducible refine i_nil ?_
  | with_reducible refine i_lzip ?_
  | with_reducible refine i_oint ?_
  | with_reducible refine i_ointB ?_
  | with_reducible refine i_mod (by omega) ?_
  | with_reducible refine i_lits ?_
  | with_reducible refine i_get2 ?_
  | with_reducible refine i_bits ?_
  | with_reducible refine i_lrg ?_
  | with_reducible refine i_disp ?_
  | with_reducible refine i_pnil ?_
  | with_reducible refine i_pcons ?_
  | with_reducible refine i_ndw ?_
  | with_reducible refine i_calk ?_
  | with_reducible refine i_enumT ?_
  | with_reducible refine i_zipT ?_
  | with_reducible refine i_cons ?_
  | with_reducible refine i_star ?_
  | with_reducible refine i_tup ?_
  | with_reducible refine i_lst ?_
  | with_reducible refine i_szA (by walk_at "z") ?_
  | with_reducible refine i_szB (by walk_at "z") ?_
  | with_reducible refine i_cal ?_
  | with_reducible refine i_mt ?_
  | with_reducible refine i_m1 ?_
  | with_reducible refine i_fld ?_
  | with_reducible refine i_sl ?_
  | with_reducible refine i_noP ?_
  | with_reducible refine i_part ?_
  | with_reducible refine i_neg ?_
  | with_reducible refine i_meth ?_
  | with_reducible refine i_make ?_
  | with_reducible refine i_pro ?_
  | with_reducible refine i_lc ?_
  | with_reducible refine i_yes ?_
  | with_reducible refine i_next ?_
  | with_reducible refine i_seq ?_
  | with_reducible refine i_ret ?_
  | with_reducible refine i_drop ?_
  | with_reducible refine i_ifS ?_
  | ((with_reducible refine i_gname ?_); walk_at "nv")
  | ((with_reducible refine i_gtupI ?_); refine i_gtup rfl rfl ?_)
  | with_reducible refine i_gnil ?_
  | with_reducible refine i_gcons ?_
  | with_reducible refine i_asg ?_
  | ((with_reducible refine i_par ?_); walk_at "nv")
  | ((with_reducible refine i_par3 ?_); walk_at "nv")
  | with_reducible refine i_gsub ?_
  | with_reducible refine i_gfld ?_
  | with_reducible refine i_for ?_
  | with_reducible refine i_it ?_
  | with_reducible refine i_rng1 ?_
  | with_reducible refine i_enum ?_
  | with_reducible refine i_bl ?_
  | with_reducible refine i_int ?_
  | with_reducible refine i_2 ?_
  | with_reducible refine i_3 ?_
  | with_reducible refine i_iteT ?_
  | with_reducible refine i_iteF ?_
  | with_reducible refine i_iteNT ?_
  | with_reducible refine i_iteNF ?_
  | with_reducible refine i_iteV ?_
  | with_reducible refine i_I0 ?_
  | with_reducible refine i_addI ?_
  | with_reducible refine i_lenSet ?_
  | ((with_reducible refine i_isI ?_); first | refine i_isNF rfl ?_ | refine i_isNT rfl ?_ | refine i_isN ?_)
  | ((with_reducible refine i_notI ?_); first | refine i_notNF rfl ?_ | refine i_notNT rfl ?_ | refine i_notN ?_)
  | with_reducible refine i_len_l ?_
  | with_reducible refine i_len_t ?_
  | ((with_reducible refine i_isiI ?_); refine i_isi rfl rfl ?_)
  | with_reducible refine i_len_s (by first | assumption | (simp only [sizeLine] at *; omega)) ?_
  | with_reducible refine i_it_l ?_
  | with_reducible refine i_it_t ?_
  | with_reducible refine i_it_s ?_
  | with_reducible refine i_tuple_l ?_
  | with_reducible refine i_tuple_t ?_
  | with_reducible refine i_isStr ?_
  | with_reducible refine i_fzR ?_
  | with_reducible refine i_sg ?_)
local macro_rules | `(tactic| walk_at "d") => `(tactic| ((walk_at "d1"); (repeat walk_at "d1")))
local macro_rules | `(tactic| walk_at "s") => `(tactic| (first | (walk_at "d1"; walk_at "s") | (with_reducible refine i_ite (fun hb => ?_) (fun hb => ?_) <;> walk_at "s") | skip))
section
variable {P : Program} {w : World} {K : PySem.W.Frag} {mg : Str → Option Value} {base : Heap} {cl : Nat → Addr} {f : Addr} {fd : FuncData}
theorem rowsN_nodup : ∀ n, (rowsN n).Nodup
  | 0 => by simp [rowsN]
  | n + 1 => by
    have ih := rowsN_nodup n
    unfold rowsN
    refine List.nodup_append.mpr ⟨List.Pairwise.map _ (fun a b hn e => hn (List.cons.inj e).2) ih, List.Pairwise.map _ (fun a b hn e => hn (List.cons.inj e).2) ih, fun x hx y hy e => ?_⟩
    subst e
    obtain ⟨r, hr, rfl⟩ := List.mem_map.mp hx
    obtain ⟨r', hr', e⟩ := List.mem_map.mp hy
    exact absurd (List.cons.inj e).1 (by decide)
def cellKey (c : Cl) : NestedKey := .tup [.text c.1, .tup (c.2.map .num)]
def placesD (P : Program) (w : World) (cl : Nat → Addr) (A : An) : Dat := ndic P w cl ((cellsN A).map cellKey) ((List.range (cellsN A).length).map fun i => .v (.int (i : Nat)))
def clashD : Option Nat → Dat
  | none => .v .non
  | some r => .v (.int (r : Nat))
def rowD (x : Row) : Dat := .tup [.v (.int (x.1 : Nat)), .v (.int (x.2.1 : Nat)), .v (.int (x.2.2 : Nat))]
def firstsD (fs : El) : Dat := .dic (fs.map fun p => (.inl (p.1 : Int) : Key)) (fs.map fun p => rowD p.2)
structure SumsAt (P : Program) (w : World) (cl : Nat → Addr) (M : Mem) (a pf : Addr) (A : An) (fs : El) (c : Option Nat) : Prop where
  o : M a = some (.obj 3 [clashD c, .v (.ref pf), placesD P w cl A])
  hf : M pf = some (firstsD fs)
  ne : a ≠ pf
def idxC (A : An) (c : Cl) : Nat := (cellsN A).idxOf c
def maskN (A : An) (cs : List Cl) : Nat := (cs.map fun c => 2 ^ idxC A c).sum
theorem nk_ints : ∀ r : List Int, nkDs (dIs r) = some (r.map .num)
  | [] => rfl
  | i :: r => by
    show nkDs (.v (.int i) :: dIs r) = _
    rw [nkDs, nk_ints r]
    rfl
theorem nk_cells : ∀ cs : List Cl, nkDs (clsD cs) = some (cs.map cellKey)
  | [] => rfl
  | c :: cs => by
    show nkDs (.tup [.v (.str c.1), .tup (dIs c.2)] :: clsD cs) = _
    rw [nkDs, nk_cells cs]
    have : nkD (.tup [.v (.str c.1), .tup (dIs c.2)]) = some (cellKey c) := by
      rw [nkD, nkDs, nkDs, nkDs, nkD, nkD, nk_ints]
      rfl
    rw [this]
    rfl
theorem nums_inj : ∀ {r q : List Int}, r.map NestedKey.num = q.map NestedKey.num → r = q
  | [], [], _ => rfl
  | [], _ :: _, h => by simp at h
  | _ :: _, [], h => by simp at h
  | i :: r, j :: q, h => by
    rw [List.map_cons, List.map_cons] at h
    obtain ⟨h1, h2⟩ := List.cons.inj h
    rw [NestedKey.num.inj h1, nums_inj h2]
theorem sum_cast : ∀ (xs : List Nat), (xs.map fun n : Nat => (n : Int)).sum = ((xs.sum : Nat) : Int)
  | [] => rfl
  | x :: xs => by rw [List.map_cons, List.sum_cons, List.sum_cons, sum_cast xs]; omega
theorem cellKey_inj {c d : Cl} (h : cellKey c = cellKey d) : c = d := by
  obtain ⟨n, r⟩ := c
  obtain ⟨m, q⟩ := d
  unfold cellKey at h
  simp only [NestedKey.tup.injEq, List.cons.injEq, NestedKey.text.injEq, and_true] at h
  obtain ⟨h1, h2⟩ := h
  rw [h1]
  rw [nums_inj h2]
theorem nget_cells : ∀ {cs : List Cl} {c : Cl} {k : Nat}, c ∈ cs → ngetD (cs.map cellKey) ((List.range' k cs.length).map fun i => .v (.int (i : Nat))) (cellKey c) = some (.v (.int ((k + cs.idxOf c : Nat) : Int)))
  | d :: cs, c, k, h => by
    rw [List.map_cons, List.length_cons, List.range'_succ, List.map_cons, ngetD]
    by_cases e : d = c
    · subst e
      rw [if_pos rfl, List.idxOf_cons_self]
      rfl
    · rw [if_neg (fun z => e (cellKey_inj z)), nget_cells ((List.mem_cons.mp h).resolve_left (Ne.symm e)), List.idxOf_cons, beq_eq_false_iff_ne.mpr e]
      simp only [cond_false]
      rw [show k + 1 + cs.idxOf c = k + (cs.idxOf c + 1) by omega]
theorem dget_firsts : ∀ {fs : El} {p : Nat}, (∃ y, (p, y) ∈ fs ∧ dget (fs.map fun p => (.inl (p.1 : Int) : Key)) (fs.map fun p => rowD p.2) (.inl (p : Int)) = some (rowD y)) ∨ ((∀ y, (p, y) ∉ fs) ∧ dget (fs.map fun p => (.inl (p.1 : Int) : Key)) (fs.map fun p => rowD p.2) (.inl (p : Int)) = none)
  | [], p => .inr ⟨fun y h => by simp at h, rfl⟩
  | q :: fs, p => by
    rw [List.map_cons, List.map_cons, dget]
    by_cases e : q.1 = p
    · left
      exact ⟨q.2, by rw [← e]; exact List.mem_cons_self .., by rw [if_pos (by rw [e])]⟩
    · rw [if_neg (fun z => e (by have := Sum.inl.inj z; omega))]
      rcases dget_firsts (fs := fs) (p := p) with ⟨y, h1, h2⟩ | ⟨h1, h2⟩
      · exact .inl ⟨y, List.mem_cons_of_mem _ h1, h2⟩
      · refine .inr ⟨fun y hy => ?_, h2⟩
        rcases List.mem_cons.mp hy with hy | hy
        · exact e (by rw [← hy])
        · exact h1 y hy
theorem hasK_firsts {fs : El} {p : Nat} (h : ∀ y, (p, y) ∉ fs) : hasK (fs.map fun p => (.inl (p.1 : Int) : Key)) (.inl (p : Int)) = false := by
  refine Bool.eq_false_iff.mpr fun z => ?_
  unfold hasK at z
  obtain ⟨k, hk, e⟩ := List.any_eq_true.mp z
  obtain ⟨q, hq, rfl⟩ := List.mem_map.mp hk
  have e1 := Sum.inl.inj (of_decide_eq_true e)
  have e2 : q.1 = p := by omega
  exact h q.2 (by rw [← e2]; exact hq)
theorem depth_nums : ∀ r : List Int, NestedKey.depthAll (r.map .num) = 0
  | [] => rfl
  | i :: r => by rw [List.map_cons, NestedKey.depthAll, depth_nums r]; rfl
theorem cellKey_depth (c : Cl) : (cellKey c).depth ≤ 8 := by
  unfold cellKey
  simp [NestedKey.depth, NestedKey.depthAll, depth_nums]
theorem cells_nodup : ∀ {A : An}, (A.map (·.1)).Nodup → (cellsN A).Nodup
  | [], _ => by simp [cellsN]
  | q :: A, nd => by
    have ih := cells_nodup (A := A) (List.nodup_cons.mp nd).2
    show ((rowsN q.2.length).map (fun r => (q.1, r)) ++ cellsN A).Nodup
    refine List.nodup_append.mpr ⟨List.Pairwise.map _ (fun a b hn e => hn (Prod.mk.inj e).2) (rowsN_nodup _), ih, fun x hx y hy e => ?_⟩
    subst e
    obtain ⟨r, hr, rfl⟩ := List.mem_map.mp hx
    unfold cellsN at hy
    obtain ⟨q', hq', hy⟩ := List.mem_flatMap.mp hy
    obtain ⟨r', hr', e⟩ := List.mem_map.mp hy
    exact (List.nodup_cons.mp nd).1 (List.mem_map.mpr ⟨q', hq', (Prod.mk.inj e).1⟩)
def c_Sums_init (P : Program) (w : World) (cl : Nat → Addr) : DOs := fun ds M Φ => ∃ a d t F A, ds = [.v (.ref a), d] ∧ M a = some (.obj 3 [.unset, .unset, .unset]) ∧ objV M d = some (1, bookD t F A) ∧ Good F A ∧
  ∀ pf M', M pf = none → SumsAt P w cl M' a pf A [] none → (∀ x, x ≠ a → x ≠ pf → M' x = M x) → Φ (.v .non) M'
def c_Sums_put (P : Program) (w : World) (cl : Nat → Addr) : DOs := fun ds M Φ => ∃ a pf F A fs c cs o r, ds = [.v (.ref a), .lst (clsD cs), .v (.int (o : Nat)), .v (.int (r : Nat))] ∧ SumsAt P w cl M a pf A fs c ∧ Good F A ∧ WfE fs ∧ (∀ x ∈ cs, x ∈ cellsN A) ∧ o < 2 ∧ fs.length < 4000 ∧ cs.length ≤ 4000 ∧
  ∀ x M', Red fs (maskN A cs, o, r) x → Fresh fs x → SumsAt P w cl M' a pf A (nextF fs x) (nextC c x) → (∀ y, y ≠ a → y ≠ pf → M' y = M y) → Φ (.v .non) M'
abbrev s_Sums_init : Stmt := clsS (topS 61) 1
theorem sc_Sums_init : FnScope ["self", "bare", "place", "cell"] ["self", "bare"] (defScope s_Sums_init) := ⟨rfl, rfl, rfl, by decide +kernel, rfl, by decide +kernel, by decide +kernel⟩
theorem ok_Sums_init (T : Tx K mg cl) (F : FunD K "__init__" "Sums.__init__" (defArgs s_Sums_init) (defBody s_Sums_init) (defScope s_Sums_init) [] [] f fd) (hk : Mk K (cl 3) f) (hm : mg "Sums" = some (.ref (cl 3))) (b : Binds K fd ["self", "bare"] []) (k_cells : DCal P w K mg base cl 2 "cells" c_cells) : DMak P w K mg base cl 3 "Sums" 3 (c_Sums_init P w cl) := by
  refine mak_D hk hm F b sc_Sums_init (fun ds M Φ h => ?_) (fun cdv A outer s H E hr => ⟨_, (dss_cons (ds_fld (dv 0) (de_callTy (call_dictN rfl hr.units) cd_dictN boot_dict T.b_dict (da_cons (de_lc (own := [("place", 2), ("cell", 3)]) rfl sc_Sums_init.nd (di_enumT T.b_enumerate (da_cons (de_call k_cells hr (da_cons (dv 1) da_nil)) da_nil)) (blkOk_by (by rfl)) ⟨_, fun _ _ _ _ _ => (PG.or (pg_tup (n := 2) rfl (pgs_cons (pg_name (i := 2) sc_Sums_init.nd rfl (by first | exact Or.inl rfl | exact Or.inr rfl)) (pgs_cons (pg_name (i := 3) sc_Sums_init.nd rfl (by first | exact Or.inl rfl | exact Or.inr rfl)) pgs_nil))) (pg_lst (n := 2) rfl (pgs_cons (pg_name (i := 2) sc_Sums_init.nd rfl (by first | exact Or.inl rfl | exact Or.inr rfl)) (pgs_cons (pg_name (i := 3) sc_Sums_init.nd rfl (by first | exact Or.inl rfl | exact Or.inr rfl)) pgs_nil)))), (gc_tup (gcs_cons (gc_name (by decide)) (gcs_cons (gc_name (by decide)) gcs_nil)))⟩ (fun _ _ _ _ _ => dtt_nil) (fun _ _ _ _ _ => (de_tup (da_cons (dv 3) (da_cons (dv 2) da_nil))))) da_nil)))
    (dss_cons (ds_fld (dv 0) de_newD)
    (dss_one (ds_fld (dv 0) de_non)))), fun ds M Φ h => ?_⟩)
  · obtain ⟨a, d, t, F, A, rfl, _⟩ := h
    rfl
  · obtain ⟨a, d, t, F, A, rfl, ha, ho, g, h⟩ := h
    walk_at "nv"
    walk_at "s"
    refine ⟨_, _, _, _, rfl, ho, g, ?_⟩
    walk_at "s"
    refine ⟨_, rfl, ?_⟩
    have hcl : (cellsN A).length ≤ 384 := by
      have := cellsN_len (A := A) (fun q h => g.lenL h)
      have := g.a6
      omega
    unfold clsD
    rw [enumD_zip]
    refine lc_map (gd := gdT) (cellsN A).zipIdx (fun p => .tup [.v (.int (p.2 : Nat)), .tup [.v (.str p.1.1), .tup (dIs p.1.2)]]) (fun p => .tup [.tup [.v (.str p.1.1), .tup (dIs p.1.2)], .v (.int (p.2 : Nat))]) trivial (by rw [List.length_zipIdx]; simp only [sizeLine]; omega) ?_ ?_
    · intro p hp T1 k
      walk_at "nv"
      walk_at "s"
      exact k
    refine i_fr ?_
    walk_at "s"
    refine ⟨_, clsD (cellsN A), _, _, rfl, congrArg some (pair_idx (cellsN A) fun c => .tup [.v (.str c.1), .tup (dIs c.2)]), by simp [clsD], nk_cells _, fun k hk => ?_, ?_, ?_⟩
    · obtain ⟨c, _, rfl⟩ := List.mem_map.mp hk
      exact ⟨⟨_, rfl⟩, cellKey_depth c⟩
    · exact List.Pairwise.map _ (fun a b hn e => hn (cellKey_inj e)) (cells_nodup (List.nodup_append.mp g.nodup).2.1)
    walk_at "s"
    refine i_os ha T.sc_Sums T.sl_Sums_own_places rfl ?_
    walk_at "s"
    refine i_newD fun pf hpf => ?_
    obtain ⟨n1, m1⟩ := put_none.mp hpf
    walk_at "s"
    refine i_os ((put_ne (Ne.symm n1)).trans put_same) T.sc_Sums T.sl_Sums_own_firsts rfl ?_
    walk_at "s"
    refine i_os put_same T.sc_Sums T.sl_Sums_own_clash rfl ?_
    walk_at "s"
    refine ⟨_, Mem.le_refl _, ?_⟩
    refine h pf _ m1 ⟨put_same, ?_, Ne.symm n1⟩ ?_
    · rw [put_put, put_ne n1, put_same]
      rfl
    · intro x x1 x2
      rw [put_put, put_ne x1, put_ne x2, put_ne x1]
abbrev s_Sums_put : Stmt := clsS (topS 61) 2
theorem sc_Sums_put : FnScope ["self", "some", "odd", "rows", "mine", "its", "cell"] ["self", "some", "odd", "rows"] (defScope s_Sums_put) := ⟨rfl, rfl, rfl, by decide +kernel, rfl, by decide +kernel, by decide +kernel⟩
theorem ok_Sums_put (T : Tx K mg cl) (F : FunD K "put" "Sums.put" (defArgs s_Sums_put) (defBody s_Sums_put) (defScope s_Sums_put) [] [] f fd) (hm : Meth K (cl 3) "put" f) (b : Binds K fd ["self", "some", "odd", "rows"] []) : DMet P w K mg base cl 1 3 "put" (c_Sums_put P w cl) := by
  refine met_D T.sc_Sums hm F b sc_Sums_put (fun ds M Φ h => ?_) (fun cdv A outer s H E hr => ⟨_, (dss_cons (ds_set (i := 4) sc_Sums_put.nd rfl (by first | exact Or.inl rfl | exact Or.inr rfl) (de_callB (cr_sum rfl) cd_sum boot_sum T.b_sum (da_cons (de_lc (own := [("cell", 6)]) rfl sc_Sums_put.nd (di_any (dv 1)) (blkOk_by (by rfl)) ⟨_, fun _ _ _ _ _ => (pg_name (i := 6) sc_Sums_put.nd rfl (by first | exact Or.inl rfl | exact Or.inr rfl)), (gc_name (by decide))⟩ (fun _ _ _ _ _ => dtt_nil) (fun _ _ _ _ _ => (de_op op_shl od_I de_int (de_ixNK (P := P) (w := w) rfl rfl hr.units (de_fldK (K := K) rfl (dv 0)) (dv 6))))) da_nil)))
    (dss_cons (ds_while PassesOwn.never (DW.dt (dw_and (dt_cmp op_gt od_gt (nomark _) (dv 4) de_int) (dw_and1 (dt_cmp (op_inA (hu_of hr)) od_inA (by rfl) (de_op op_sub od_sub (de_bits (dv 4)) de_int) (de_fld (dv 0)))))) (dss_cons (ds_set (i := 5) sc_Sums_put.nd rfl (by first | exact Or.inl rfl | exact Or.inr rfl) (de_ix (hu_of hr) (de_fld (dv 0)) (de_op op_sub od_sub (de_bits (dv 4)) de_int)))
    (dss_one (ds_par3 (i := 4) (j := 2) (l := 3) rfl sc_Sums_put.nd rfl rfl rfl (da_cons (de_op op_xor od_I0 (dv 4) (de_ix (hu_of hr) (dv 5) de_int)) (da_cons (de_op op_xor od_I0 (dv 2) (de_ix (hu_of hr) (dv 5) de_int)) (da_cons (de_op op_xor od_I0 (dv 3) (de_ix (hu_of hr) (dv 5) (de_neg de_int))) da_nil)))))))
    (dss_one (ds_if (dt_cmp op_gt od_gt (nomark _) (dv 4) de_int) (dss_one (ds_asg (de_tup (da_cons (dv 4) (da_cons (dv 2) (da_cons (dv 3) da_nil)))) (dt_sub (hu_of hr) (de_fld (dv 0)) (de_op op_sub od_sub (de_bits (dv 4)) de_int)))) (dss_one (ds_if (DW.dt (dw_and (dt_cmp (op_eqD hr.units) od_eq (nomark _) (dv 2) de_int) (dw_and1 (dt_cmp op_isN od_is (nomark _) (de_fld (dv 0)) de_non)))) (dss_one (ds_fld (dv 0) (dv 3))) dss_nil)))))), fun ds M Φ h => ?_⟩)
  · obtain ⟨a, pf, F, A, fs, c, cs, o, r, rfl, _⟩ := h
    rfl
  · obtain ⟨a, pf, F, A, fs, c, cs, o, r, rfl, S, g, wf, hcs, ho, hfl, hcl, h⟩ := h
    walk_at "nv"
    walk_at "s"
    refine lc_map (gd := gdT) cs (fun c => .tup [.v (.str c.1), .tup (dIs c.2)]) (fun c => .v (.int ((2 ^ idxC A c : Nat) : Int))) trivial (by simp only [sizeLine]; omega) ?_ ?_
    · intro x hx T1 k
      walk_at "nv"
      walk_at "s"
      refine i_o (objV_at S.o) T.sc_Sums T.sl_Sums_own_places rfl (fun h => nomatch h) ?_
      walk_at "s"
      have hk : nkD (.tup [.v (.str x.1), .tup (dIs x.2)]) = some (cellKey x) := by
        rw [nkD, nkDs, nkDs, nkDs, nkD, nkD, nk_ints]
        rfl
      have hg := nget_cells (k := 0) (hcs x hx)
      rw [← List.range_eq_range', Nat.zero_add] at hg
      refine ⟨_, _, cellKey x, _, _, rfl, hk, rfl, cellKey_depth x, hg, ?_⟩
      have hi : idxC A x < (cellsN A).length := List.idxOf_lt_length_of_mem (hcs x hx)
      have hcl : (cellsN A).length ≤ 384 := by
        have := cellsN_len (A := A) (fun q h => g.lenL h)
        have := g.a6
        omega
      refine i_pow (n := idxC A x) rfl (by omega) (by decide) ?_
      rw [show (1 : Int) * 2 ^ ((idxC A x : Nat) : Int).toNat = ((2 ^ idxC A x : Nat) : Int) by simp]
      exact k
    refine i_fr ?_
    walk_at "s"
    refine i_sum (bs := (cs.map fun c => 2 ^ idxC A c).map fun n : Nat => (n : Int)) (by rw [List.map_map, List.map_map]; rfl) ?_
    rw [sum_cast]
    walk_at "s"
    refine ⟨fun k ρ' M' => ∃ (x : Row) (its : Option Dat), M' = M ∧ k = x.1 ∧ x.2.1 < 2 ∧ Red fs (maskN A cs, o, r) x ∧ ρ' = [some (.v (.ref a)), some (.lst (clsD cs)), some (.v (.int (x.2.1 : Nat))), some (.v (.int (x.2.2 : Nat))), some (.v (.int (x.1 : Nat))), its, none], ⟨_, (maskN A cs, o, r), none, rfl, rfl, ho, .refl _, rfl⟩, ?_⟩
    rintro k ρ' M' ⟨x, its, rfl, rfl, hx2, hred, rfl⟩
    walk_at "s"
    · rename_i hb
      have hpos : 0 < x.1 := by have := of_decide_eq_true hb; omega
      rw [bits_nat hpos]
      refine i_o (objV_at S.o) T.sc_Sums T.sl_Sums_own_firsts rfl (fun h => nomatch h) ?_
      rcases dget_firsts (fs := fs) (p := x.1.log2) with ⟨y, hy, hg⟩ | ⟨hy, hg⟩
      · refine i_inD (dicV_at S.hf) rfl (b0 := true) (by rw [hg]; rfl) ?_
        walk_at "s"
        refine i_o (objV_at S.o) T.sc_Sums T.sl_Sums_own_firsts rfl (fun h => nomatch h) ?_
        walk_at "s"
        rw [bits_nat hpos]
        refine .dic (dicV_at S.hf) rfl hg ?_
        walk_at "s"
        refine .seq rfl rfl ?_
        walk_at "s"
        refine .seq rfl rfl ?_
        walk_at "s"
        refine .seq rfl rfl ?_
        walk_at "s"
        obtain ⟨hy1, hy2⟩ := wf.top _ hy
        refine ⟨_, xor_lt_top hpos hy2 hy1, x.xor y, some (rowD y), rfl, rfl, xor_two hx2 (wf.odd _ hy), hred.trans (.step hpos hy (.refl _)), ?_⟩
        rw [bitXor_nat, bitXor_nat, bitXor_nat]
        rfl
      · refine i_inD (dicV_at S.hf) rfl (b0 := false) (by rw [hg]; rfl) ?_
        walk_at "s"
        · refine i_o (objV_at S.o) T.sc_Sums T.sl_Sums_own_firsts rfl (fun h => nomatch h) ?_
          walk_at "s"
          rw [bits_nat hpos]
          refine .dic S.hf rfl (by rw [List.length_map]; simp only [sizeLine]; omega) ?_
          refine ⟨_, Mem.le_refl _, h x _ hred (.inr hy) ⟨?_, ?_, S.ne⟩ ?_⟩
          · rw [put_ne S.ne, S.o]
            unfold nextC
            rw [if_pos hpos]
          · rw [put_same]
            unfold dputK dputV nextF
            rw [hasK_firsts hy, if_pos hpos]
            simp only [firstsD, List.map_append, List.map_cons, List.map_nil, Bool.false_eq_true, if_false]
            rfl
          · intro z z1 z2
            exact put_ne z2
        · rename_i hb'
          exact absurd (of_decide_eq_false hb') (by omega)
    · rename_i hb hb'
      rw [hb] at hb'
      cases hb'
    · rename_i hb _
      have hz : x.1 = 0 := by have := of_decide_eq_false hb; omega
      have nx : nextF fs x = fs := by unfold nextF; rw [if_neg (by omega)]
      have nc : nextC c x = if x.2.1 = 1 ∧ c = none then some x.2.2 else c := by unfold nextC; rw [if_neg (by omega)]
      by_cases h1 : x.2.1 = 1
      · refine i_eqI (b0 := true) (by rw [h1]; rfl) ?_
        walk_at "s"
        refine i_o (objV_at S.o) T.sc_Sums T.sl_Sums_own_clash rfl (fun h => by cases c <;> cases h) ?_
        cases c with
        | none =>
          walk_at "s"
          refine i_os S.o T.sc_Sums T.sl_Sums_own_clash rfl ?_
          refine ⟨_, Mem.le_refl _, h x _ hred (.inl hz) ⟨?_, ?_, S.ne⟩ ?_⟩
          · rw [put_same, nc, if_pos ⟨h1, rfl⟩]
            rfl
          · rw [put_ne (Ne.symm S.ne), S.hf, nx]
          · intro z z1 z2
            exact put_ne z1
        | some c0 =>
          walk_at "s"
          refine ⟨_, Mem.le_refl _, h x _ hred (.inl hz) ⟨?_, ?_, S.ne⟩ fun _ _ _ => rfl⟩
          · rw [S.o, nc, if_neg (fun z => nomatch z.2)]
          · rw [S.hf, nx]
      · refine i_eqI (b0 := false) (decide_eq_false (by omega)) ?_
        walk_at "s"
        refine ⟨_, Mem.le_refl _, h x _ hred (.inl hz) ⟨?_, ?_, S.ne⟩ fun _ _ _ => rfl⟩
        · rw [S.o, nc, if_neg (fun z => h1 z.1)]
        · rw [S.hf, nx]
end
end K51
set_option maxRecDepth 100000
set_option maxHeartbeats 4000000
/-! plain: rows of 0 and 1, the rows of parities -/
namespace K51
open PySem PySem.Spec PyProof.Rows L2 SlX DL
def Bits (r : List Int) : Prop := ∀ i ∈ r, i = 0 ∨ i = 1
theorem rowsN_iff : ∀ {n : Nat} {r : List Int}, r ∈ rowsN n ↔ r.length = n ∧ Bits r
  | 0, r => by
    constructor
    · intro h
      rw [List.mem_singleton.mp h]
      exact ⟨rfl, fun i h => by simp at h⟩
    · rintro ⟨h, _⟩
      rw [List.length_eq_zero_iff.mp h]
      exact List.mem_singleton.mpr rfl
  | n + 1, r => by
    unfold rowsN
    rw [List.mem_append, List.mem_map, List.mem_map]
    constructor
    · rintro (⟨q, hq, rfl⟩ | ⟨q, hq, rfl⟩)
      · obtain ⟨h1, h2⟩ := rowsN_iff.mp hq
        exact ⟨by simp [h1], fun i hi => (List.mem_cons.mp hi).elim (fun e => .inl e) (h2 i)⟩
      · obtain ⟨h1, h2⟩ := rowsN_iff.mp hq
        exact ⟨by simp [h1], fun i hi => (List.mem_cons.mp hi).elim (fun e => .inr e) (h2 i)⟩
    · rintro ⟨h1, h2⟩
      cases r with
      | nil => simp at h1
      | cons i q =>
        have hq : q ∈ rowsN n := rowsN_iff.mpr ⟨by simpa using h1, fun j hj => h2 j (List.mem_cons_of_mem _ hj)⟩
        rcases h2 i (List.mem_cons_self ..) with e | e
        · exact .inl ⟨q, hq, by rw [e]⟩
        · exact .inr ⟨q, hq, by rw [e]⟩
theorem seen_len : ∀ {F L : List Str} {s : List Int}, s.length = F.length → (seenN F L s).length = (F.filter fun f => decide (f ∈ L)).length
  | [], L, s, _ => by simp [seenN]
  | f :: F, L, [], h => by simp at h
  | f :: F, L, i :: s, h => by
    have ih := seen_len (F := F) (L := L) (s := s) (by simpa using h)
    unfold seenN at ih ⊢
    rw [List.zip_cons_cons, List.filter_cons, List.filter_cons]
    by_cases e : f ∈ L
    · rw [if_pos (decide_eq_true e), if_pos (decide_eq_true e), List.map_cons, List.length_cons, List.length_cons, ih]
    · rw [if_neg (by simpa using e), if_neg (by simpa using e), ih]
theorem seen_bits {F L : List Str} {s : List Int} (h : Bits s) : Bits (seenN F L s) := fun i hi => by
  unfold seenN at hi
  obtain ⟨p, hp, rfl⟩ := List.mem_map.mp hi
  have := (List.mem_filter.mp hp).1
  exact h _ (List.of_mem_zip this).2
theorem lineCells_mem {F : List Str} {A : An} {s : List Int} {names : List Str} (g : Good F A) (hs : s ∈ rowsN F.length) : ∀ x ∈ lineCells F A s names, x ∈ cellsN A := fun x hx => by
  obtain ⟨h1, h2⟩ := rowsN_iff.mp hs
  unfold lineCells at hx
  obtain ⟨a, ha, rfl⟩ := List.mem_map.mp hx
  have ha := (List.mem_filter.mp ha).1
  unfold cellsN
  refine List.mem_flatMap.mpr ⟨a, ha, List.mem_map.mpr ⟨_, rowsN_iff.mpr ⟨?_, seen_bits h2⟩, rfl⟩⟩
  rw [seen_len h1, ← g.looks a ha]
theorem lineCells_len {F : List Str} {A : An} {s : List Int} {names : List Str} : (lineCells F A s names).length ≤ A.length := by
  unfold lineCells
  rw [List.length_map]
  exact List.length_filter_le _ _
def lineAt (L : An) (n : Nat) : Str × List Str := L[n]?.getD (⟨#[]⟩, [])
def rowPar (F : List Str) (A L : An) (p : (List Int × Nat) × Nat) : Row := (maskN A (lineCells F A p.1.1 (lineAt L p.1.2).2), (oddN F p.1.1 (lineAt L p.1.2)).toNat, 2 ^ p.2)
def rowsPar (F : List Str) (A L : An) : List Row := (rowsOf F L.length).zipIdx.map (rowPar F A L)
theorem odd_nat {F : List Str} {s : List Int} {q : Str × List Str} : ((oddN F s q).toNat : Int) = oddN F s q ∧ (oddN F s q).toNat < 2 := by
  unfold oddN
  omega
theorem rowsOf_mem {F : List Str} {n : Nat} {r : List Int × Nat} (h : r ∈ rowsOf F n) : r.1 ∈ rowsN F.length ∧ r.2 < n := by
  unfold rowsOf at h
  obtain ⟨s, hs, h⟩ := List.mem_flatMap.mp h
  obtain ⟨i, hi, rfl⟩ := List.mem_map.mp h
  exact ⟨hs, List.mem_range.mp hi⟩
theorem Red.odd {fs : El} {x y : Row} (w : WfE fs) (h : Red fs x y) (hx : x.2.1 < 2) : y.2.1 < 2 := by
  induction h with
  | refl => exact hx
  | step a b _ ih => exact ih (xor_two hx (w.odd _ b))
theorem objV_le {M M' : Mem} {d : Dat} {n : Nat} {ds : List Dat} (le : M.le M') (h : objV M d = some (n, ds)) : objV M' d = some (n, ds) := by
  cases d with
  | v x =>
    cases x with
    | ref q =>
      unfold objV at h ⊢
      simp only at h ⊢
      cases e : M q with
      | none => rw [e] at h; simp at h
      | some c => rw [e] at h; rw [le _ _ e]; exact h
    | _ => simp [objV] at h
  | obj _ _ => exact h
  | _ => simp [objV] at h
theorem two_pow_and {x S : Nat} (h : S.testBit x = false) : 2 ^ x &&& S = 0 := by
  refine Nat.eq_of_testBit_eq fun i => ?_
  rw [Nat.testBit_and, Nat.testBit_two_pow, Nat.zero_testBit]
  by_cases e : x = i
  · subst e; rw [h, Bool.and_false]
  · rw [decide_eq_false e, Bool.false_and]
theorem mask_bit : ∀ {xs : List Nat}, xs.Nodup → ∀ i, ((xs.map fun x => 2 ^ x).sum).testBit i = decide (i ∈ xs)
  | [], _, i => by simp
  | x :: xs, nd, i => by
    obtain ⟨n1, n2⟩ := List.nodup_cons.mp nd
    have ih := mask_bit n2
    rw [List.map_cons, List.sum_cons]
    have h0 : ((xs.map fun x => 2 ^ x).sum).testBit x = false := by rw [ih]; exact decide_eq_false n1
    have h1 := xor_and_add _ (2 ^ x) ((xs.map fun x => 2 ^ x).sum) (Nat.le_refl _)
    rw [two_pow_and h0] at h1
    rw [show 2 ^ x + (xs.map fun x => 2 ^ x).sum = 2 ^ x ^^^ (xs.map fun x => 2 ^ x).sum by omega, Nat.testBit_xor, ih, Nat.testBit_two_pow]
    by_cases e : x = i
    · subst e; simp [n1]
    · have e' : ¬ i = x := fun z => e z.symm
      simp [e, e']
theorem idxC_inj {A : An} {c d : Cl} (hc : c ∈ cellsN A) (h : idxC A c = idxC A d) (hd : d ∈ cellsN A) : c = d := by
  have h1 := List.getElem_idxOf (List.idxOf_lt_length_of_mem hc)
  have h2 := List.getElem_idxOf (List.idxOf_lt_length_of_mem hd)
  unfold idxC at h
  rw [← h1, ← h2]
  congr 1
theorem line_nodup {F : List Str} {A : An} {s : List Int} {names : List Str} (g : Good F A) (hs : s ∈ rowsN F.length) : ((lineCells F A s names).map (idxC A)).Nodup := by
  have h0 : (lineCells F A s names).Nodup := by
    unfold lineCells
    have nd : (A.map (·.1)).Nodup := (List.nodup_append.mp g.nodup).2.1
    have nd2 : (A.filter fun a => decide (a.1 ∈ names)).Pairwise fun a b => a.1 ≠ b.1 := (List.pairwise_map.mp nd).sublist List.filter_sublist
    exact List.pairwise_map.mpr (nd2.imp fun h e => h (Prod.mk.inj e).1)
  refine List.pairwise_map.mpr ?_
  have hm := lineCells_mem (names := names) g hs
  refine List.Pairwise.imp_of_mem ?_ h0
  intro a b ha hb hn e
  exact hn (idxC_inj (hm a ha) e (hm b hb))
theorem mask_lt {F : List Str} {A : An} {s : List Int} {names : List Str} (g : Good F A) (hs : s ∈ rowsN F.length) : maskN A (lineCells F A s names) < 2 ^ (cellsN A).length := by
  refine Nat.lt_pow_two_of_testBit _ fun i hi => ?_
  have := mask_bit (line_nodup (names := names) g hs) i
  rw [List.map_map] at this
  unfold maskN
  rw [show (List.map (fun c => 2 ^ idxC A c) (lineCells F A s names)) = List.map ((fun x => 2 ^ x) ∘ idxC A) (lineCells F A s names) from rfl, this]
  refine decide_eq_false fun h => ?_
  obtain ⟨c, hc, rfl⟩ := List.mem_map.mp h
  have := List.idxOf_lt_length_of_mem (lineCells_mem g hs c hc)
  unfold idxC at hi
  omega
theorem Red.lt {fs : El} {x y : Row} {n : Nat} (hf : ∀ p ∈ fs, p.2.1 < 2 ^ n) (h : Red fs x y) (hx : x.1 < 2 ^ n) : y.1 < 2 ^ n := by
  induction h with
  | refl => exact hx
  | step a b _ ih => exact ih (Nat.xor_lt_two_pow hx (hf _ b))
theorem Runs.lt {rs : List Row} {fs : El} {c : Option Nat} {n : Nat} (h : Runs rs fs c) (hr : ∀ r ∈ rs, r.1 < 2 ^ n) : ∀ p ∈ fs, p.2.1 < 2 ^ n := by
  induction h with
  | nil => intro p hp; simp at hp
  | snoc h1 h2 h3 ih =>
    have ih := ih fun r h => hr r (List.mem_append_left _ h)
    intro p hp
    unfold nextF at hp
    split at hp
    · rcases List.mem_append.mp hp with hp | hp
      · exact ih p hp
      · rw [List.mem_singleton.mp hp]
        exact h2.lt ih (hr _ (List.mem_append_right _ (List.mem_singleton.mpr rfl)))
    · exact ih p hp
theorem nodup_le {n : Nat} : ∀ {xs : List Nat}, xs.Nodup → (∀ x ∈ xs, x < n) → xs.length ≤ n := fun nd h => by
  have := List.Nodup.length_le_of_subset nd (l₂ := List.range n) (fun x hx => List.mem_range.mpr (h x hx))
  simpa using this
theorem runs_len {F : List Str} {A L : An} {fs : El} {c : Option Nat} (g : Good F A) (gl : GoodL F A L) (h : Runs (rowsPar F A L) fs c) (wf : WfE fs) : fs.length ≤ (cellsN A).length := by
  have hlt := h.lt (n := (cellsN A).length) fun r hr => by
    unfold rowsPar at hr
    obtain ⟨p, hp, rfl⟩ := List.mem_map.mp hr
    have := List.fst_mem_of_mem_zipIdx hp
    exact mask_lt g (rowsOf_mem this).1
  have := nodup_le (n := (cellsN A).length) wf.nd fun x hx => by
    obtain ⟨p, hp, rfl⟩ := List.mem_map.mp hx
    obtain ⟨h1, h2⟩ := wf.top p hp
    rw [← h2]
    exact (Nat.log2_lt (Nat.ne_of_gt h1)).mpr (hlt p hp)
  simpa using this
theorem len_dic {M : Mem} {d : Dat} {ks : List Key} {es : List Dat} {Φ : Dat → Mem → Prop} (h1 : dicV M d = some (ks, es)) (h : Φ (.v (.int ks.length)) M) : OLen [d] M Φ := .dic h1 h
end K51
set_option maxRecDepth 100000
set_option maxHeartbeats 4000000
namespace K51
open PySem PySem.Spec PyProof.Rows L2 SlX DL
local macro_rules | `(tactic| walk_at "ok") => `(tactic| first | assumption | (show PyData.strOk _ = true; decide +kernel))
local macro_rules | `(tactic| walk_at "z") => `(tactic| first | assumption | (simp only [List.length_cons, List.length_nil, List.length_map, List.length_append, sizeLine] at *; omega))
local macro_rules | `(tactic| walk_at "m") => `(tactic| first | assumption | rfl | exact put_same | (simp [Mem.put, *]; done) | (simp [Mem.put, lstV, seqV, objV, dicV, *]; done))
local macro_rules | `(tactic| walk_at "nv") => `(tactic| (try simp only [startD, wipeD, List.map_cons, List.map_nil, List.length_cons, List.length_nil, Nat.reduceAdd, Nat.reduceSub, List.reduceReplicate, List.append_nil, List.cons_append, List.nil_append, List.set_cons_zero, List.set_cons_succ]))
local macro_rules | `(tactic| walk_at "d1") => `(tactic| first
  | ((with_reducible refine i_varI ?_); refine i_var rfl ?_)
  | with_reducible refine i_c ?_
  | with_reducible refine i_op ?_
  | with_reducible refine i_test ?_
  | with_reducible refine i_chain ?_
  | with_reducible refine i_and ?_
  | with_reducible refine i_or ?_
  | with_reducible refine i_not ?_
  | with_reducible refine i_andV ?_
  | with_reducible refine i_orV ?_
  | with_reducible refine i_notV ?_
  | with_reducible refine i_if ?_
  | with_reducible refine i_nil ?_
  | with_reducible refine i_lzip ?_
  | with_reducible refine i_oint ?_
  | with_reducible refine i_ointB ?_
  | with_reducible refine i_mod (by omega) ?_
  | with_reducible refine i_lits ?_
  | with_reducible refine i_get2 ?_
  | with_reducible refine i_bits ?_
  | with_reducible refine i_lrg ?_
  | with_reducible refine i_disp ?_
  | with_reducible refine i_pnil ?_
  | with_reducible refine i_pcons ?_
  | with_reducible refine i_ndw ?_
  | with_reducible refine i_calk ?_
  | with_reducible refine i_enumT ?_
  | with_reducible refine i_zipT ?_
  | with_reducible refine i_cons ?_
  | with_reducible refine i_star ?_
  | with_reducible refine i_tup ?_
  | with_reducible refine i_lst ?_
  | with_reducible refine i_szA (by walk_at "z") ?_
  | with_reducible refine i_szB (by walk_at "z") ?_
  | with_reducible refine i_cal ?_
  | with_reducible refine i_mt ?_
  | with_reducible refine i_m1 ?_
  | with_reducible refine i_fld ?_
  | with_reducible refine i_sl ?_
  | with_reducible refine i_noP ?_
  | with_reducible refine i_part ?_
  | with_reducible refine i_neg ?_
  | with_reducible refine i_meth ?_
  | with_reducible refine i_make ?_
  | with_reducible refine i_pro ?_
  | with_reducible refine i_lc ?_
  | with_reducible refine i_yes ?_
  | with_reducible refine i_next ?_
  | with_reducible refine i_seq ?_
  | with_reducible refine i_ret ?_
  | with_reducible refine i_drop ?_
  | with_reducible refine i_ifS ?_
  | ((with_reducible refine i_gname ?_); walk_at "nv")
  | ((with_reducible refine i_gtupI ?_); refine i_gtup rfl rfl ?_)
  | with_reducible refine i_gnil ?_
  | with_reducible refine i_gcons ?_
  | with_reducible refine i_asg ?_
  | ((with_reducible refine i_par ?_); walk_at "nv")
  | ((with_reducible refine i_par3 ?_); walk_at "nv")
  | with_reducible refine i_gsub ?_
  | with_reducible refine i_gfld ?_
  | with_reducible refine i_for ?_
  | with_reducible refine i_it ?_
  | with_reducible refine i_rng1 ?_
  | with_reducible refine i_enum ?_
  | with_reducible refine i_bl ?_
  | with_reducible refine i_int ?_
  | with_reducible refine i_2 ?_
  | with_reducible refine i_3 ?_
  | with_reducible refine i_iteT ?_
  | with_reducible refine i_iteF ?_
  | with_reducible refine i_iteNT ?_
  | with_reducible refine i_iteNF ?_
  | with_reducible refine i_iteV ?_
  | with_reducible refine i_I0 ?_
  | with_reducible refine i_addI ?_
  | with_reducible refine i_lenSet ?_
  | ((with_reducible refine i_isI ?_); first | refine i_isNF rfl ?_ | refine i_isNT rfl ?_ | refine i_isN ?_)
  | ((with_reducible refine i_notI ?_); first | refine i_notNF rfl ?_ | refine i_notNT rfl ?_ | refine i_notN ?_)
  | with_reducible refine i_len_l ?_
  | with_reducible refine i_len_t ?_
  | ((with_reducible refine i_isiI ?_); refine i_isi rfl rfl ?_)
  | with_reducible refine i_len_s (by first | assumption | (simp only [sizeLine] at *; omega)) ?_
  | with_reducible refine i_it_l ?_
  | with_reducible refine i_it_t ?_
  | with_reducible refine i_it_s ?_
  | with_reducible refine i_tuple_l ?_
  | with_reducible refine i_tuple_t ?_
  | with_reducible refine i_isStr ?_
  | with_reducible refine i_fzR ?_
  | with_reducible refine i_sg ?_)
local macro_rules | `(tactic| walk_at "d") => `(tactic| ((walk_at "d1"); (repeat walk_at "d1")))
local macro_rules | `(tactic| walk_at "s") => `(tactic| (first | (walk_at "d1"; walk_at "s") | (with_reducible refine i_ite (fun hb => ?_) (fun hb => ?_) <;> walk_at "s") | skip))
section
variable {P : Program} {w : World} {K : PySem.W.Frag} {mg : Str → Option Value} {base : Heap} {cl : Nat → Addr} {f : Addr} {fd : FuncData}
def c_summed (P : Program) (w : World) (cl : Nat → Addr) : DOs := fun ds M Φ => ∃ d t F A L, ds = [d] ∧ objV M d = some (2, parD t F A L) ∧ Good F A ∧ GoodL F A L ∧
  ∀ a pf M' fs c, M.le M' → SumsAt P w cl M' a pf A fs c → WfE fs → Runs (rowsPar F A L) fs c → Φ (.v (.ref a)) M'
def c_plans_of : DOs := fun ds M Φ => ∃ d t F A L, ds = [d] ∧ objV M d = some (2, parD t F A L) ∧ Good F A ∧ GoodL F A L ∧
  ∀ fs c, WfE fs → Runs (rowsPar F A L) fs c → fs.length ≤ (cellsN A).length → Φ (.v (.int (if c = none then (2 ^ ((cellsN A).length - fs.length) : Nat) else (0 : Nat) : Nat))) M
abbrev s_summed : Stmt := topS 62
theorem sc_summed : FnScope ["parities", "found", "at", "setting", "number", "some", "odd"] ["parities"] (defScope s_summed) := ⟨rfl, rfl, rfl, by decide +kernel, rfl, by decide +kernel, by decide +kernel⟩
theorem ok_summed (T : Tx K mg cl) (F : FunD K "summed" "summed" (defArgs s_summed) (defBody s_summed) (defScope s_summed) [] [] f fd) (hm : mg "summed" = some (.ref f)) (b : Binds K fd ["parities"] []) (mk_Sums : DMak P w K mg base cl 3 "Sums" 3 (c_Sums_init P w cl)) (k_written_rows : DCal P w K mg base cl 3 "written_rows" c_written_rows) (k_written_line : DCal P w K mg base cl 5 "written_line" c_written_line) (m_Sums_put : DMet P w K mg base cl 1 3 "put" (c_Sums_put P w cl)) : DCal P w K mg base cl 6 "summed" (c_summed P w cl) := by
  refine cal_D F hm b sc_summed (fun ds M Φ h => ?_) (fun cdv A outer s H E hr => ⟨_, (dss_cons (ds_set (i := 1) sc_summed.nd rfl (by first | exact Or.inl rfl | exact Or.inr rfl) (de_make (nf := 3) mk_Sums hr (da_cons (de_fld (dv 0)) da_nil)))
    (dss_cons (ds_for PassesOwn.never rfl (di_enum T.b_enumerate (da_cons (de_call k_written_rows hr (da_cons (dv 0) da_nil)) da_nil)) (dt_tup rfl (gds_cons (dt_name (i := 2) sc_summed.nd rfl (by first | exact Or.inl rfl | exact Or.inr rfl)) (gds_cons (dt_tup rfl (gds_cons (dt_name (i := 3) sc_summed.nd rfl (by first | exact Or.inl rfl | exact Or.inr rfl)) (gds_cons (dt_name (i := 4) sc_summed.nd rfl (by first | exact Or.inl rfl | exact Or.inr rfl)) gds_nil))) gds_nil)))
    (dss_cons (ds_asg (de_call k_written_line hr (da_cons (dv 0) (da_cons (dv 3) (da_cons (dv 4) da_nil)))) (dt_tup rfl (gds_cons (dt_name (i := 5) sc_summed.nd rfl (by first | exact Or.inl rfl | exact Or.inr rfl)) (gds_cons (dt_name (i := 6) sc_summed.nd rfl (by first | exact Or.inl rfl | exact Or.inr rfl)) gds_nil))))
    (dss_one (ds_expr (de_meth m_Sums_put hr (dv 1) (da_cons (dv 5) (da_cons (dv 6) (da_cons (de_op op_shl od_I de_int (dv 2)) da_nil))))))))
    (dss_one (ds_ret (dv 1))))), fun ds M Φ h => ?_⟩)
  · obtain ⟨d, t, F, A, L, rfl, _⟩ := h
    rfl
  · obtain ⟨d, t, F, A, L, rfl, ho, g, gl, h⟩ := h
    have hrl : (rowsOf F L.length).length ≤ 1920 := by
      unfold rowsOf
      rw [rowsOf_len, rowsN_len]
      have h1 : 2 ^ F.length ≤ 64 := Nat.le_trans (Nat.pow_le_pow_right (by decide) g.f6) (by decide)
      exact Nat.le_trans (Nat.mul_le_mul h1 gl.n) (by decide)
    walk_at "nv"
    walk_at "s"
    refine i_o ho T.sc_Parities T.sl_Parities_own_bare rfl (fun h => nomatch h) ?_
    walk_at "s"
    intro a ha
    refine ⟨a, _, _, F, A, rfl, put_same, rfl, g, fun pf M1 hpf S0 fr => ⟨rfl, ?_⟩⟩
    have le : M.le M1 := fun x c hx => by
      have h1 := mem_ne hx ha
      have h2 := mem_ne (le_put (Mem.le_refl M) ha _ _ hx) hpf
      rw [fr x h1 h2, put_ne h1]
      exact hx
    walk_at "s"
    refine ⟨d, t, F, A, L, rfl, objV_le le ho, g, gl, ?_⟩
    walk_at "s"
    refine ⟨_, _, rfl, rfl, ?_⟩
    refine for_enum (rowsOf F L.length) (fun r => .tup [.tup (dIs r.1), .v (.int r.2)]) (fun i ρ' M' => ∃ x1 x2 x3 x4 x5 fs c, ρ' = [some d, some (.v (.ref a)), x1, x2, x3, x4, x5] ∧ M.le M' ∧ SumsAt P w cl M' a pf A fs c ∧ WfE fs ∧ Runs ((rowsPar F A L).take i) fs c ∧ fs.length ≤ i) ⟨_, _, _, _, _, [], none, rfl, le, S0, ⟨fun p hp => by simp at hp, by simp, fun p hp => by simp at hp⟩, .nil, Nat.le_refl _⟩ (fun _ _ _ _ => rfl) ?_ ?_
    · rintro i r ρ' M' hr ⟨x1, x2, x3, x4, x5, fs, c, rfl, le', S, wf, hrun, hfl⟩
      have hr' := List.mem_of_getElem? hr
      have hi : i < (rowsOf F L.length).length := (List.getElem?_eq_some_iff.mp hr).1
      obtain ⟨hr1, hr2⟩ := rowsOf_mem hr'
      obtain ⟨q, hq⟩ : ∃ q, L[r.2]? = some q := ⟨_, List.getElem?_eq_getElem hr2⟩
      obtain ⟨o1, o2⟩ := odd_nat (F := F) (s := r.1) (q := q)
      walk_at "s"
      refine ⟨d, t, F, A, L, r.1, r.2, q, rfl, objV_le le' ho, g, gl, (rowsN_iff.mp hr1).1, hq, ?_⟩
      walk_at "s"
      refine i_isO (objV_at S.o) ?_
      walk_at "s"
      refine i_pow (n := i) rfl (by omega) (by decide) ?_
      walk_at "s"
      rw [show (1 : Int) * 2 ^ ((i : Nat) : Int).toNat = ((2 ^ i : Nat) : Int) by simp, ← o1]
      refine ⟨a, pf, F, A, fs, c, lineCells F A r.1 q.2, _, 2 ^ i, rfl, S, g, wf, lineCells_mem g hr1, o2, by omega, by have := lineCells_len (F := F) (A := A) (s := r.1) (names := q.2); have := g.a6; omega, fun x M2 hred hfr S2 fr2 => ?_⟩
      walk_at "s"
      refine ⟨_, _, _, _, _, _, _, rfl, fun y c hy => ?_, S2, wf.next hfr (hred.odd wf o2), ?_, ?_⟩
      · have h1 := mem_ne hy ha
        have h2 : y ≠ pf := mem_ne (le_put (Mem.le_refl M) ha _ _ hy) hpf
        rw [fr2 y h1 h2]
        exact le' _ _ hy
      · rw [take_snoc (x := rowPar F A L (r, i))]
        · refine .snoc hrun ?_ hfr
          unfold rowPar lineAt
          rw [hq]
          exact hred
        · unfold rowsPar
          rw [List.getElem?_map, List.getElem?_zipIdx, hr]
          simp
      · unfold nextF
        split
        · rw [List.length_append, List.length_singleton]; omega
        · omega
    · rintro ρ' M' ⟨x1, x2, x3, x4, x5, fs, c, rfl, le', S, wf, hrun, hfl⟩
      walk_at "s"
      refine h a pf M' fs c le' S wf ?_
      rw [List.take_of_length_le (by simp [rowsPar])] at hrun
      exact hrun
abbrev s_plans_of : Stmt := topS 63
theorem sc_plans_of : FnScope ["parities", "found"] ["parities"] (defScope s_plans_of) := ⟨rfl, rfl, rfl, by decide +kernel, rfl, by decide +kernel, by decide +kernel⟩
theorem ok_plans_of (T : Tx K mg cl) (F : FunD K "plans_of" "plans_of" (defArgs s_plans_of) (defBody s_plans_of) (defScope s_plans_of) [] [] f fd) (hm : mg "plans_of" = some (.ref f)) (b : Binds K fd ["parities"] []) (k_summed : DCal P w K mg base cl 6 "summed" (c_summed P w cl)) : FnOk P w K mg base CX0 7 f fd ["parities"] (spD cl c_plans_of) := by
  refine fn_D F sc_plans_of (fun ds M Φ h => ?_) (fun cdv A outer s H E hr => ⟨_, (dss_cons (ds_set (i := 1) sc_plans_of.nd rfl (by first | exact Or.inl rfl | exact Or.inr rfl) (de_call k_summed hr (da_cons (dv 0) da_nil)))
    (dss_one (ds_ret (de_if (dt_cmp op_notN od_isnt (nomark _) (de_fld (dv 1)) de_non) de_int (de_op op_shl od_I de_int (de_op op_sub od_sub (de_callB call_len_nd cd_lenN boot_len T.b_len (da_cons (de_fld (dv 1)) da_nil)) (de_callB call_lenG cd_len boot_len T.b_len (da_cons (de_fld (dv 1)) da_nil)))))))), fun ds M Φ h => ?_⟩)
  · obtain ⟨d, t, F, A, L, rfl, _⟩ := h
    rfl
  · obtain ⟨d, t, F, A, L, rfl, ho, g, gl, h⟩ := h
    walk_at "nv"
    walk_at "s"
    refine ⟨d, t, F, A, L, rfl, ho, g, gl, fun a pf M' fs c le S wf hrun => ?_⟩
    walk_at "s"
    refine i_o (objV_at S.o) T.sc_Sums T.sl_Sums_own_clash rfl (fun h => by cases c <;> cases h) ?_
    have hk := runs_len g gl hrun wf
    have hcl : (cellsN A).length ≤ 384 := by
      have := cellsN_len (A := A) (fun q h => g.lenL h)
      have := g.a6
      omega
    cases c with
    | none =>
      walk_at "s"
      refine i_o (objV_at S.o) T.sc_Sums T.sl_Sums_own_places rfl (fun h => nomatch h) ?_
      walk_at "s"
      refine ⟨_, _, rfl, ?_⟩
      walk_at "s"
      refine i_o (objV_at S.o) T.sc_Sums T.sl_Sums_own_firsts rfl (fun h => nomatch h) ?_
      walk_at "s"
      refine len_dic (dicV_at S.hf) ?_
      walk_at "s"
      refine i_pow (n := (cellsN A).length - fs.length) (by simp; omega) (by omega) (by decide) ?_
      rw [show (1 : Int) * 2 ^ (((cellsN A).length - fs.length : Nat) : Int).toNat = ((2 ^ ((cellsN A).length - fs.length) : Nat) : Int) by simp]
      have h' := h fs none wf hrun hk
      rw [if_pos rfl] at h'
      exact ⟨_, M, Fz.le le, h'⟩
    | some c0 =>
      have h' := h fs _ wf hrun hk
      rw [if_neg (fun z => nomatch z)] at h'
      iterate 5 walk_at "d1"
      exact ⟨_, M, Fz.le le, h'⟩
end
end K51
set_option maxRecDepth 100000
set_option maxHeartbeats 2000000
/-! plain: rows of 0 and 1 put in order -/
namespace K51
open PySem PySem.Spec PyProof.Rows L2 SlX DL
def rowsS : Nat → List (List Int)
  | 0 => [[]]
  | n + 1 => (rowsS n).map (· ++ [0]) ++ (rowsS n).map (· ++ [1])
theorem rowsS_iff : ∀ {n : Nat} {r : List Int}, r ∈ rowsS n ↔ r.length = n ∧ Bits r
  | 0, r => by
    constructor
    · intro h
      rw [List.mem_singleton.mp h]
      exact ⟨rfl, fun i h => by simp at h⟩
    · rintro ⟨h, _⟩
      rw [List.length_eq_zero_iff.mp h]
      exact List.mem_singleton.mpr rfl
  | n + 1, r => by
    unfold rowsS
    rw [List.mem_append, List.mem_map, List.mem_map]
    constructor
    · rintro (⟨q, hq, rfl⟩ | ⟨q, hq, rfl⟩)
      · obtain ⟨h1, h2⟩ := rowsS_iff.mp hq
        exact ⟨by simp [h1], fun i hi => (List.mem_append.mp hi).elim (h2 i) fun e => .inl (List.mem_singleton.mp e)⟩
      · obtain ⟨h1, h2⟩ := rowsS_iff.mp hq
        exact ⟨by simp [h1], fun i hi => (List.mem_append.mp hi).elim (h2 i) fun e => .inr (List.mem_singleton.mp e)⟩
    · rintro ⟨h1, h2⟩
      have hne : r ≠ [] := fun z => by rw [z] at h1; cases h1
      have e := List.dropLast_concat_getLast hne
      have hq : r.dropLast ∈ rowsS n := rowsS_iff.mpr ⟨by rw [List.length_dropLast]; omega, fun j hj => h2 j (List.dropLast_subset _ hj)⟩
      rcases h2 (r.getLast hne) (List.getLast_mem hne) with z | z
      · exact .inl ⟨_, hq, by rw [← z]; exact e⟩
      · exact .inr ⟨_, hq, by rw [← z]; exact e⟩
theorem rowsS_nodup : ∀ n, (rowsS n).Nodup
  | 0 => by simp [rowsS]
  | n + 1 => by
    have ih := rowsS_nodup n
    unfold rowsS
    refine List.nodup_append.mpr ⟨List.Pairwise.map _ (fun a b hn e => hn (List.append_inj e (by have := congrArg List.length e; simp at this; exact this)).1) ih, List.Pairwise.map _ (fun a b hn e => hn (List.append_inj e (by have := congrArg List.length e; simp at this; exact this)).1) ih, fun x hx y hy e => ?_⟩
    subst e
    obtain ⟨r, hr, rfl⟩ := List.mem_map.mp hx
    obtain ⟨r', hr', e⟩ := List.mem_map.mp hy
    have := (List.append_inj e (by have := congrArg List.length e; simp at this; exact this)).2
    exact absurd (List.cons.inj this).1 (by decide)
theorem rowsS_perm (n : Nat) : (rowsS n).Perm (rowsN n) := (List.perm_ext_iff_of_nodup (rowsS_nodup n) (rowsN_nodup n)).mpr fun r => rowsS_iff.trans rowsN_iff.symm
theorem rowsS_len (n : Nat) : (rowsS n).length = 2 ^ n := by rw [(rowsS_perm n).length_eq, rowsN_len]
theorem bits_bd {r : List Int} (h : Bits r) : TS.Bd 2 r := fun m hm => by rcases h m hm with e | e <;> omega
theorem rowsN_sorted : ∀ n, (rowsN n).Pairwise fun x y => TS.code 2 x < TS.code 2 y
  | 0 => List.pairwise_singleton _ _
  | n + 1 => by
    have ih := rowsN_sorted n
    have bd : ∀ r ∈ rowsN n, 0 ≤ TS.code 2 r ∧ TS.code 2 r < 2 ^ n := fun r hr => by
      obtain ⟨h1, h2⟩ := rowsN_iff.mp hr
      have := TS.code_bd r (bits_bd h2)
      rw [h1] at this
      exact this
    unfold rowsN
    refine List.pairwise_append.mpr ⟨List.pairwise_map.mpr (ih.imp_of_mem fun {a b} ha hb h => ?_), List.pairwise_map.mpr (ih.imp_of_mem fun {a b} ha hb h => ?_), fun x hx y hy => ?_⟩
    · unfold TS.code; omega
    · unfold TS.code
      rw [(rowsN_iff.mp ha).1, (rowsN_iff.mp hb).1]; omega
    · obtain ⟨a, ha, rfl⟩ := List.mem_map.mp hx
      obtain ⟨b, hb, rfl⟩ := List.mem_map.mp hy
      have h1 := bd a ha
      have h2 := bd b hb
      unfold TS.code
      rw [(rowsN_iff.mp hb).1]
      omega
theorem rows_sort {n : Nat} {rs : List (List Int)} (h : rs.Perm (rowsS n)) (hs : rs.Pairwise fun x y => TS.code 2 x ≤ TS.code 2 y) : rs = rowsN n := by
  have hp := h.trans (rowsS_perm n)
  refine List.Perm.eq_of_pairwise (le := fun x y => TS.code 2 x ≤ TS.code 2 y) (fun a b ha hb h1 h2 => ?_) hs ((rowsN_sorted n).imp fun h => Int.le_of_lt h) hp
  have ha' := hp.subset ha
  obtain ⟨i, hi, rfl⟩ := List.mem_iff_getElem.mp ha'
  obtain ⟨j, hj, rfl⟩ := List.mem_iff_getElem.mp hb
  have st := List.pairwise_iff_getElem.mp (rowsN_sorted n)
  rcases Nat.lt_trichotomy i j with e | e | e
  · have := st i j hi hj e; omega
  · subst e; rfl
  · have := st j i hj hi e; omega
/-- what is seen, by the looks -/
theorem seen_map : ∀ {F L : List Str} {s : List Int}, F.Nodup → s.length = F.length → seenN F L s = (F.filter fun f => decide (f ∈ L)).map (valN F s)
  | [], L, s, _, h => by simp [seenN]
  | f :: F, L, [], _, h => by simp at h
  | f :: F, L, i :: s, nd, h => by
    obtain ⟨n1, n2⟩ := List.nodup_cons.mp nd
    have ih := seen_map (F := F) (L := L) (s := s) n2 (by simpa using h)
    have e : ∀ g ∈ F.filter (fun g => decide (g ∈ L)), valN (f :: F) (i :: s) g = valN F s g := fun g hg => by
      have hn : (g == f) = false := beq_eq_false_iff_ne.mpr fun z => n1 (z ▸ (List.mem_filter.mp hg).1)
      unfold valN
      rw [List.zip_cons_cons, List.lookup_cons, hn]
    have e0 : valN (f :: F) (i :: s) f = i := by
      unfold valN
      rw [List.zip_cons_cons, List.lookup_cons, beq_self_eq_true]
      rfl
    unfold seenN at ih ⊢
    rw [List.zip_cons_cons, List.filter_cons, List.filter_cons]
    by_cases q : f ∈ L
    · rw [if_pos (decide_eq_true q), if_pos (decide_eq_true q), List.map_cons, List.map_cons, ih, e0, List.map_congr_left e]
    · rw [if_neg (by simpa using q), if_neg (by simpa using q), ih, List.map_congr_left e]
theorem val_out {F : List Str} {s : List Int} {n : Str} (h : n ∉ F) : valN F s n = 0 := by
  unfold valN
  have : (F.zip s).lookup n = none := by
    rw [List.lookup_eq_none_iff]
    intro p hp
    have := (List.of_mem_zip (a := p.1) (b := p.2) hp).1
    exact bne_iff_ne.mpr fun z : n = p.1 => h (by rw [z]; exact this)
  rw [this]
  rfl
theorem sum_out {F : List Str} {s : List Int} : ∀ ns : List Str, (ns.map (valN F s)).sum = ((ns.filter fun n => decide (n ∈ F)).map (valN F s)).sum
  | [] => rfl
  | n :: ns => by
    have ih := sum_out (F := F) (s := s) ns
    rw [List.map_cons, List.sum_cons, List.filter_cons, ih]
    by_cases q : n ∈ F
    · rw [if_pos (decide_eq_true q), List.map_cons, List.sum_cons]
    · rw [if_neg (by simpa using q), val_out q, Int.zero_add]
end K51
/-! plain: how many assignments meet lines that are cleared by one another -/
namespace PL
abbrev Asg := Nat → Bool
def setA (x : Asg) (v : Nat) (b : Bool) : Asg := fun i => if i = v then b else x i
def cnt : List Nat → (Asg → Bool) → Nat
  | [], p => if p (fun _ => false) = true then 1 else 0
  | v :: vs, p => cnt vs (fun x => p (setA x v false)) + cnt vs (fun x => p (setA x v true))
theorem cnt_congr {vs : List Nat} {p q : Asg → Bool} (h : ∀ x, p x = q x) : cnt vs p = cnt vs q := by rw [funext h]
theorem cnt_split : ∀ {vs : List Nat} {a r : Asg → Bool}, cnt vs (fun x => a x && r x) + cnt vs (fun x => !a x && r x) = cnt vs r
  | [], a, r => by
    have h : ∀ s t : Bool, ((if (s && t) = true then 1 else 0) + (if (!s && t) = true then 1 else 0) : Nat) = if t = true then 1 else 0 := by decide
    exact h _ _
  | v :: vs, a, r => by
    have h1 := cnt_split (vs := vs) (a := fun x => a (setA x v false)) (r := fun x => r (setA x v false))
    have h2 := cnt_split (vs := vs) (a := fun x => a (setA x v true)) (r := fun x => r (setA x v true))
    simp only [cnt] at *
    omega
theorem setA_comm {x : Asg} {a b : Nat} {s t : Bool} (h : a ≠ b) : setA (setA x a s) b t = setA (setA x b t) a s := by
  funext i
  unfold setA
  by_cases e : i = a
  · subst e; simp [h]
  · simp [e]
theorem cnt_perm {vs ws : List Nat} (h : vs.Perm ws) : ∀ p, cnt vs p = cnt ws p := by
  induction h with
  | nil => intro p; rfl
  | cons v _ ih => intro p; simp only [cnt]; rw [ih, ih]
  | swap a b l =>
    intro p
    by_cases e : a = b
    · subst e; rfl
    · simp only [cnt]
      have c : ∀ s t : Bool, (fun x => p (setA (setA x a s) b t)) = fun x => p (setA (setA x b t) a s) := fun s t => funext fun x => by rw [setA_comm e]
      rw [c, c, c, c]
      omega
  | trans _ _ h1 h2 => intro p; rw [h1, h2]
/-- a line's rest: not 0 where the line is not met; it turns with v, it does not hang on v -/
def Turns (f : Asg → Bool) (v : Nat) : Prop := ∀ x, f (setA x v true) = !f (setA x v false)
def Free (f : Asg → Bool) (v : Nat) : Prop := ∀ x b, f (setA x v b) = f x
theorem cnt_const {vs : List Nat} : cnt vs (fun _ => true) = 2 ^ vs.length := by
  induction vs with
  | nil => rfl
  | cons v vs ih => simp only [cnt]; rw [ih, List.length_cons, Nat.pow_succ]; omega
theorem cnt_false {vs : List Nat} : cnt vs (fun _ => false) = 0 := by
  induction vs with
  | nil => rfl
  | cons v vs ih => simp only [cnt]; rw [ih]
def holds (es : List (Nat × (Asg → Bool))) (x : Asg) : Bool := es.all fun e => !e.2 x
theorem holds_perm {es fs : List (Nat × (Asg → Bool))} (h : es.Perm fs) (x : Asg) : holds es x = holds fs x := by
  unfold holds
  induction h with
  | nil => rfl
  | cons a _ ih => simp only [List.all_cons]; rw [ih]
  | swap a b l => simp only [List.all_cons, ← Bool.and_assoc]; rw [Bool.and_comm (!b.2 x)]
  | trans _ _ h1 h2 => exact h1.trans h2
/-- in the sequence vs each line turns with its own place and does not hang on the places ahead of it -/
structure Tri (vs : List Nat) (es : List (Nat × (Asg → Bool))) : Prop where
  nd : (es.map (·.1)).Nodup
  mem : ∀ e ∈ es, e.1 ∈ vs
  turn : ∀ e ∈ es, Turns e.2 e.1
  free : ∀ e ∈ es, ∀ v, v ∈ vs.takeWhile (fun w => decide (w ≠ e.1)) → Free e.2 v
theorem holds_free {es : List (Nat × (Asg → Bool))} {v : Nat} {b : Bool} {x : Asg} (h : ∀ e ∈ es, Free e.2 v) : holds es (setA x v b) = holds es x := by
  unfold holds
  induction es with
  | nil => rfl
  | cons e es ih =>
    simp only [List.all_cons]
    rw [h e List.mem_cons_self, ih fun f hf => h f (List.mem_cons_of_mem _ hf)]
theorem Tri.tail {v : Nat} {vs : List Nat} {es : List (Nat × (Asg → Bool))} (t : Tri (v :: vs) es) (h : ∀ e ∈ es, e.1 ≠ v) : Tri vs es ∧ ∀ e ∈ es, Free e.2 v := by
  refine ⟨⟨t.nd, fun e he => (List.mem_cons.mp (t.mem e he)).resolve_left (h e he), t.turn, fun e he w hw => t.free e he w ?_⟩, fun e he => t.free e he v ?_⟩
  · rw [List.takeWhile_cons, if_pos (by simpa using fun z => h e he z.symm)]
    exact List.mem_cons_of_mem _ hw
  · rw [List.takeWhile_cons, if_pos (by simpa using fun z => h e he z.symm)]
    exact List.mem_cons_self
theorem cnt_tri : ∀ {vs : List Nat} {es : List (Nat × (Asg → Bool))}, vs.Nodup → Tri vs es → es.length ≤ vs.length ∧ cnt vs (holds es) = 2 ^ (vs.length - es.length)
  | [], es, _, t => by
    cases es with
    | nil => exact ⟨Nat.le_refl _, rfl⟩
    | cons e es => exact absurd (t.mem e List.mem_cons_self) (by simp)
  | v :: vs, es, nd, t => by
    obtain ⟨n1, n2⟩ := List.nodup_cons.mp nd
    by_cases hv : ∃ e ∈ es, e.1 = v
    · obtain ⟨e, he, ev⟩ := hv
      obtain ⟨l1, l2, hl⟩ := List.append_of_mem he
      have hp : es.Perm (e :: (l1 ++ l2)) := by rw [hl]; exact List.perm_middle
      have nd2 : ((e :: (l1 ++ l2)).map (·.1)).Nodup := (hp.map _).nodup_iff.mp t.nd
      have hin : ∀ f ∈ l1 ++ l2, f ∈ es := fun f hf => hp.symm.subset (List.mem_cons_of_mem _ hf)
      rw [List.map_cons] at nd2
      obtain ⟨m1, m2⟩ := List.nodup_cons.mp nd2
      have t2 : Tri (v :: vs) (l1 ++ l2) := ⟨m2, fun f hf => t.mem f (hin f hf), fun f hf => t.turn f (hin f hf), fun f hf => t.free f (hin f hf)⟩
      obtain ⟨t3, fr⟩ := t2.tail fun f hf z => m1 (by rw [ev, ← z]; exact List.mem_map_of_mem hf)
      obtain ⟨h1, h2⟩ := cnt_tri n2 t3
      have hlen : es.length = (l1 ++ l2).length + 1 := by rw [hp.length_eq]; rfl
      refine ⟨by rw [hlen, List.length_cons]; omega, ?_⟩
      have key : cnt (v :: vs) (holds es) = cnt vs (holds (l1 ++ l2)) := by
        simp only [cnt]
        have tu := t.turn e he
        rw [ev] at tu
        have c : ∀ b x, holds es (setA x v b) = (!e.2 (setA x v b) && holds (l1 ++ l2) x) := fun b x => by
          rw [holds_perm hp]
          show (!e.2 (setA x v b) && holds (l1 ++ l2) (setA x v b)) = _
          rw [holds_free fr]
        have c2 : ∀ x, holds es (setA x v true) = (!(!e.2 (setA x v false)) && holds (l1 ++ l2) x) := fun x => by rw [c, tu]
        rw [cnt_congr (c false), cnt_congr c2]
        exact cnt_split (a := fun x => !e.2 (setA x v false))
      rw [key, h2, hlen, List.length_cons]
      congr 1
      omega
    · have hv' : ∀ e ∈ es, e.1 ≠ v := fun e he z => hv ⟨e, he, z⟩
      obtain ⟨t3, fr⟩ := t.tail hv'
      obtain ⟨h1, h2⟩ := cnt_tri n2 t3
      refine ⟨by rw [List.length_cons]; omega, ?_⟩
      simp only [cnt]
      rw [cnt_congr (fun x => holds_free fr), cnt_congr (fun x => holds_free fr), h2, List.length_cons, show vs.length + 1 - es.length = (vs.length - es.length) + 1 by omega, Nat.pow_succ]
      omega
/-! ### sums by two -/
def par : Nat → (Nat → Bool) → Asg → Bool
  | 0, _, _ => false
  | n + 1, S, x => (S n && x n) ^^ par n S x
theorem par_xor {n : Nat} {S T : Nat → Bool} {x : Asg} : par n (fun i => S i ^^ T i) x = (par n S x ^^ par n T x) := by
  induction n with
  | zero => rfl
  | succ n ih =>
    simp only [par]
    rw [ih]
    cases S n <;> cases T n <;> cases x n <;> cases par n S x <;> cases par n T x <;> rfl
theorem par_congr {n : Nat} {S T : Nat → Bool} {x : Asg} (h : ∀ i, i < n → S i = T i) : par n S x = par n T x := by
  induction n with
  | zero => rfl
  | succ n ih =>
    simp only [par]
    rw [ih fun i hi => h i (by omega), h n (by omega)]
theorem par_none {n : Nat} {x : Asg} {S : Nat → Bool} (h : ∀ i, i < n → S i = false) : par n S x = false := by
  induction n with
  | zero => rfl
  | succ n ih =>
    simp only [par]
    rw [ih fun i hi => h i (by omega), h n (by omega)]
    rfl
theorem par_free {n v : Nat} {S : Nat → Bool} (h : S v = false) {x : Asg} {b : Bool} : par n S (setA x v b) = par n S x := by
  induction n with
  | zero => rfl
  | succ n ih =>
    simp only [par]
    rw [ih]
    by_cases e : n = v
    · subst e; rw [h]; rfl
    · unfold setA; rw [if_neg e]
theorem par_turn {n v : Nat} {S : Nat → Bool} (hn : v < n) (h : S v = true) {x : Asg} : par n S (setA x v true) = !par n S (setA x v false) := by
  induction n with
  | zero => omega
  | succ n ih =>
    simp only [par]
    by_cases e : n = v
    · subst e
      have : ∀ m, m ≤ n → par m S (setA x n true) = par m S (setA x n false) := fun m => by
        induction m with
        | zero => intro _; rfl
        | succ m ihm =>
          intro hm
          simp only [par]
          rw [ihm (by omega)]
          have e : m ≠ n := by omega
          unfold setA
          rw [if_neg e, if_neg e]
      rw [this n (Nat.le_refl _), h]
      unfold setA
      rw [if_pos rfl, if_pos rfl]
      cases par n S fun i => if i = n then false else x i <;> rfl
    · rw [ih (by omega)]
      unfold setA
      rw [if_neg e, if_neg e]
      cases S n && x n <;> cases par n S fun i => if i = v then false else x i <;> rfl
/-- a line: the places that stand in it, what they add up to -/
abbrev Line := (Nat → Bool) × Bool
def rest (n : Nat) (l : Line) : Asg → Bool := fun x => par n l.1 x ^^ l.2
def meets (n : Nat) (ls : List Line) (x : Asg) : Bool := ls.all fun l => !rest n l x
def Line.xor (a b : Line) : Line := (fun i => a.1 i ^^ b.1 i, a.2 ^^ b.2)
theorem rest_xor {n : Nat} {a b : Line} {x : Asg} : rest n (a.xor b) x = (rest n a x ^^ rest n b x) := by
  unfold rest Line.xor
  simp only
  rw [par_xor]
  cases par n a.1 x <;> cases par n b.1 x <;> cases a.2 <;> cases b.2 <;> rfl
theorem rest_turn {n v : Nat} {l : Line} (hn : v < n) (h : l.1 v = true) : Turns (rest n l) v := fun x => by
  unfold rest
  rw [par_turn hn h]
  cases par n l.1 (setA x v false) <;> cases l.2 <;> rfl
theorem rest_free {n v : Nat} {l : Line} (h : l.1 v = false) : Free (rest n l) v := fun x b => by
  unfold rest
  rw [par_free h]
/-- each line by its own place: as it is highest, as it is lowest -/
def tag (n : Nat) (es : List (Nat × Line)) : List (Nat × (Asg → Bool)) := es.map fun e => (e.1, rest n e.2)
theorem tag_holds {n : Nat} {es : List (Nat × Line)} {x : Asg} : holds (tag n es) x = meets n (es.map (·.2)) x := by
  unfold holds tag meets
  rw [List.all_map, List.all_map]
  rfl
theorem takeWhile_le : ∀ {vs : List Nat} {p : Nat} {w : Nat}, vs.Pairwise (· < ·) → w ∈ vs.takeWhile (fun w => decide (w ≠ p)) → p ∈ vs → w < p
  | [], _, _, _, h, _ => by simp at h
  | v :: vs, p, w, hp, h, hm => by
    obtain ⟨h1, h2⟩ := List.pairwise_cons.mp hp
    rw [List.takeWhile_cons] at h
    by_cases e : v = p
    · subst e; simp at h
    · rw [if_pos (by simpa using e)] at h
      have hm' := (List.mem_cons.mp hm).resolve_left (fun z => e z.symm)
      rcases List.mem_cons.mp h with h | h
      · rw [h]; exact h1 p hm'
      · exact takeWhile_le h2 h hm'
theorem takeWhile_ge : ∀ {vs : List Nat} {p : Nat} {w : Nat}, vs.Pairwise (· > ·) → w ∈ vs.takeWhile (fun w => decide (w ≠ p)) → p ∈ vs → p < w
  | [], _, _, _, h, _ => by simp at h
  | v :: vs, p, w, hp, h, hm => by
    obtain ⟨h1, h2⟩ := List.pairwise_cons.mp hp
    rw [List.takeWhile_cons] at h
    by_cases e : v = p
    · subst e; simp at h
    · rw [if_pos (by simpa using e)] at h
      have hm' := (List.mem_cons.mp hm).resolve_left (fun z => e z.symm)
      rcases List.mem_cons.mp h with h | h
      · rw [h]; exact h1 p hm'
      · exact takeWhile_ge h2 h hm'
theorem cnt_low {n : Nat} {es : List (Nat × Line)} (nd : (es.map (·.1)).Nodup) (h : ∀ e ∈ es, e.1 < n ∧ e.2.1 e.1 = true ∧ ∀ i, i < e.1 → e.2.1 i = false) : es.length ≤ n ∧ cnt (List.range n) (meets n (es.map (·.2))) = 2 ^ (n - es.length) := by
  have t : Tri (List.range n) (tag n es) := by
    refine ⟨by simpa [tag, Function.comp_def] using nd, fun e he => ?_, fun e he => ?_, fun e he v hv => ?_⟩
    all_goals obtain ⟨d, hd, rfl⟩ := List.mem_map.mp he
    · exact List.mem_range.mpr (h d hd).1
    · exact rest_turn (h d hd).1 (h d hd).2.1
    · exact rest_free ((h d hd).2.2 v (takeWhile_le List.pairwise_lt_range hv (List.mem_range.mpr (h d hd).1)))
  have := cnt_tri List.nodup_range t
  rw [cnt_congr (fun x => tag_holds)] at this
  simpa [tag] using this
theorem cnt_high {n : Nat} {es : List (Nat × Line)} (nd : (es.map (·.1)).Nodup) (h : ∀ e ∈ es, e.1 < n ∧ e.2.1 e.1 = true ∧ ∀ i, e.1 < i → e.2.1 i = false) : es.length ≤ n ∧ cnt (List.range n) (meets n (es.map (·.2))) = 2 ^ (n - es.length) := by
  have hr : (List.range n).reverse.Pairwise (· > ·) := List.pairwise_reverse.mpr List.pairwise_lt_range
  have t : Tri (List.range n).reverse (tag n es) := by
    refine ⟨by simpa [tag, Function.comp_def] using nd, fun e he => ?_, fun e he => ?_, fun e he v hv => ?_⟩
    all_goals obtain ⟨d, hd, rfl⟩ := List.mem_map.mp he
    · exact List.mem_reverse.mpr (List.mem_range.mpr (h d hd).1)
    · exact rest_turn (h d hd).1 (h d hd).2.1
    · exact rest_free ((h d hd).2.2 v (takeWhile_ge hr hv (List.mem_reverse.mpr (List.mem_range.mpr (h d hd).1))))
  have := cnt_tri ((List.reverse_perm _).nodup_iff.mpr List.nodup_range) t
  rw [cnt_congr (fun x => tag_holds), cnt_perm (List.reverse_perm _)] at this
  simpa [tag] using this
end PL
set_option maxRecDepth 100000
set_option maxHeartbeats 2000000
/-! plain: the numbers of plans of parities -/
namespace K51
open PySem PySem.Spec PyProof.Rows SlX DL PL
/-! ### lists of places, put in order -/
abbrev sortN (l : List Nat) : List Nat := l.mergeSort (· ≤ ·)
theorem sortN_perm (l : List Nat) : (sortN l).Perm l := List.mergeSort_perm l _
theorem sortN_le (l : List Nat) : (sortN l).Pairwise (· ≤ ·) := by
  have := List.pairwise_mergeSort (le := fun a b : Nat => decide (a ≤ b)) (fun a b c h1 h2 => by simp at *; omega) (fun a b => by simp; omega) l
  exact this.imp fun h => by simpa using h
theorem sortN_uniq {l ns : List Nat} (h : ns.Perm l) (hs : ns.Pairwise (· ≤ ·)) : ns = sortN l :=
  List.Perm.eq_of_pairwise (le := fun a b : Nat => a ≤ b) (fun a b _ _ h1 h2 => Nat.le_antisymm h1 h2) hs (sortN_le l) (h.trans (sortN_perm l).symm)
theorem sortN_lt {l : List Nat} (h : l.Nodup) : (sortN l).Pairwise (· < ·) := by
  have h1 := sortN_le l
  have h2 : (sortN l).Nodup := (sortN_perm l).nodup_iff.mpr h
  exact h1.imp₂ (fun a b h h' => by omega) h2
theorem mem_sortN {l : List Nat} {i : Nat} : i ∈ sortN l ↔ i ∈ l := (sortN_perm l).mem_iff
def addN (a b : List Nat) : List Nat := sortN (a.filter (fun i => !decide (i ∈ b)) ++ b.filter (fun i => !decide (i ∈ a)))
theorem addN_nodup {a b : List Nat} (ha : a.Nodup) (hb : b.Nodup) : (a.filter (fun i => !decide (i ∈ b)) ++ b.filter (fun i => !decide (i ∈ a))).Nodup := by
  refine List.nodup_append.mpr ⟨ha.filter _, hb.filter _, fun x hx y hy e => ?_⟩
  subst e
  have h1 := (List.mem_filter.mp hx).1
  have h2 := (List.mem_filter.mp hy).2
  simp [h1] at h2
theorem mem_addN {a b : List Nat} {i : Nat} : decide (i ∈ addN a b) = (decide (i ∈ a) ^^ decide (i ∈ b)) := by
  unfold addN
  rw [Bool.eq_iff_iff]
  simp only [decide_eq_true_eq, mem_sortN, List.mem_append, List.mem_filter]
  by_cases h1 : i ∈ a <;> by_cases h2 : i ∈ b <;> simp [h1, h2]
/-! ### lines -/
def lnL (s : List Nat) (r : Int) : PL.Line := (fun i => decide (i ∈ s), decide (r = 1))
theorem rest_add {n : Nat} {a b : List Nat} {r s : Int} {x : Asg} (hr : r = 0 ∨ r = 1) (hs : s = 0 ∨ s = 1) : rest n (lnL (addN a b) ((r + s) % 2)) x = (rest n (lnL a r) x ^^ rest n (lnL b s) x) := by
  rw [← rest_xor]
  unfold lnL Line.xor rest
  simp only [mem_addN]
  congr 1
  rcases hr with rfl | rfl <;> rcases hs with rfl | rfl <;> rfl
/-- firsts by their lowest places -/
abbrev El2 := List (Nat × (List Nat × Int))
structure Low (n : Nat) (fs : El2) : Prop where
  nd : (fs.map (·.1)).Nodup
  hd : ∀ e ∈ fs, ∃ t, e.2.1 = e.1 :: t
  st : ∀ e ∈ fs, e.2.1.Pairwise (· < ·)
  lt : ∀ e ∈ fs, ∀ i ∈ e.2.1, i < n
  bit : ∀ e ∈ fs, e.2.2 = 0 ∨ e.2.2 = 1
def fln (fs : El2) : List PL.Line := fs.map fun e => lnL e.2.1 e.2.2
theorem Low.cnt {n : Nat} {fs : El2} (w : Low n fs) : fs.length ≤ n ∧ cnt (List.range n) (meets n (fln fs)) = 2 ^ (n - fs.length) := by
  have h := cnt_low (n := n) (es := fs.map fun e => (e.1, lnL e.2.1 e.2.2)) (by rw [List.map_map]; exact w.nd) fun e he => by
    obtain ⟨f, hf, rfl⟩ := List.mem_map.mp he
    obtain ⟨t, ht⟩ := w.hd f hf
    have hs := w.st f hf
    rw [ht] at hs
    have hs1 := (List.pairwise_cons.mp hs).1
    have hl := w.lt f hf f.1 (by rw [ht]; exact List.mem_cons_self)
    refine ⟨hl, ?_, fun i hi => ?_⟩
    · show decide (f.1 ∈ f.2.1) = true
      rw [ht]; exact decide_eq_true List.mem_cons_self
    · show decide (i ∈ f.2.1) = false
      rw [ht]
      refine decide_eq_false fun z => ?_
      rcases List.mem_cons.mp z with z | z
      · omega
      · have := hs1 i z; omega
  rw [List.map_map, List.length_map] at h
  exact h
theorem meets_append {n : Nat} {as bs : List PL.Line} {x : Asg} : meets n (as ++ bs) x = (meets n as x && meets n bs x) := List.all_append
theorem meets_mem {n : Nat} {ls : List PL.Line} {l : PL.Line} {x : Asg} (h : meets n ls x = true) (hl : l ∈ ls) : rest n l x = false := by
  have := List.all_eq_true.mp h l hl
  simpa using this
/-- a turn of the inner loop -/
structure Turn (n : Nat) (fs : El2) (s0 : List Nat) (r0 : Int) (s : List Nat) (r : Int) : Prop where
  st : s.Pairwise (· < ·)
  lt : ∀ i ∈ s, i < n
  bit : r = 0 ∨ r = 1
  eq : ∀ x, meets n (fln fs) x = true → rest n (lnL s r) x = rest n (lnL s0 r0) x
theorem bit_add {r s : Int} (hr : r = 0 ∨ r = 1) (hs : s = 0 ∨ s = 1) : (r + s) % 2 = 0 ∨ (r + s) % 2 = 1 := by omega
theorem lt_nodup {s : List Nat} (h : s.Pairwise (· < ·)) : s.Nodup := h.imp fun h => Nat.ne_of_lt h
theorem Turn.step {n : Nat} {fs : El2} {s0 : List Nat} {r0 : Int} {p : Nat} {t : List Nat} {r : Int} {its : List Nat} {r1 : Int} (h : Turn n fs s0 r0 (p :: t) r) (w : Low n fs) (hm : (p, (its, r1)) ∈ fs) :
    Turn n fs s0 r0 (addN (p :: t) its) ((r + r1) % 2) ∧ ∀ q u, addN (p :: t) its = q :: u → p < q := by
  obtain ⟨t2, ht2⟩ := w.hd _ hm
  have ht2 : its = p :: t2 := ht2
  have hs2 := w.st _ hm
  have hb := w.bit _ hm
  refine ⟨⟨sortN_lt (addN_nodup (lt_nodup h.st) (lt_nodup hs2)), fun i hi => ?_, bit_add h.bit hb, fun x hx => ?_⟩, fun q u e => ?_⟩
  · have hi := mem_sortN.mp hi
    rcases List.mem_append.mp hi with z | z
    · exact h.lt i (List.mem_filter.mp z).1
    · exact w.lt _ hm i (List.mem_filter.mp z).1
  · rw [rest_add h.bit hb, h.eq x hx]
    have : rest n (lnL its r1) x = false := meets_mem hx (List.mem_map.mpr ⟨_, hm, rfl⟩)
    rw [this, Bool.xor_false]
  · have hq : q ∈ addN (p :: t) its := by rw [e]; exact List.mem_cons_self
    have hq := mem_sortN.mp hq
    have h1 := (List.pairwise_cons.mp h.st).1
    have hs2 : its.Pairwise (· < ·) := hs2
    rw [ht2] at hs2 hq
    have h2 := (List.pairwise_cons.mp hs2).1
    rcases List.mem_append.mp hq with z | z
    · obtain ⟨z1, z2⟩ := List.mem_filter.mp z
      rcases List.mem_cons.mp z1 with z1 | z1
      · subst z1; simp at z2
      · exact h1 q z1
    · obtain ⟨z1, z2⟩ := List.mem_filter.mp z
      rcases List.mem_cons.mp z1 with z1 | z1
      · subst z1; simp at z2
      · exact h2 q z1
theorem Low.put {n : Nat} {fs : El2} {p : Nat} {t : List Nat} {r : Int} (w : Low n fs) (hf : p ∉ fs.map (·.1)) (hs : (p :: t).Pairwise (· < ·)) (hl : ∀ i ∈ p :: t, i < n) (hb : r = 0 ∨ r = 1) : Low n (fs ++ [(p, (p :: t, r))]) := by
  refine ⟨?_, fun e he => ?_, fun e he => ?_, fun e he => ?_, fun e he => ?_⟩
  · rw [List.map_append]
    exact List.nodup_append.mpr ⟨w.nd, by simp, fun a ha b hb e => hf ((show b = p by simpa using hb) ▸ e ▸ ha)⟩
  all_goals rcases List.mem_append.mp he with h | h
  · exact w.hd e h
  · rw [List.mem_singleton.mp h]; exact ⟨t, rfl⟩
  · exact w.st e h
  · rw [List.mem_singleton.mp h]; exact hs
  · exact w.lt e h
  · rw [List.mem_singleton.mp h]; exact hl
  · exact w.bit e h
  · rw [List.mem_singleton.mp h]; exact hb
/-- a whole line: cleared, put, or a clash -/
theorem meets_snoc {n : Nat} {fs : El2} {s0 s : List Nat} {r0 r : Int} (h : Turn n fs s0 r0 s r) (x : Asg) : (meets n (fln fs) x && meets n [lnL s0 r0] x) = (meets n (fln fs) x && meets n [lnL s r] x) := by
  cases e : meets n (fln fs) x with
  | false => rfl
  | true =>
    have := h.eq x e
    simp only [meets, List.all_cons, List.all_nil, Bool.and_true, Bool.true_and]
    rw [this]
theorem rest_empty {n : Nat} {r : Int} {x : Asg} : rest n (lnL [] r) x = decide (r = 1) := by
  unfold rest lnL
  rw [par_none (fun i hi => by simp)]
  simp
/-! ### the lines of parities -/
def lnN (F : List Str) (A : An) (s : List Int) (q : Str × List Str) : List Nat := sortN ((lineCells F A s q.2).map (idxC A))
def rowLn (F : List Str) (A L : An) (p : List Int × Nat) : List Nat × Int := (lnN F A p.1 (lineAt L p.2), oddN F p.1 (lineAt L p.2))
def rowsLn (F : List Str) (A L : An) : List (List Nat × Int) := (rowsOf F L.length).map (rowLn F A L)
def linesN (F : List Str) (A L : An) : List PL.Line := (rowsLn F A L).map fun p => lnL p.1 p.2
def numN (F : List Str) (A L : An) : Nat := cnt (List.range (cellsN A).length) (meets (cellsN A).length (linesN F A L))
/-! ### the same lines as whole numbers -/
def lnR (r : Row) : PL.Line := (fun i => r.1.testBit i, decide (r.2.1 = 1))
theorem lnR_xor {a b : Row} (ha : a.2.1 < 2) (hb : b.2.1 < 2) : lnR (a.xor b) = (lnR a).xor (lnR b) := by
  unfold lnR Row.xor Line.xor
  simp only [Nat.testBit_xor]
  congr 1
  obtain ⟨_, a, _⟩ := a
  obtain ⟨_, b, _⟩ := b
  simp only at ha hb ⊢
  have key : ∀ a : Nat, a < 2 → ∀ b : Nat, b < 2 → decide (a ^^^ b = 1) = (decide (a = 1) ^^ decide (b = 1)) := by decide
  exact key a ha b hb
def flR (fs : El) : List PL.Line := fs.map fun e => lnR e.2
theorem Red.rest {fs : El} {x y : Row} {n : Nat} {a : Asg} (w : WfE fs) (h : Red fs x y) (hx : x.2.1 < 2) (hm : meets n (flR fs) a = true) : rest n (lnR x) a = rest n (lnR y) a := by
  induction h with
  | refl => rfl
  | @step x y z p b _ ih =>
    rw [← ih (xor_two hx (w.odd _ b)), lnR_xor hx (w.odd _ b), rest_xor]
    have : PL.rest n (lnR y) a = false := meets_mem hm (List.mem_map.mpr ⟨_, b, rfl⟩)
    rw [this, Bool.xor_false]
theorem log2_bit {a : Nat} (h : 0 < a) : a.testBit a.log2 = true := by
  rw [Nat.testBit_eq_decide_div_mod_eq]
  have h1 : a < 2 ^ (a.log2 + 1) := Nat.lt_log2_self
  have h3 : 2 ^ a.log2 ≤ a := Nat.log2_self_le (Nat.ne_of_gt h)
  have : a / 2 ^ a.log2 = 1 := by
    refine Nat.div_eq_of_lt_le (by omega) ?_
    rw [Nat.pow_succ] at h1
    omega
  rw [this]; rfl
theorem Runs.meets {rs : List Row} {fs : El} {c : Option Nat} {n : Nat} (h : Runs rs fs c) (ho : ∀ r ∈ rs, r.2.1 < 2) : WfE fs ∧ ∀ a, PL.meets n (rs.map lnR) a = (decide (c = none) && PL.meets n (flR fs) a) := by
  induction h with
  | nil => exact ⟨⟨fun p hp => by simp at hp, by simp, fun p hp => by simp at hp⟩, fun a => rfl⟩
  | @snoc rs fs c r x h1 h2 h3 ih =>
    obtain ⟨w, ih⟩ := ih fun r hr => ho r (List.mem_append_left _ hr)
    have hr := ho r (List.mem_append_right _ (List.mem_singleton.mpr rfl))
    have hx := h2.odd w hr
    refine ⟨w.next h3 hx, fun a => ?_⟩
    rw [List.map_append, meets_append, ih]
    unfold nextF nextC
    cases e : PL.meets n (flR fs) a with
    | false =>
      split
      · unfold flR; rw [List.map_append, meets_append]
        rw [show PL.meets n (List.map (fun e => lnR e.snd) fs) a = false from e]
        simp
      · rw [e]; simp
    | true =>
      have key : PL.meets n (List.map lnR [r]) a = !PL.rest n (lnR x) a := by
        rw [← Red.rest w h2 hr e]
        simp [PL.meets]
      rw [key]
      split
      · unfold flR
        rw [List.map_append, meets_append, show PL.meets n (List.map (fun e => lnR e.snd) fs) a = true from e]
        simp [PL.meets]
      · rename_i hz
        have hz : x.1 = 0 := by omega
        have : PL.rest n (lnR x) a = decide (x.2.1 = 1) := by
          unfold PL.rest lnR
          rw [par_none (fun i hi => by rw [hz]; simp)]
          simp
        rw [this, e]
        by_cases q : x.2.1 = 1
        · cases c with
          | none => simp [q]
          | some v => simp [q]
        · simp [q]
theorem runs_num {F : List Str} {A L : An} {fs : El} {c : Option Nat} (g : Good F A) (gl : GoodL F A L) (h : Runs (rowsPar F A L) fs c) : (if c = none then (2 ^ ((cellsN A).length - fs.length) : Nat) else (0 : Nat)) = numN F A L := by
  have ho : ∀ r ∈ rowsPar F A L, r.2.1 < 2 := fun r hr => by
    obtain ⟨p, hp, rfl⟩ := List.mem_map.mp hr
    exact odd_nat.2
  have hlt : ∀ r ∈ rowsPar F A L, r.1 < 2 ^ (cellsN A).length := fun r hr => by
    obtain ⟨p, hp, rfl⟩ := List.mem_map.mp hr
    have := List.fst_mem_of_mem_zipIdx hp
    exact mask_lt g (rowsOf_mem this).1
  obtain ⟨w, hm⟩ := h.meets (n := (cellsN A).length) ho
  have hl := h.lt hlt
  have e1 : (rowsPar F A L).map lnR = linesN F A L := by
    unfold rowsPar linesN rowsLn
    rw [List.map_map, List.map_map]
    have : ∀ (rs : List (List Int × Nat)) (k : Nat), (∀ r ∈ rs, r.1 ∈ rowsN F.length) → (rs.zipIdx k).map (lnR ∘ rowPar F A L) = rs.map ((fun p => lnL p.1 p.2) ∘ rowLn F A L) := by
      intro rs
      induction rs with
      | nil => intro k _; rfl
      | cons r rs ih =>
        intro k hr
        rw [List.zipIdx_cons, List.map_cons, List.map_cons, ih (k + 1) fun r h => hr r (List.mem_cons_of_mem _ h)]
        congr 1
        have hs := hr r List.mem_cons_self
        show lnR (rowPar F A L (r, k)) = lnL _ _
        unfold lnR rowPar lnL rowLn lnN
        simp only
        congr 1
        · funext i
          have := mask_bit (line_nodup (names := (lineAt L r.2).2) g hs) i
          rw [List.map_map] at this
          unfold maskN
          rw [show (List.map (fun c => 2 ^ idxC A c) (lineCells F A r.1 (lineAt L r.2).2)) = List.map ((fun x => 2 ^ x) ∘ idxC A) (lineCells F A r.1 (lineAt L r.2).2) from rfl, this]
          simp only [mem_sortN]
        · have := odd_nat (F := F) (s := r.1) (q := lineAt L r.2)
          rw [Bool.eq_iff_iff]
          simp only [decide_eq_true_eq]
          omega
    exact this _ 0 fun r hr => (rowsOf_mem hr).1
  rw [e1] at hm
  unfold numN
  rw [cnt_congr hm]
  cases c with
  | some v =>
    rw [if_neg (fun z => nomatch z)]
    exact cnt_false.symm
  | none =>
    rw [if_pos rfl]
    have hh := cnt_high (n := (cellsN A).length) (es := fs.map fun e => (e.1, lnR e.2)) (by rw [List.map_map]; exact w.nd) fun e he => by
      obtain ⟨f, hf, rfl⟩ := List.mem_map.mp he
      obtain ⟨t1, t2⟩ := w.top f hf
      have hlf := hl f hf
      show f.1 < _ ∧ f.2.1.testBit f.1 = true ∧ ∀ i, f.1 < i → f.2.1.testBit i = false
      rw [← t2]
      refine ⟨(Nat.log2_lt (Nat.ne_of_gt t1)).mpr hlf, log2_bit t1, fun i hi => ?_⟩
      refine Nat.testBit_lt_two_pow (Nat.lt_of_lt_of_le Nat.lt_log2_self (Nat.pow_le_pow_right (by decide) hi))
    rw [List.map_map, List.length_map] at hh
    rw [cnt_congr (q := PL.meets (cellsN A).length (flR fs)) (fun x => by simp)]
    exact hh.2.symm
end K51
namespace K51
open PySem PySem.Spec PyProof.Rows SlX DL PL
theorem rowsLn_ok {F : List Str} {A L : An} (g : Good F A) {p : List Nat × Int} (hp : p ∈ rowsLn F A L) : p.1.Pairwise (· < ·) ∧ (∀ i ∈ p.1, i < (cellsN A).length) ∧ (p.2 = 0 ∨ p.2 = 1) := by
  obtain ⟨r, hr, rfl⟩ := List.mem_map.mp hp
  have hs := (rowsOf_mem hr).1
  refine ⟨sortN_lt (line_nodup g hs), fun i hi => ?_, ?_⟩
  · have hi := mem_sortN.mp hi
    obtain ⟨c, hc, rfl⟩ := List.mem_map.mp hi
    exact List.idxOf_lt_length_of_mem (lineCells_mem g hs c hc)
  · show oddN F r.1 _ = 0 ∨ oddN F r.1 _ = 1
    unfold oddN
    omega
def lns (ps : List (List Nat × Int)) : List PL.Line := ps.map fun p => lnL p.1 p.2
theorem num_zero {F : List Str} {A L : An} {fs : El2} {i : Nat} {s0 : List Nat} {r0 : Int} (hr : (rowsLn F A L)[i]? = some (s0, r0)) (hm : ∀ x, meets (cellsN A).length (fln fs) x = meets (cellsN A).length (lns ((rowsLn F A L).take i)) x) (t : Turn (cellsN A).length fs s0 r0 [] 1) : numN F A L = 0 := by
  unfold numN
  rw [cnt_congr (q := fun _ => false) (fun x => ?_)]
  · exact cnt_false
  · cases e : meets (cellsN A).length (linesN F A L) x with
    | false => rfl
    | true =>
      have hi := (List.getElem?_eq_some_iff.mp hr).1
      have e1 : linesN F A L = lns ((rowsLn F A L).take i) ++ lns ((rowsLn F A L).drop i) := by
        unfold lns linesN
        rw [← List.map_append, List.take_append_drop]
      rw [e1, meets_append, Bool.and_eq_true] at e
      have h1 := (hm x).trans e.1
      have h2 := t.eq x h1
      rw [rest_empty] at h2
      have h3 : lnL s0 r0 ∈ lns ((rowsLn F A L).drop i) := List.mem_map.mpr ⟨(s0, r0), by
        rw [List.drop_eq_getElem_cons hi, (List.getElem?_eq_some_iff.mp hr).2]; exact List.mem_cons_self, rfl⟩
      have := meets_mem e.2 h3
      rw [this] at h2
      exact absurd h2 (by decide)
theorem num_end {F : List Str} {A L : An} {fs : El2} (w : Low (cellsN A).length fs) (hm : ∀ x, meets (cellsN A).length (fln fs) x = meets (cellsN A).length (lns (rowsLn F A L)) x) : numN F A L = 2 ^ ((cellsN A).length - fs.length) := by
  unfold numN
  rw [show linesN F A L = lns (rowsLn F A L) from rfl, ← cnt_congr hm]
  exact w.cnt.2
theorem lns_snoc {n : Nat} {ps : List (List Nat × Int)} {i : Nat} {s0 : List Nat} {r0 : Int} (hr : ps[i]? = some (s0, r0)) (x : Asg) : meets n (lns (ps.take (i + 1))) x = (meets n (lns (ps.take i)) x && meets n [lnL s0 r0] x) := by
  rw [take_snoc hr]
  unfold lns
  rw [List.map_append, meets_append]
  rfl
/-- a place of the firsts -/
theorem dget2 {g : List Nat × Int → Dat} : ∀ {fs : El2} {p : Nat}, (∃ y, (p, y) ∈ fs ∧ dget (fs.map fun p => (.inl (p.1 : Int) : L2.Key)) (fs.map fun p => g p.2) (.inl (p : Int)) = some (g y)) ∨ (p ∉ fs.map (·.1) ∧ dget (fs.map fun p => (.inl (p.1 : Int) : L2.Key)) (fs.map fun p => g p.2) (.inl (p : Int)) = none)
  | [], p => .inr ⟨by simp, rfl⟩
  | q :: fs, p => by
    rw [List.map_cons, List.map_cons, dget]
    by_cases e : q.1 = p
    · left
      exact ⟨q.2, by rw [← e]; exact List.mem_cons_self .., by rw [if_pos (by rw [e])]⟩
    · rw [if_neg (fun z => e (by have := Sum.inl.inj z; omega))]
      rcases dget2 (fs := fs) (p := p) with ⟨y, h1, h2⟩ | ⟨h1, h2⟩
      · exact .inl ⟨y, List.mem_cons_of_mem _ h1, h2⟩
      · refine .inr ⟨fun hy => ?_, h2⟩
        rw [List.map_cons] at hy
        rcases List.mem_cons.mp hy with hy | hy
        · exact e hy.symm
        · exact h1 hy
theorem hasK2 {fs : El2} {p : Nat} (h : p ∉ fs.map (·.1)) : hasK (fs.map fun p => (.inl (p.1 : Int) : L2.Key)) (.inl (p : Int)) = false := by
  refine Bool.eq_false_iff.mpr fun z => ?_
  unfold hasK at z
  obtain ⟨k, hk, e⟩ := List.any_eq_true.mp z
  obtain ⟨q, hq, rfl⟩ := List.mem_map.mp hk
  have e1 := Sum.inl.inj (of_decide_eq_true e)
  have e2 : q.1 = p := by omega
  exact h (by rw [← e2]; exact List.mem_map_of_mem hq)
/-! ### cells as data -/
def pdC (c : Cl) : PyData := .tuple [.str c.1, .tuple (c.2.map .int)]
theorem pdFs_ints : ∀ r : List Int, pdFs (r.map fun i => .v (.int i)) = some (r.map .int)
  | [] => rfl
  | i :: r => by
    show pdFs (.v (.int i) :: r.map fun i => .v (.int i)) = _
    unfold pdFs
    rw [pdFs_ints r]
    rfl
theorem pdF_cl (c : Cl) : pdF (.tup [.v (.str c.1), .tup (dIs c.2)]) = some (pdC c) := by
  unfold pdF
  simp only [pdFs, pdF, pdFs_ints]
  rfl
theorem pdFs_cls : ∀ cs : List Cl, pdFs (clsD cs) = some (cs.map pdC)
  | [] => rfl
  | c :: cs => by
    show pdFs (.tup [.v (.str c.1), .tup (dIs c.2)] :: clsD cs) = _
    unfold pdFs
    rw [pdFs_cls cs, pdF_cl]
    rfl
theorem eqvAll_ints : ∀ (xs ys : List Int), PyData.eqvAll (xs.map .int) (ys.map .int) = decide (xs = ys)
  | [], [] => rfl
  | [], y :: ys => by simp [PyData.eqvAll]
  | x :: xs, [] => by simp [PyData.eqvAll]
  | x :: xs, y :: ys => by
    simp only [List.map_cons, PyData.eqvAll, PyData.eqv, eqvAll_ints xs ys, List.cons.injEq]
    rw [Bool.eq_iff_iff]
    simp [Bool.and_eq_true]
theorem eqv_cl (a b : Cl) : PyData.eqv (pdC a) (pdC b) = decide (a = b) := by
  unfold pdC
  simp only [PyData.eqv, PyData.eqvAll, eqvAll_ints, Bool.and_true]
  obtain ⟨a1, a2⟩ := a
  obtain ⟨b1, b2⟩ := b
  rw [Bool.eq_iff_iff]
  simp [Bool.and_eq_true]
theorem can_ints : ∀ r : List Int, PyData.canLayAll0 (r.map .int) = true
  | [] => rfl
  | i :: r => by
    simp only [List.map_cons, PyData.canLayAll0, PyData.canLay0, can_ints r, Bool.and_true]
theorem depth_ints : ∀ r : List Int, PyData.depthAll (r.map .int) = 0
  | [] => rfl
  | i :: r => by
    simp only [List.map_cons, PyData.depthAll, PyData.depth, depth_ints r]
    rfl
theorem shaped_ints (r : List Int) : SeqAt.shaped (.list (r.map .int)) = true := by
  unfold SeqAt.shaped
  simp only [PyData.canLay0, PyData.depth, can_ints, depth_ints]
  rfl
theorem can_cls : ∀ {cs : List Cl}, (∀ c ∈ cs, okS c.1) → PyData.canLayAll0 (cs.map pdC) = true ∧ PyData.depthAll (cs.map pdC) ≤ 2
  | [], _ => ⟨rfl, by decide⟩
  | c :: cs, h => by
    obtain ⟨i1, i2⟩ := can_cls fun x hx => h x (List.mem_cons_of_mem _ hx)
    have o1 := h c List.mem_cons_self
    rw [List.map_cons]
    refine ⟨?_, ?_⟩
    · unfold pdC
      simp only [PyData.canLayAll0, PyData.canLay0, can_ints, Bool.and_true]
      exact Bool.and_eq_true_iff.mpr ⟨o1, i1⟩
    · unfold pdC
      simp only [PyData.depthAll, PyData.depth, depth_ints]
      have : PyData.depthAll (List.map (fun c => PyData.tuple [PyData.str c.fst, PyData.tuple (List.map PyData.int c.snd)]) cs) ≤ 2 := i2
      omega
theorem shaped_cls {cs : List Cl} (h : ∀ c ∈ cs, okS c.1) : SeqAt.shaped (.list (cs.map pdC)) = true := by
  obtain ⟨h1, h2⟩ := can_cls h
  unfold SeqAt.shaped
  have e1 : (PyData.list (cs.map pdC)).canLay0 = true := by unfold PyData.canLay0; exact h1
  have e2 : (PyData.list (cs.map pdC)).depth ≤ 64 := by unfold PyData.depth; omega
  rw [e1, decide_eq_true e2]
  rfl
theorem shaped_cl {c : Cl} (h : okS c.1) : SeqAt.shaped (pdC c) = true := by
  unfold SeqAt.shaped pdC
  simp only [PyData.canLay0, PyData.canLayAll0, PyData.depth, PyData.depthAll, can_ints, depth_ints]
  rw [show PyData.strOk c.1 = true from h]
  rfl
theorem idx_first {c : Cl} : ∀ {cs : List Cl} {m : Nat} {z : Cl}, m < cs.idxOf c → cs[m]? = some z → z ≠ c
  | [], _, _, h, _ => by simp at h
  | d :: cs, 0, z, h, e => by
    have e : d = z := by simpa using e
    subst e
    intro q
    subst q
    rw [List.idxOf_cons_self] at h
    omega
  | d :: cs, m + 1, z, h, e => by
    rw [List.idxOf_cons] at h
    refine idx_first (cs := cs) (m := m) ?_ (by simpa using e)
    cases q : d == c with
    | true => rw [q] at h; simp at h
    | false => rw [q] at h; simp at h; exact h
theorem i_indexC {M : Mem} {Φ : Dat → Mem → Prop} {c : Cl} {cs : List Cl} (hc : c ∈ cs) (ok : ∀ c ∈ cs, okS c.1) (k : Φ (.v (.int (cs.idxOf c : Nat))) M) : oIndexD (.lst (clsD cs)) [.tup [.v (.str c.1), .tup (dIs c.2)]] M Φ := by
  have hi := List.idxOf_lt_length_of_mem hc
  have hz : cs[cs.idxOf c]? = some c := by rw [List.getElem?_eq_getElem hi, List.getElem_idxOf hi]
  refine ⟨_, pdC c, cs.map pdC, cs.idxOf c, pdC c, rfl, ?_, pdF_cl c, shaped_cls ok, shaped_cl (ok c hc), by rw [List.getElem?_map, hz]; rfl, by rw [eqv_cl]; exact decide_eq_true rfl, fun m z' hm hz' => ?_, k⟩
  · exact pdM_lst (es := clsD cs) rfl (pdFs_cls cs)
  · rw [List.getElem?_map] at hz'
    cases e : cs[m]? with
    | none => rw [e] at hz'; cases hz'
    | some z =>
      rw [e] at hz'
      have : pdC z = z' := Option.some.inj hz'
      subst this
      rw [eqv_cl]
      exact decide_eq_false (idx_first hm e)
end K51
set_option maxRecDepth 100000
set_option maxHeartbeats 2000000
/-! plain: going through all tables; a line of one cell -/
namespace PL
theorem cnt_le : ∀ {vs : List Nat} {p : Asg → Bool}, cnt vs p ≤ 2 ^ vs.length
  | [], p => by
    simp only [cnt]
    split <;> simp
  | v :: vs, p => by
    have h1 := cnt_le (vs := vs) (p := fun x => p (setA x v false))
    have h2 := cnt_le (vs := vs) (p := fun x => p (setA x v true))
    simp only [cnt, List.length_cons, Nat.pow_succ]
    omega
theorem par_single {n a : Nat} {x : Asg} (h : a < n) : par n (fun i => decide (i = a)) x = x a := by
  induction n with
  | zero => omega
  | succ n ih =>
    simp only [par]
    by_cases e : n = a
    · subst e
      rw [par_none (fun i hi => decide_eq_false (by omega))]
      simp
    · rw [ih (by omega), decide_eq_false e]
      simp
theorem par_cons {n a : Nat} {l : List Nat} {x : Asg} (h : a < n) (hn : a ∉ l) : par n (fun i => decide (i ∈ a :: l)) x = (x a ^^ par n (fun i => decide (i ∈ l)) x) := by
  have e : (fun i => decide (i ∈ a :: l)) = fun i => decide (i = a) ^^ decide (i ∈ l) := funext fun i => by
    by_cases q : i = a
    · subst q; simp [hn]
    · simp [q]
  rw [e, par_xor, par_single h]
theorem par_asg {n : Nat} {S : Nat → Bool} {x y : Asg} (h : ∀ i, i < n → x i = y i) : par n S x = par n S y := by
  induction n with
  | zero => rfl
  | succ n ih =>
    simp only [par]
    rw [ih fun i hi => h i (by omega), h n (by omega)]
end PL
namespace K51
open PySem PySem.Spec PyProof.Rows SlX DL PL
def asgOf : List Nat → List Int → Asg
  | v :: vs, b :: r => setA (asgOf vs r) v (decide (b = 1))
  | _, _ => fun _ => false
theorem brute_cnt : ∀ {vs : List Nat} {p : Asg → Bool}, ((rowsN vs.length).filter fun r => p (asgOf vs r)).length = cnt vs p
  | [], p => by
    simp only [List.length_nil, rowsN, PL.cnt, asgOf, List.filter_cons, List.filter_nil]
    split <;> simp
  | v :: vs, p => by
    have h1 := brute_cnt (vs := vs) (p := fun x => p (setA x v false))
    have h2 := brute_cnt (vs := vs) (p := fun x => p (setA x v true))
    simp only [List.length_cons, rowsN, PL.cnt, List.filter_append, List.filter_map, List.length_append, List.length_map]
    rw [← h1, ← h2]
    congr 1
theorem asg_range : ∀ {k n : Nat} {r : List Int} {i : Nat}, r.length = n → i < n → asgOf (List.range' k n) r (k + i) = decide (r[i]? = some 1)
  | k, 0, r, i, _, h => by omega
  | k, n + 1, [], i, h, _ => by simp at h
  | k, n + 1, b :: r, 0, h, _ => by
    rw [List.range'_succ]
    simp [asgOf, setA]
  | k, n + 1, b :: r, i + 1, h, h2 => by
    have ih := asg_range (k := k + 1) (n := n) (r := r) (i := i) (by simpa using h) (by omega)
    rw [List.range'_succ]
    simp only [asgOf, setA]
    rw [if_neg (by omega), show k + (i + 1) = k + 1 + i by omega, ih]
    simp
/-- what a line asks of a table -/
def lineOk (v : List Int) (p : List Nat × Int) : Bool := decide ((p.1.map fun i => v[i]?.getD 0).sum % 2 = p.2)
theorem sum_par {n : Nat} {v : List Int} (hv : v.length = n) (hb : Bits v) : ∀ {l : List Nat}, l.Nodup → (∀ i ∈ l, i < n) → (l.map fun i => v[i]?.getD 0).sum % 2 = if par n (fun i => decide (i ∈ l)) (asgOf (List.range n) v) = true then 1 else 0
  | [], _, _ => by
    rw [par_none (fun i hi => by simp)]
    rfl
  | a :: l, nd, h => by
    obtain ⟨n1, n2⟩ := List.nodup_cons.mp nd
    have ih := sum_par hv hb n2 fun i hi => h i (List.mem_cons_of_mem _ hi)
    have ha := h a List.mem_cons_self
    rw [par_cons ha n1, List.map_cons, List.sum_cons]
    have e : asgOf (List.range n) v a = decide (v[a]? = some 1) := by
      have := asg_range (k := 0) (n := n) (r := v) (i := a) hv ha
      rw [← List.range_eq_range', Nat.zero_add] at this
      exact this
    rw [e]
    have hva : v[a]? = some v[a] := List.getElem?_eq_getElem (by omega)
    rw [hva]
    simp only [Option.getD_some]
    rcases hb v[a] (List.getElem_mem _) with z | z
    · rw [z, Int.zero_add, ih]
      simp
    · rw [z]
      cases q : par n (fun i => decide (i ∈ l)) (asgOf (List.range n) v) with
      | true => rw [q] at ih; simp at ih ⊢; omega
      | false => rw [q] at ih; simp at ih ⊢; omega
theorem line_ok {n : Nat} {v : List Int} (hv : v.length = n) (hb : Bits v) {p : List Nat × Int} (nd : p.1.Nodup) (hl : ∀ i ∈ p.1, i < n) (hr : p.2 = 0 ∨ p.2 = 1) : lineOk v p = !PL.rest n (lnL p.1 p.2) (asgOf (List.range n) v) := by
  unfold lineOk PL.rest lnL
  rw [sum_par hv hb nd hl]
  cases par n (fun i => decide (i ∈ p.1)) (asgOf (List.range n) v) <;> rcases hr with e | e <;> rw [e] <;> rfl
theorem all_mem {α : Type} {l : List α} {p q : α → Bool} (h : ∀ a ∈ l, p a = q a) : l.all p = l.all q := by
  induction l with
  | nil => rfl
  | cons a l ih => rw [List.all_cons, List.all_cons, h a List.mem_cons_self, ih fun b hb => h b (List.mem_cons_of_mem _ hb)]
theorem brute_num {F : List Str} {A L : An} (g : Good F A) : ((rowsN (cellsN A).length).filter fun v => (rowsLn F A L).all (lineOk v)).length = numN F A L := by
  unfold numN
  have h := brute_cnt (vs := List.range (cellsN A).length) (p := PL.meets (cellsN A).length (linesN F A L))
  rw [List.length_range] at h
  rw [← h]
  congr 1
  refine List.filter_congr fun v hv => ?_
  obtain ⟨h1, h2⟩ := rowsN_iff.mp hv
  unfold PL.meets linesN
  rw [List.all_map]
  refine all_mem fun p hp => ?_
  obtain ⟨k1, k2, k3⟩ := rowsLn_ok g hp
  exact line_ok h1 h2 (lt_nodup k1) k2 k3
/-! ### one line more -/
theorem meets_iff {n : Nat} {ls : List PL.Line} {x : Asg} : PL.meets n ls x = true ↔ ∀ l ∈ ls, PL.rest n l x = false := by
  unfold PL.meets
  rw [List.all_eq_true]
  simp
theorem mem_rowsOf {F : List Str} {n : Nat} {r : List Int × Nat} : r ∈ rowsOf F n ↔ r.1 ∈ rowsN F.length ∧ r.2 < n := by
  refine ⟨rowsOf_mem, fun ⟨h1, h2⟩ => ?_⟩
  unfold rowsOf
  exact List.mem_flatMap.mpr ⟨r.1, h1, List.mem_map.mpr ⟨r.2, List.mem_range.mpr h2, rfl⟩⟩
def lineS (F : List Str) (A : An) (s : List Int) (q : Str × List Str) : PL.Line := lnL (lnN F A s q) (oddN F s q)
theorem meets_lines {F : List Str} {A L : An} {n : Nat} {x : Asg} : PL.meets n (linesN F A L) x = true ↔ ∀ s ∈ rowsN F.length, ∀ q ∈ L, PL.rest n (lineS F A s q) x = false := by
  rw [meets_iff]
  unfold linesN rowsLn
  constructor
  · intro h s hs q hq
    obtain ⟨j, hj, e⟩ := List.mem_iff_getElem.mp hq
    refine h _ (List.mem_map.mpr ⟨rowLn F A L (s, j), List.mem_map.mpr ⟨(s, j), mem_rowsOf.mpr ⟨hs, hj⟩, rfl⟩, ?_⟩)
    unfold rowLn lineS lineAt
    simp only
    rw [List.getElem?_eq_getElem hj, Option.getD_some, e]
  · intro h l hl
    obtain ⟨p, hp, rfl⟩ := List.mem_map.mp hl
    obtain ⟨r, hr, rfl⟩ := List.mem_map.mp hp
    obtain ⟨h1, h2⟩ := mem_rowsOf.mp hr
    refine h r.1 h1 (lineAt L r.2) ?_
    unfold lineAt
    rw [List.getElem?_eq_getElem h2, Option.getD_some]
    exact List.getElem_mem h2
theorem lines_snoc {F : List Str} {A L : An} {n : Nat} {x : Asg} {q : Str × List Str} : PL.meets n (linesN F A (L ++ [q])) x = (PL.meets n (linesN F A L) x && PL.meets n (linesN F A [q]) x) := by
  rw [Bool.eq_iff_iff, Bool.and_eq_true, meets_lines, meets_lines, meets_lines]
  constructor
  · intro h
    exact ⟨fun s hs r hr => h s hs r (List.mem_append_left _ hr), fun s hs r hr => h s hs r (List.mem_append_right _ hr)⟩
  · rintro ⟨h1, h2⟩ s hs r hr
    rcases List.mem_append.mp hr with hr | hr
    · exact h1 s hs r hr
    · exact h2 s hs r hr
theorem rowsN_some (n : Nat) : ∃ s, s ∈ rowsN n := ⟨List.replicate n 0, rowsN_iff.mpr ⟨by simp, fun i hi => .inl (List.eq_of_mem_replicate hi)⟩⟩
theorem filter_name {A : An} {F : List Str} {q : Str × List Str} (nd0 : (F ++ A.map (·.1)).Nodup) (hq : q ∈ A) : (A.filter fun a => decide (a.1 ∈ [q.1])) = [q] := by
  have nd := (List.nodup_append.mp nd0).2.1
  clear nd0
  induction A with
  | nil => cases hq
  | cons a A ih =>
    rw [List.map_cons] at nd
    obtain ⟨n1, n2⟩ := List.nodup_cons.mp nd
    rw [List.filter_cons]
    rcases List.mem_cons.mp hq with e | e
    · subst e
      rw [if_pos (by simp)]
      have : A.filter (fun a => decide (a.1 ∈ [q.1])) = [] := List.filter_eq_nil_iff.mpr fun a ha => by
        simpa using fun z => n1 (by rw [← z]; exact List.mem_map_of_mem ha)
      rw [this]
    · rw [if_neg (by simpa using fun z => n1 (by rw [z]; exact List.mem_map_of_mem e)), ih e n2]
theorem blind_line {F : List Str} {A : An} {b : Str} {w : Str} (g : Good F A) (hb : (b, []) ∈ A) {n : Nat} (hn : n = (cellsN A).length) {x : Asg} : PL.meets n (linesN F A [(w, [b])]) x = (x (idxC A (b, [])) == decide (w = ("odd" : Str))) := by
  have hbF : b ∉ F := fun z => (List.nodup_append.mp g.nodup).2.2 b z b (List.mem_map.mpr ⟨_, hb, rfl⟩) rfl
  have key : ∀ s, PL.rest n (lineS F A s (w, [b])) x = !(x (idxC A (b, [])) == decide (w = ("odd" : Str))) := fun s => by
    have e1 : lineCells F A s [b] = [(b, [])] := by
      unfold lineCells
      rw [filter_name g.nodup hb]
      simp [seenN]
    have e2 : lnN F A s (w, [b]) = [idxC A (b, [])] := by
      unfold lnN
      rw [e1]
      exact List.mergeSort_singleton _
    have e3 : oddN F s (w, [b]) = if w = ("odd" : Str) then 1 else 0 := by
      unfold oddN
      simp only [List.filter_cons, decide_eq_false hbF, List.filter_nil, List.map_nil, List.sum_nil]
      split <;> rfl
    have hc : (b, ([] : List Int)) ∈ cellsN A := by
      unfold cellsN
      exact List.mem_flatMap.mpr ⟨_, hb, List.mem_map.mpr ⟨[], by simp [rowsN], rfl⟩⟩
    have hi : idxC A (b, []) < n := by rw [hn]; exact List.idxOf_lt_length_of_mem hc
    unfold lineS PL.rest lnL
    rw [e2, e3]
    have := par_cons (n := n) (l := []) (x := x) hi (by simp)
    rw [this, par_none (fun i hi => by simp)]
    by_cases q : w = ("odd" : Str)
    · rw [if_pos q, decide_eq_true q]
      cases x (idxC A (b, [])) <;> rfl
    · rw [if_neg q, decide_eq_false q]
      cases x (idxC A (b, [])) <;> rfl
  cases e : (x (idxC A (b, [])) == decide (w = ("odd" : Str))) with
  | true =>
    rw [meets_lines]
    intro s hs q hq
    rw [List.mem_singleton.mp hq, key, e]
    rfl
  | false =>
    rw [Bool.eq_false_iff]
    intro z
    rw [meets_lines] at z
    obtain ⟨s, hs⟩ := rowsN_some F.length
    have := z s hs _ (List.mem_singleton.mpr rfl)
    rw [key, e] at this
    cases this
theorem num_blind {F : List Str} {A L : An} {b : Str} (g : Good F A) (hb : (b, []) ∈ A) : numN F A (L ++ [(("even" : Str), [b])]) + numN F A (L ++ [(("odd" : Str), [b])]) = numN F A L := by
  unfold numN
  have e1 : ∀ x, PL.meets (cellsN A).length (linesN F A (L ++ [(("even" : Str), [b])])) x = ((!x (idxC A (b, []))) && PL.meets (cellsN A).length (linesN F A L) x) := fun x => by
    rw [lines_snoc, blind_line g hb rfl, decide_eq_false (by decide +kernel), Bool.and_comm]
    cases x (idxC A (b, [])) <;> rfl
  have e2 : ∀ x, PL.meets (cellsN A).length (linesN F A (L ++ [(("odd" : Str), [b])])) x = (x (idxC A (b, [])) && PL.meets (cellsN A).length (linesN F A L) x) := fun x => by
    rw [lines_snoc, blind_line g hb rfl, decide_eq_true rfl, Bool.and_comm]
    cases x (idxC A (b, [])) <;> rfl
  rw [cnt_congr e1, cnt_congr e2, Nat.add_comm]
  exact cnt_split (a := fun x => x (idxC A (b, [])))
theorem num_le {F : List Str} {A L : An} (h : (cellsN A).length ≤ 64) : numN F A L ≤ 2 ^ 64 := by
  unfold numN
  refine Nat.le_trans cnt_le ?_
  rw [List.length_range]
  exact Nat.pow_le_pow_right (by decide) h
theorem cells_many {A : An} : (cellsN A).length = manyN A := by
  unfold cellsN manyN
  rw [List.length_flatMap]
  congr 1
  refine List.map_congr_left fun q _ => ?_
  rw [List.length_map, rowsN_len]
end K51
set_option maxRecDepth 100000
set_option maxHeartbeats 4000000
namespace K51
open PySem PySem.Spec PyProof.Rows L2 SlX DL
local macro_rules | `(tactic| walk_at "ok") => `(tactic| first | assumption | (show PyData.strOk _ = true; decide +kernel))
local macro_rules | `(tactic| walk_at "z") => `(tactic| first | assumption | (simp only [List.length_cons, List.length_nil, List.length_map, List.length_append, sizeLine] at *; omega))
local macro_rules | `(tactic| walk_at "m") => `(tactic| first | assumption | rfl | exact put_same | (simp [Mem.put, *]; done) | (simp [Mem.put, lstV, seqV, objV, dicV, *]; done))
local macro_rules | `(tactic| walk_at "nv") => `(tactic| (try simp only [startD, wipeD, List.map_cons, List.map_nil, List.length_cons, List.length_nil, Nat.reduceAdd, Nat.reduceSub, List.reduceReplicate, List.append_nil, List.cons_append, List.nil_append, List.set_cons_zero, List.set_cons_succ]))
local macro_rules | `(tactic| walk_at "d1") => `(tactic| first
  | ((with_reducible refine i_varI ?_); refine i_var rfl ?_)
  | with_reducible refine i_c ?_
  | with_reducible refine i_op ?_
  | with_reducible refine i_test ?_
  | with_reducible refine i_chain ?_
  | with_reducible refine i_and ?_
  | with_reducible refine i_or ?_
  | with_reducible refine i_not ?_
  | with_reducible refine i_andV ?_
  | with_reducible refine i_orV ?_
  | with_reducible refine i_notV ?_
  | with_reducible refine i_if ?_
  | with_reducible refine i_nil ?_
  | with_reducible refine i_lzip ?_
  | with_reducible refine i_oint ?_
  | with_reducible refine i_ointB ?_
  | with_reducible refine i_mod (by omega) ?_
  | with_reducible refine i_lits ?_
  | with_reducible refine i_get2 ?_
  | with_reducible refine i_bits ?_
  | with_reducible refine i_lrg ?_
  | with_reducible refine i_disp ?_
  | with_reducible refine i_pnil ?_
  | with_reducible refine i_pcons ?_
  | with_reducible refine i_ndw ?_
  | with_reducible refine i_calk ?_
  | with_reducible refine i_enumT ?_
  | with_reducible refine i_zipT ?_
  | with_reducible refine i_cons ?_
  | with_reducible refine i_star ?_
  | with_reducible refine i_tup ?_
  | with_reducible refine i_lst ?_
  | with_reducible refine i_szA (by walk_at "z") ?_
  | with_reducible refine i_szB (by walk_at "z") ?_
  | with_reducible refine i_cal ?_
  | with_reducible refine i_mt ?_
  | with_reducible refine i_m1 ?_
  | with_reducible refine i_fld ?_
  | with_reducible refine i_sl ?_
  | with_reducible refine i_noP ?_
  | with_reducible refine i_part ?_
  | with_reducible refine i_neg ?_
  | with_reducible refine i_meth ?_
  | with_reducible refine i_make ?_
  | with_reducible refine i_pro ?_
  | with_reducible refine i_lc ?_
  | with_reducible refine i_yes ?_
  | with_reducible refine i_next ?_
  | with_reducible refine i_seq ?_
  | with_reducible refine i_ret ?_
  | with_reducible refine i_drop ?_
  | with_reducible refine i_ifS ?_
  | ((with_reducible refine i_gname ?_); walk_at "nv")
  | ((with_reducible refine i_gtupI ?_); refine i_gtup rfl rfl ?_)
  | with_reducible refine i_gnil ?_
  | with_reducible refine i_gcons ?_
  | with_reducible refine i_asg ?_
  | ((with_reducible refine i_par ?_); walk_at "nv")
  | ((with_reducible refine i_par3 ?_); walk_at "nv")
  | with_reducible refine i_gsub ?_
  | with_reducible refine i_gfld ?_
  | with_reducible refine i_for ?_
  | with_reducible refine i_it ?_
  | with_reducible refine i_rng1 ?_
  | with_reducible refine i_enum ?_
  | with_reducible refine i_bl ?_
  | with_reducible refine i_int ?_
  | with_reducible refine i_2 ?_
  | with_reducible refine i_3 ?_
  | with_reducible refine i_iteT ?_
  | with_reducible refine i_iteF ?_
  | with_reducible refine i_iteNT ?_
  | with_reducible refine i_iteNF ?_
  | with_reducible refine i_iteV ?_
  | with_reducible refine i_I0 ?_
  | with_reducible refine i_addI ?_
  | with_reducible refine i_lenSet ?_
  | ((with_reducible refine i_isI ?_); first | refine i_isNF rfl ?_ | refine i_isNT rfl ?_ | refine i_isN ?_)
  | ((with_reducible refine i_notI ?_); first | refine i_notNF rfl ?_ | refine i_notNT rfl ?_ | refine i_notN ?_)
  | with_reducible refine i_len_l ?_
  | with_reducible refine i_len_t ?_
  | ((with_reducible refine i_isiI ?_); refine i_isi rfl rfl ?_)
  | with_reducible refine i_len_s (by first | assumption | (simp only [sizeLine] at *; omega)) ?_
  | with_reducible refine i_it_l ?_
  | with_reducible refine i_it_t ?_
  | with_reducible refine i_it_s ?_
  | with_reducible refine i_tuple_l ?_
  | with_reducible refine i_tuple_t ?_
  | with_reducible refine i_isStr ?_
  | with_reducible refine i_fzR ?_
  | with_reducible refine i_sg ?_)
local macro_rules | `(tactic| walk_at "d") => `(tactic| ((walk_at "d1"); (repeat walk_at "d1")))
local macro_rules | `(tactic| walk_at "s") => `(tactic| (first | (walk_at "d1"; walk_at "s") | (with_reducible refine i_ite (fun hb => ?_) (fun hb => ?_) <;> walk_at "s") | skip))
local macro_rules | `(tactic| walk_at "d1") => `(tactic| first
  | with_reducible refine i_abs ?_
  | with_reducible refine i_min ?_
  | with_reducible refine i_max ?_
  | with_reducible refine i_slS ?_)
local macro_rules | `(tactic| walk_at "w") => `(tactic| (repeat walk_at "d1"))
local macro_rules | `(tactic| walk_at "v") => `(tactic| (repeat ((fail_if_success (with_reducible refine i_fzR ?_)); walk_at "d1")))
section
variable {P : Program} {w : World} {K : PySem.W.Frag} {mg : Str → Option Value} {base : Heap} {cl : Nat → Addr} {f : Addr} {fd : FuncData}
/-- a pot of draws that has been used n times at most -/
structure PotAt (M : Mem) (p : Addr) (n : Nat) : Prop where
  ex : ∃ x y z : Int, M p = some (.lst [.v (.int x), .v (.int y), .v (.int z)]) ∧ 0 ≤ x ∧ x.natAbs < 2 ^ 1000 ∧ 0 ≤ y ∧ y < 2305843009213693921 ∧ 0 ≤ z ∧ z ≤ (n : Int)
def c__law_pot (K : PySem.W.Frag) (cl : Nat → Addr) : DOs := fun ds M Φ => ∃ d is, ∃ n : Nat, ds = [d, .v (.int (n : Nat))] ∧ ScrD K cl d is ∧ n ≤ 100 ∧ ∀ p M', M p = none → PotAt M' p 0 → (∀ y, y ≠ p → M' y = M y) → Φ (.v (.ref p)) M'
def c__law_take : DOs := fun ds M Φ => ∃ p n, ∃ upto : Nat, ds = [.v (.ref p), .v (.int (upto : Nat))] ∧ PotAt M p n ∧ 0 < upto ∧ upto ≤ 1000 ∧ n < 100000 ∧ ∀ (k : Nat) M', k < upto → PotAt M' p (n + 1) → (∀ y, y ≠ p → M' y = M y) → Φ (.v (.int (k : Nat))) M'
theorem PotAt.same {M M' : Mem} {p : Addr} {n : Nat} (h : PotAt M p n) (e : M' p = M p) : PotAt M' p n := by
  obtain ⟨x, y, z, h1, h2⟩ := h
  exact ⟨x, y, z, e.trans h1, h2⟩
theorem PotAt.ne {M : Mem} {p q : Addr} {n : Nat} (h : PotAt M p n) (e : M q = none) : p ≠ q := by
  obtain ⟨x, y, z, h1, h2⟩ := h
  exact mem_ne h1 e
/-- all but the pot stands -/
def But (M M' : Mem) (p : Addr) : Prop := ∀ y, y ≠ p → M' y = M y
def c__law_of : DOs := fun ds M Φ => ∃ p, ∃ n : Nat, ∃ es : List Dat, ds = [.v (.ref p), .lst es] ∧ PotAt M p n ∧ 0 < es.length ∧ es.length ≤ 1000 ∧ n < 100000 ∧ ∀ (k : Nat) e M', es[k]? = some e → PotAt M' p (n + 1) → But M M' p → Φ e M'
def c__law_some : DOs := fun ds M Φ => ∃ p, ∃ n : Nat, ∃ es : List Dat, ∃ many : Nat, ds = [.v (.ref p), .lst es, .v (.int (many : Nat))] ∧ PotAt M p n ∧ many ≤ es.length ∧ es.length ≤ 1000 ∧ n + many < 100000 ∧ ∀ (vs rest : List Dat) M', (vs ++ rest).Perm es → vs.length = many → PotAt M' p (n + many) → But M M' p → Φ (.lst vs) M'
def c__law_cells (K : PySem.W.Frag) (cl : Nat → Addr) : DOs := fun ds M Φ => ∃ d is, ∃ m : Nat, ds = [d, .v (.int (m : Nat))] ∧ ScrD K cl d is ∧ 1 ≤ m ∧ m ≤ 10 ∧ ∀ k : Nat, 1 ≤ k → k ≤ m → Φ (.lst ((List.range k).map fun i => .v (.int (i : Nat)))) M
def c__law_is_int : DOs := fun ds M Φ => ∃ i lo hi : Int, ds = [.v (.int i), .v (.int lo), .v (.int hi)] ∧ Φ (.v (.bl (decide (lo ≤ i) && decide (i ≤ hi)))) M
abbrev s__law_pot : Stmt := topS 65
theorem sc__law_pot : FnScope ["script", "place", "cell", "own", "small"] ["script", "place"] (defScope s__law_pot) := ⟨rfl, rfl, rfl, by decide +kernel, rfl, by decide +kernel, by decide +kernel⟩
theorem ok__law_pot (T : Tx K mg cl) (F : FunD K "_law_pot" "_law_pot" (defArgs s__law_pot) (defBody s__law_pot) (defScope s__law_pot) [] [] f fd) (hm : mg "_law_pot" = some (.ref f)) (b : Binds K fd ["script", "place"] []) : DCal P w K mg base cl 1 "_law_pot" (c__law_pot K cl) := by
  refine cal_D F hm b sc__law_pot (fun ds M Φ h => ?_) (fun cdv A outer s H E hr => ⟨_, (dss_cons (ds_set (i := 2) sc__law_pot.nd rfl (by first | exact Or.inl rfl | exact Or.inr rfl) (de_if (dt_cmp op_lt od_lt (nomark _) (dv 1) (de_callB call_lenG cd_lenS boot_len T.b_len (da_cons (dv 0) da_nil))) (de_ixS (hu_of hr) (dv 0) (dv 1)) (de_op op_addG od_add (de_op op_addG od_add (de_op op_mod od_I (de_callB (cr_sum rfl) cd_sum boot_sum T.b_sum (da_cons (de_slS (dv 0) do_none (do_some de_int)) da_nil)) de_int) (de_op op_mulG od_mul de_int (dv 1))) de_int)))
    (dss_cons (ds_set (i := 3) sc__law_pot.nd rfl (by first | exact Or.inl rfl | exact Or.inr rfl) (de_op op_mulG od_mul (de_op op_mod od_I (de_callTy call_int1 cd_int boot_int T.b_int (da_cons (de_callB call_abs cd_abs boot_abs T.b_abs (da_cons (dv 2) da_nil)) da_nil)) (de_op op_powB od_I (de_op op_pow od_I de_int de_int) de_int)) (de_callTy call_int1 cd_int boot_int T.b_int (da_cons (de_cmp op_ge od_ge (nomark _) (de_callB call_abs cd_abs boot_abs T.b_abs (da_cons (dv 2) da_nil)) (de_op op_pow od_I de_int de_int)) da_nil))))
    (dss_cons (ds_set (i := 4) sc__law_pot.nd rfl (by first | exact Or.inl rfl | exact Or.inr rfl) (de_op op_mod od_I (de_callTy call_int1 cd_int boot_int T.b_int (da_cons (dv 2) da_nil)) de_int))
    (dss_one (ds_ret (de_lst (da_cons (dv 3) (da_cons (de_op op_mod od_I (de_callTy call_int1 cd_int boot_int T.b_int (da_cons (de_op op_addG od_add (de_op op_addG od_add (de_op op_mulG od_mul (dv 4) de_int) (de_op op_mulG od_mul (de_op op_mulG od_mul de_int (dv 1)) (dv 1))) de_int) da_nil)) de_int) (da_cons de_int da_nil))))))))), fun ds M Φ h => ?_⟩)
  · obtain ⟨d, is, n, rfl, _⟩ := h
    rfl
  · obtain ⟨d, is, n, rfl, hs, hn, h⟩ := h
    walk_at "nv"
    walk_at "w"
    refine ⟨d, is, rfl, hs, ?_⟩
    walk_at "w"
    refine i_iteJ (fun c => ?_) (fun hb Φ' hk => ?_) (fun hb Φ' hk => ?_)
    · walk_at "w"
      refine i_pow (n := 60) rfl (by decide) (by decide) ?_
      walk_at "w"
      refine i_I ⟨by decide, by decide +kernel⟩ ?_
      walk_at "w"
      obtain ⟨N, hN, n1, n2⟩ := big_pow
      rw [hN]
      refine i_mod n1 ?_
      walk_at "w"
      refine i_pow (n := 18) rfl (by decide) (by decide) ?_
      walk_at "w"
      obtain ⟨m1, m2⟩ := mod_nat (x := if c < 0 then -c else c) n1 n2
      refine i_mul 1000 2 m2 (b01 _) ?_
      walk_at "w"
      have hs := Int.emod_nonneg c (b := 2305843009213693951) (by decide)
      have hs2 := Int.emod_lt_of_pos c (b := 2305843009213693951) (by decide)
      refine i_mul 64 64 (by omega) (by omega) ?_
      walk_at "w"
      refine i_mul 64 64 (by omega) (by omega) ?_
      walk_at "w"
      refine i_mul 64 64 (by omega) (by omega) ?_
      walk_at "w"
      refine i_new fun p hp => ?_
      walk_at "w"
      obtain ⟨k1, k2⟩ := mul01 (b := decide ((10 : Int) ^ ((18 : Nat) : Int).toNat ≤ if c < 0 then -c else c)) m1 m2
      exact h p _ hp ⟨_, _, _, put_same, k1, k2, Int.emod_nonneg _ (by decide), Int.emod_lt_of_pos _ (by decide), by omega, by omega⟩ (fun y hy => put_ne hy)
    · walk_at "w"
      have hl : n < is.length := by simpa using hb
      exact ⟨is, _, _, hs, rfl, atI_nth (List.getElem?_eq_getElem hl), hk _⟩
    · walk_at "w"
      refine ⟨is, hs, ?_⟩
      refine i_fr ?_
      walk_at "w"
      refine i_sumS fun c => ?_
      walk_at "w"
      refine i_mul 64 64 (by omega) (by omega) ?_
      walk_at "w"
      exact hk _
abbrev s__law_take : Stmt := topS 66
theorem sc__law_take : FnScope ["pot", "upto", "digit", "prime", "blend"] ["pot", "upto"] (defScope s__law_take) := ⟨rfl, rfl, rfl, by decide +kernel, rfl, by decide +kernel, by decide +kernel⟩
theorem ok__law_take (T : Tx K mg cl) (F : FunD K "_law_take" "_law_take" (defArgs s__law_take) (defBody s__law_take) (defScope s__law_take) [] [] f fd) (hm : mg "_law_take" = some (.ref f)) (b : Binds K fd ["pot", "upto"] []) : DCal P w K mg base cl 1 "_law_take" c__law_take := by
  refine cal_D F hm b sc__law_take (fun ds M Φ h => ?_) (fun cdv A outer s H E hr => ⟨_, (dss_cons (ds_if (dt_cmp op_gt od_gt (nomark _) (de_ix (hu_of hr) (dv 0) de_int) de_int) (dss_cons (ds_set (i := 2) sc__law_take.nd rfl (by first | exact Or.inl rfl | exact Or.inr rfl) (de_op op_mod od_I (de_callTy call_int1 cd_int boot_int T.b_int (da_cons (de_ix (hu_of hr) (dv 0) de_int) da_nil)) (dv 1)))
    (dss_cons (ds_asg (de_op op_fdivW od_I (de_ix (hu_of hr) (dv 0) de_int) (dv 1)) (dt_sub (hu_of hr) (dv 0) de_int))
    (dss_one (ds_ret (dv 2))))) dss_nil)
    (dss_cons (ds_asg (de_op op_addG od_add (de_ix (hu_of hr) (dv 0) de_int) de_int) (dt_sub (hu_of hr) (dv 0) de_int))
    (dss_cons (ds_set (i := 3) sc__law_take.nd rfl (by first | exact Or.inl rfl | exact Or.inr rfl) (de_ix (hu_of hr) (de_lst (da_cons de_int (da_cons de_int (da_cons de_int (da_cons de_int (da_cons de_int da_nil)))))) (de_op op_mod od_I (de_callTy call_int1 cd_int boot_int T.b_int (da_cons (de_ix (hu_of hr) (dv 0) de_int) da_nil)) de_int)))
    (dss_cons (ds_set (i := 4) sc__law_take.nd rfl (by first | exact Or.inl rfl | exact Or.inr rfl) (de_op op_mod od_I (de_callTy call_int1 cd_int boot_int T.b_int (da_cons (de_op op_pow od_I (de_callTy call_int1 cd_int boot_int T.b_int (da_cons (de_op op_addG od_add (de_op op_addG od_add (de_ix (hu_of hr) (dv 0) de_int) (de_op op_mulG od_mul (de_op op_mulG od_mul de_int (de_ix (hu_of hr) (dv 0) de_int)) (de_ix (hu_of hr) (dv 0) de_int))) de_int) da_nil)) de_int) da_nil)) (dv 3)))
    (dss_cons (ds_set (i := 4) sc__law_take.nd rfl (by first | exact Or.inl rfl | exact Or.inr rfl) (de_op op_mod od_I (de_callTy call_int1 cd_int boot_int T.b_int (da_cons (de_op op_mulG od_mul (dv 4) (de_op op_addG od_add (de_op op_mod od_I (de_callTy call_int1 cd_int boot_int T.b_int (da_cons (dv 4) da_nil)) de_int) (de_op op_mulG od_mul de_int (de_ix (hu_of hr) (dv 0) de_int)))) da_nil)) de_int))
    (dss_one (ds_ret (de_op op_mod od_I (de_callTy call_int1 cd_int boot_int T.b_int (da_cons (de_op op_fdivW od_I (dv 4) de_int) da_nil)) (dv 1))))))))), fun ds M Φ h => ?_⟩)
  · obtain ⟨p, n, upto, rfl, _⟩ := h
    rfl
  · obtain ⟨p, n, upto, rfl, ⟨x, y, z, hM, hx, hx2, hy, hy2, hz, hz2⟩, hu, hu2, hn, h⟩ := h
    walk_at "nv"
    walk_at "w"
    refine .seq (seqV_at hM) rfl ?_
    walk_at "w"
    refine i_ite (fun hb => ?_) (fun hb => ?_)
    · have hx0 : 0 < x := of_decide_eq_true hb
      walk_at "w"
      refine .seq (seqV_at hM) rfl ?_
      walk_at "w"
      refine .seq (seqV_at hM) rfl ?_
      walk_at "w"
      refine i_I (wide_div (b := 64) (by omega) (by omega) (by decide) (by decide)) ?_
      walk_at "w"
      refine .lst hM rfl ?_
      walk_at "w"
      have e0 := Int.emod_nonneg x (b := (upto : Int)) (by omega)
      have e1 := Int.emod_lt_of_pos x (b := (upto : Int)) (by omega)
      rw [← Int.toNat_of_nonneg e0]
      have d1 := Int.ediv_le_self (upto : Int) hx
      have d0 : 0 ≤ x / (upto : Int) := Int.ediv_nonneg hx (by omega)
      exact h _ _ (by omega) ⟨_, _, _, put_same, d0, Nat.lt_of_le_of_lt (by omega) hx2, hy, hy2, hz, by omega⟩ fun y hy => put_ne hy
    · walk_at "w"
      refine .seq (seqV_at hM) rfl ?_
      walk_at "w"
      refine .lst hM rfl ?_
      walk_at "w"
      refine i_fr ?_
      walk_at "w"
      refine .seq (seqV_at put_same) rfl ?_
      walk_at "w"
      obtain ⟨q, hq, q1, q2⟩ := five_at (i := (z + 1) % 5) (by omega) (by omega)
      refine .seq rfl hq ?_
      walk_at "w"
      refine .seq (seqV_at put_same) rfl ?_
      walk_at "w"
      refine .seq (seqV_at put_same) rfl ?_
      walk_at "w"
      have hz3 : z + 1 ≤ 100001 := by omega
      have hz4 : 0 ≤ z + 1 := by omega
      have t1 : 0 ≤ 121204 * (z + 1) * (z + 1) := Int.mul_nonneg (by omega) hz4
      have t2 : 121204 * (z + 1) * (z + 1) ≤ 12120521204 * 100001 := Int.mul_le_mul (by omega) hz3 hz4 (by decide)
      refine i_mul 64 64 (by omega) (by omega) ?_
      walk_at "w"
      refine .seq (seqV_at put_same) rfl ?_
      walk_at "w"
      refine i_mul 64 64 (by omega) (by omega) ?_
      walk_at "w"
      refine i_pow (n := 3) rfl (by decide) (by omega) ?_
      walk_at "w"
      refine .seq (seqV_at put_same) rfl ?_
      walk_at "w"
      obtain ⟨r, hr, r0, r1⟩ := mod_any (x := (y + 121204 * (z + 1) * (z + 1) + 4598) ^ ((3 : Nat) : Int).toNat) (N := q) (by omega)
      rw [hr]
      refine i_mul 64 64 (by omega) (by omega) ?_
      walk_at "w"
      refine i_mul 64 64 (by omega) (by omega) ?_
      walk_at "w"
      refine i_I (wide_div (b := 64) (by omega) (by omega) (by decide) (by decide)) ?_
      walk_at "w"
      generalize r * (r % 16814 + 2024 * (z + 1)) % 2305843009213693907 / 167 = e
      obtain ⟨k, hk, k0, k1⟩ := mod_any (x := e) (N := (upto : Int)) (by omega)
      rw [hk, ← Int.toNat_of_nonneg k0]
      exact h _ _ (by omega) ⟨_, _, _, put_same, hx, hx2, hy, hy2, by omega, by omega⟩ fun y hy => put_ne hy
abbrev s__law_of : Stmt := topS 67
theorem sc__law_of : FnScope ["pot", "some"] ["pot", "some"] (defScope s__law_of) := ⟨rfl, rfl, rfl, by decide +kernel, rfl, by decide +kernel, by decide +kernel⟩
theorem ok__law_of (T : Tx K mg cl) (F : FunD K "_law_of" "_law_of" (defArgs s__law_of) (defBody s__law_of) (defScope s__law_of) [] [] f fd) (hm : mg "_law_of" = some (.ref f)) (b : Binds K fd ["pot", "some"] []) (k__law_take : DCal P w K mg base cl 1 "_law_take" c__law_take) : DCal P w K mg base cl 2 "_law_of" c__law_of := by
  refine cal_D F hm b sc__law_of (fun ds M Φ h => ?_) (fun cdv A outer s H E hr => ⟨_, (dss_one (ds_ret (de_ix (hu_of hr) (dv 1) (de_call k__law_take hr (da_cons (dv 0) (da_cons (de_callB call_lenG cd_len boot_len T.b_len (da_cons (dv 1) da_nil)) da_nil)))))), fun ds M Φ h => ?_⟩)
  · obtain ⟨p, n, es, rfl, _⟩ := h
    rfl
  · obtain ⟨p, n, es, rfl, hp, h1, h2, hn, h⟩ := h
    walk_at "nv"
    walk_at "w"
    refine ⟨p, n, es.length, rfl, hp, h1, h2, hn, fun k M' hk hp' hf => ?_⟩
    refine .seq rfl (atI_nth (List.getElem?_eq_getElem hk)) ?_
    walk_at "w"
    exact h k _ M' (List.getElem?_eq_getElem hk) hp' hf
abbrev s__law_some : Stmt := topS 68
theorem sc__law_some : FnScope ["pot", "pool", "many", "rests", "found", "lap"] ["pot", "pool", "many"] (defScope s__law_some) := ⟨rfl, rfl, rfl, by decide +kernel, rfl, by decide +kernel, by decide +kernel⟩
theorem ok__law_some (T : Tx K mg cl) (F : FunD K "_law_some" "_law_some" (defArgs s__law_some) (defBody s__law_some) (defScope s__law_some) [] [] f fd) (hm : mg "_law_some" = some (.ref f)) (b : Binds K fd ["pot", "pool", "many"] []) (k__law_take : DCal P w K mg base cl 1 "_law_take" c__law_take) : DCal P w K mg base cl 2 "_law_some" c__law_some := by
  refine cal_D F hm b sc__law_some (fun ds M Φ h => ?_) (fun cdv A outer s H E hr => ⟨_, (dss_cons (ds_par (i := 3) (j := 4) rfl sc__law_some.nd rfl rfl (da_cons (de_callTy call_list_of cd_list boot_list T.b_list (da_cons (dv 1) da_nil)) (da_cons (de_lst da_nil) da_nil)))
    (dss_cons (ds_for PassesOwn.never rfl (di_rng1 T.b_range (da_cons (dv 2) da_nil)) (dt_name (i := 5) sc__law_some.nd rfl (by first | exact Or.inl rfl | exact Or.inr rfl))
    (dss_one (ds_expr (de_mtL PySem.F.slot_list_append PySem.F.type_list_append mt_append md_append (dv 4) (da_cons (de_mtL PySem.F.slot_list_pop PySem.F.type_list_pop mt_popAt md_popAt (dv 3) (da_cons (de_call k__law_take hr (da_cons (dv 0) (da_cons (de_callB call_lenG cd_len boot_len T.b_len (da_cons (dv 3) da_nil)) da_nil))) da_nil)) da_nil)))))
    (dss_one (ds_ret (dv 4))))), fun ds M Φ h => ?_⟩)
  · obtain ⟨p, n, es, many, rfl, _⟩ := h
    rfl
  · obtain ⟨p, n, es, many, rfl, hp, h1, h2, hn, h⟩ := h
    walk_at "nv"
    walk_at "w"
    refine ⟨_, _, rfl, rfl, ?_⟩
    refine i_new fun pr hr => ?_
    walk_at "w"
    refine i_new fun pf hf => ?_
    walk_at "w"
    obtain ⟨nf, hf⟩ := put_none.mp hf
    have n1 := hp.ne hr
    have n2 := hp.ne hf
    refine ⟨many, rfl, by omega, by omega, ?_⟩
    refine for_rng (n := many) (lo := 0) (fun i ρ' M' => ∃ x1 fs rs, ρ' = [some (Dat.v (V.ref p)), some (Dat.lst es), some (Dat.v (V.int ↑many)), some (.v (.ref pr)), some (.v (.ref pf)), x1] ∧ (fs ++ rs).Perm es ∧ fs.length = i ∧ M' pr = some (.lst rs) ∧ M' pf = some (.lst fs) ∧ PotAt M' p (n + i) ∧ ∀ y, y ≠ p → y ≠ pr → y ≠ pf → M' y = M y) ?_ ?_ ?_ ?_
    · exact ⟨_, [], es, rfl, .refl _, rfl, by rw [put_ne (Ne.symm nf)]; exact put_same, put_same, hp.same (by rw [put_ne n2, put_ne n1]), fun y h1 h2 h3 => by rw [put_ne h3, put_ne h2]⟩
    · intros; trivial
    · rintro i ρ' M1 hi ⟨x1, fs, rs, rfl, hperm, hl, k1, k2, k3, k4⟩
      have hlen := hperm.length_eq
      rw [List.length_append] at hlen
      walk_at "w"
      refine i_isL (lstV_at k2) ?_
      walk_at "w"
      refine i_isL (lstV_at k1) ?_
      walk_at "w"
      refine .seq (seqV_at k1) ?_
      walk_at "w"
      refine ⟨p, n + i, rs.length, rfl, k3, by omega, by omega, by omega, fun j M2 hj hp2 hb2 => ?_⟩
      walk_at "w"
      have e1 : M2 pr = some (.lst rs) := (hb2 pr (Ne.symm n1)).trans k1
      have e2 : M2 pf = some (.lst fs) := (hb2 pf (Ne.symm n2)).trans k2
      obtain ⟨e, he⟩ : ∃ e, rs[j]? = some e := ⟨_, List.getElem?_eq_getElem hj⟩
      refine ⟨pr, rs, j, j, e, rfl, e1, rfl, by omega, by omega, seqIx_nat hj, he, ?_⟩
      walk_at "w"
      refine i_append (by rw [put_ne nf]; exact e2) (by simp only [sizeLine]; omega) ?_
      walk_at "w"
      refine ⟨_, fs ++ [e], rs.eraseIdx j, rfl, perm_erase hperm he, by simp [hl], by rw [put_ne (Ne.symm nf)]; exact put_same, put_same, ?_, fun y h1 h2 h3 => by rw [put_ne h3, put_ne h2, hb2 y h1, k4 y h1 h2 h3]⟩
      rw [show n + (i + 1) = n + i + 1 by omega]
      exact hp2.same (by rw [put_ne n2, put_ne n1])
    · rintro ρ' M1 ⟨x1, fs, rs, rfl, hperm, hl, k1, k2, k3, k4⟩
      iterate 2 walk_at "d1"
      refine ⟨_, _, Fz.trans (Fz.lst k2) (Fz.le Mem.del_le), h fs rs ((M1.del pf).del pr) hperm hl (k3.same ?_) fun y hy => ?_⟩
      · rw [del_ne n1, del_ne n2]
      · by_cases h1 : y = pr
        · subst h1; rw [del_same, hr]
        · rw [del_ne h1]
          by_cases h2 : y = pf
          · subst h2; rw [del_same, hf]
          · rw [del_ne h2, k4 y hy h1 h2]
abbrev s__law_cells : Stmt := topS 69
theorem sc__law_cells : FnScope ["script", "most"] ["script", "most"] (defScope s__law_cells) := ⟨rfl, rfl, rfl, by decide +kernel, rfl, by decide +kernel, by decide +kernel⟩
theorem ok__law_cells (T : Tx K mg cl) (F : FunD K "_law_cells" "_law_cells" (defArgs s__law_cells) (defBody s__law_cells) (defScope s__law_cells) [] [] f fd) (hm : mg "_law_cells" = some (.ref f)) (b : Binds K fd ["script", "most"] []) : DCal P w K mg base cl 1 "_law_cells" (c__law_cells K cl) := by
  refine cal_D F hm b sc__law_cells (fun ds M Φ h => ?_) (fun cdv A outer s H E hr => ⟨_, (dss_one (ds_ret (de_listRg T.b_list T.b_range (de_callB (call_max2 rfl) cd_max boot_max T.b_max (da_cons de_int (da_cons (de_callB (call_min2 rfl) cd_min boot_min T.b_min (da_cons (dv 1) (da_cons (de_callB call_lenG cd_lenS boot_len T.b_len (da_cons (dv 0) da_nil)) da_nil))) da_nil)))))), fun ds M Φ h => ?_⟩)
  · obtain ⟨d, is, m, rfl, _⟩ := h
    rfl
  · obtain ⟨d, is, m, rfl, hs, h1, h2, h⟩ := h
    walk_at "nv"
    walk_at "w"
    refine ⟨d, is, rfl, hs, ?_⟩
    walk_at "w"
    refine ⟨(if (if (is.length : Int) < m then (is.length : Int) else m) > 1 then if (is.length : Int) < m then (is.length : Int) else m else 1).toNat, ?_, by omega, i_fr ?_⟩
    · rw [Int.toNat_of_nonneg (by omega)]
    · exact ⟨_, _, Fz.rfl, h _ (by omega) (by omega)⟩
abbrev s__law_is_int : Stmt := topS 70
theorem sc__law_is_int : FnScope ["given", "low", "high"] ["given", "low", "high"] (defScope s__law_is_int) := ⟨rfl, rfl, rfl, by decide +kernel, rfl, by decide +kernel, by decide +kernel⟩
theorem ok__law_is_int (T : Tx K mg cl) (F : FunD K "_law_is_int" "_law_is_int" (defArgs s__law_is_int) (defBody s__law_is_int) (defScope s__law_is_int) [] [] f fd) (hm : mg "_law_is_int" = some (.ref f)) (b : Binds K fd ["given", "low", "high"] []) : DCal P w K mg base cl 1 "_law_is_int" c__law_is_int := by
  refine cal_D F hm b sc__law_is_int (fun ds M Φ h => ?_) (fun cdv A outer s H E hr => ⟨_, (dss_one (ds_ret (de_and (de_callB (call_isiG (.type "int")) (cd_isi (c := (.ty "int"))) boot_isinstance T.b_isinstance (da_cons (dv 0) (da_cons (de_bltn (v := .ty "int") rfl T.b_int boot_int rfl) da_nil))) (de_and (de_not (de_callB (call_isiG (.type "bool")) (cd_isi (c := (.ty "bool"))) boot_isinstance T.b_isinstance (da_cons (dv 0) (da_cons (de_bltn (v := .ty "bool") rfl T.b_bool boot_bool rfl) da_nil)))) (de_one (de_chain op_le od_le op_le od_le (dv 1) (dv 0) (dv 2))))))), fun ds M Φ h => ?_⟩)
  · obtain ⟨i, lo, hi, rfl, _⟩ := h
    rfl
  · obtain ⟨i, lo, hi, rfl, h⟩ := h
    walk_at "nv"
    walk_at "w"
    rw [if_pos (by decide +kernel)]
    walk_at "w"
    refine i_ite (fun hb => ?_) (fun hb => ?_)
    all_goals walk_at "w"
    · rw [hb, Bool.true_and] at h
      exact h
    · rw [hb, Bool.false_and] at h
      exact h
end
end K51
set_option maxRecDepth 100000
set_option maxHeartbeats 4000000
namespace K51
open PySem PySem.Spec PyProof.Rows L2 SlX DL
local macro_rules | `(tactic| walk_at "ok") => `(tactic| first | assumption | (show PyData.strOk _ = true; decide +kernel))
local macro_rules | `(tactic| walk_at "z") => `(tactic| first | assumption | (simp only [List.length_cons, List.length_nil, List.length_map, List.length_append, sizeLine] at *; omega))
local macro_rules | `(tactic| walk_at "m") => `(tactic| first | assumption | rfl | exact put_same | (simp [Mem.put, *]; done) | (simp [Mem.put, lstV, seqV, objV, dicV, *]; done))
local macro_rules | `(tactic| walk_at "nv") => `(tactic| (try simp only [startD, wipeD, List.map_cons, List.map_nil, List.length_cons, List.length_nil, Nat.reduceAdd, Nat.reduceSub, List.reduceReplicate, List.append_nil, List.cons_append, List.nil_append, List.set_cons_zero, List.set_cons_succ]))
local macro_rules | `(tactic| walk_at "d1") => `(tactic| first
  | ((with_reducible refine i_varI ?_); refine i_var rfl ?_)
  | with_reducible refine i_c ?_
  | with_reducible refine i_op ?_
  | with_reducible refine i_test ?_
  | with_reducible refine i_chain ?_
  | with_reducible refine i_and ?_
  | with_reducible refine i_or ?_
  | with_reducible refine i_not ?_
  | with_reducible refine i_andV ?_
  | with_reducible refine i_orV ?_
  | with_reducible refine i_notV ?_
  | with_reducible refine i_if ?_
  | with_reducible refine i_nil ?_
  | with_reducible refine i_lzip ?_
  | with_reducible refine i_oint ?_
  | with_reducible refine i_ointB ?_
  | with_reducible refine i_mod (by omega) ?_
  | with_reducible refine i_lits ?_
  | with_reducible refine i_get2 ?_
  | with_reducible refine i_bits ?_
  | with_reducible refine i_lrg ?_
  | with_reducible refine i_disp ?_
  | with_reducible refine i_pnil ?_
  | with_reducible refine i_pcons ?_
  | with_reducible refine i_ndw ?_
  | with_reducible refine i_calk ?_
  | with_reducible refine i_enumT ?_
  | with_reducible refine i_zipT ?_
  | with_reducible refine i_cons ?_
  | with_reducible refine i_star ?_
  | with_reducible refine i_tup ?_
  | with_reducible refine i_lst ?_
  | with_reducible refine i_szA (by walk_at "z") ?_
  | with_reducible refine i_szB (by walk_at "z") ?_
  | with_reducible refine i_cal ?_
  | with_reducible refine i_mt ?_
  | with_reducible refine i_m1 ?_
  | with_reducible refine i_fld ?_
  | with_reducible refine i_sl ?_
  | with_reducible refine i_noP ?_
  | with_reducible refine i_part ?_
  | with_reducible refine i_neg ?_
  | with_reducible refine i_meth ?_
  | with_reducible refine i_make ?_
  | with_reducible refine i_pro ?_
  | with_reducible refine i_lc ?_
  | with_reducible refine i_yes ?_
  | with_reducible refine i_next ?_
  | with_reducible refine i_seq ?_
  | with_reducible refine i_ret ?_
  | with_reducible refine i_drop ?_
  | with_reducible refine i_ifS ?_
  | ((with_reducible refine i_gname ?_); walk_at "nv")
  | ((with_reducible refine i_gtupI ?_); refine i_gtup rfl rfl ?_)
  | with_reducible refine i_gnil ?_
  | with_reducible refine i_gcons ?_
  | with_reducible refine i_asg ?_
  | ((with_reducible refine i_par ?_); walk_at "nv")
  | ((with_reducible refine i_par3 ?_); walk_at "nv")
  | with_reducible refine i_gsub ?_
  | with_reducible refine i_gfld ?_
  | with_reducible refine i_for ?_
  | with_reducible refine i_it ?_
  | with_reducible refine i_rng1 ?_
  | with_reducible refine i_enum ?_
  | with_reducible refine i_bl ?_
  | with_reducible refine i_int ?_
  | with_reducible refine i_2 ?_
  | with_reducible refine i_3 ?_
  | with_reducible refine i_iteT ?_
  | with_reducible refine i_iteF ?_
  | with_reducible refine i_iteNT ?_
  | with_reducible refine i_iteNF ?_
  | with_reducible refine i_iteV ?_
  | with_reducible refine i_I0 ?_
  | with_reducible refine i_addI ?_
  | with_reducible refine i_lenSet ?_
  | ((with_reducible refine i_isI ?_); first | refine i_isNF rfl ?_ | refine i_isNT rfl ?_ | refine i_isN ?_)
  | ((with_reducible refine i_notI ?_); first | refine i_notNF rfl ?_ | refine i_notNT rfl ?_ | refine i_notN ?_)
  | with_reducible refine i_len_l ?_
  | with_reducible refine i_len_t ?_
  | ((with_reducible refine i_isiI ?_); refine i_isi rfl rfl ?_)
  | with_reducible refine i_len_s (by first | assumption | (simp only [sizeLine] at *; omega)) ?_
  | with_reducible refine i_it_l ?_
  | with_reducible refine i_it_t ?_
  | with_reducible refine i_it_s ?_
  | with_reducible refine i_tuple_l ?_
  | with_reducible refine i_tuple_t ?_
  | with_reducible refine i_isStr ?_
  | with_reducible refine i_fzR ?_
  | with_reducible refine i_sg ?_)
local macro_rules | `(tactic| walk_at "d") => `(tactic| ((walk_at "d1"); (repeat walk_at "d1")))
local macro_rules | `(tactic| walk_at "s") => `(tactic| (first | (walk_at "d1"; walk_at "s") | (with_reducible refine i_ite (fun hb => ?_) (fun hb => ?_) <;> walk_at "s") | skip))
local macro_rules | `(tactic| walk_at "d1") => `(tactic| first
  | with_reducible refine i_abs ?_
  | with_reducible refine i_min ?_
  | with_reducible refine i_max ?_
  | with_reducible refine i_slS ?_)
local macro_rules | `(tactic| walk_at "w") => `(tactic| (repeat walk_at "d1"))
local macro_rules | `(tactic| walk_at "v") => `(tactic| (repeat ((fail_if_success (with_reducible refine i_fzR ?_)); walk_at "d1")))
section
variable {P : Program} {w : World} {K : PySem.W.Frag} {mg : Str → Option Value} {base : Heap} {cl : Nat → Addr} {f : Addr} {fd : FuncData}
/-- names and their lists -/
def ansL (A : An) : List Dat := A.map fun q => .tup [.v (.str q.1), .lst (dSs q.2)]
/-- a law's own book: its foes, its answers -/
structure OwnD (M : Mem) (d : Dat) (F : List Str) (A : An) : Prop where
  ex : ∃ ks ds, dicV M d = some (ks, ds) ∧ dget ks ds (.inr ("foes" : Str)) = some (.lst (dSs F)) ∧ dget ks ds (.inr ("answers" : Str)) = some (.lst (ansL A))
structure LinD (M : Mem) (d : Dat) (L : An) : Prop where
  ex : ∃ ks ds, dicV M d = some (ks, ds) ∧ dget ks ds (.inr ("lines" : Str)) = some (.lst (ansL L))
theorem OwnD.foes {M : Mem} {d : Dat} {F : List Str} {A : An} {Φ : Dat → Mem → Prop} (h : OwnD M d F A) (k : Φ (.lst (dSs F)) M) : OIx d (.v (.str ("foes" : Str))) M Φ := by
  obtain ⟨ks, ds, h1, h2, h3⟩ := h
  exact .dic h1 rfl h2 k
theorem OwnD.answers {M : Mem} {d : Dat} {F : List Str} {A : An} {Φ : Dat → Mem → Prop} (h : OwnD M d F A) (k : Φ (.lst (ansL A)) M) : OIx d (.v (.str ("answers" : Str))) M Φ := by
  obtain ⟨ks, ds, h1, h2, h3⟩ := h
  exact .dic h1 rfl h3 k
theorem LinD.lines {M : Mem} {d : Dat} {L : An} {Φ : Dat → Mem → Prop} (h : LinD M d L) (k : Φ (.lst (ansL L)) M) : OIx d (.v (.str ("lines" : Str))) M Φ := by
  obtain ⟨ks, ds, h1, h2⟩ := h
  exact .dic h1 rfl h2 k
theorem dicV_le {M M' : Mem} {d : Dat} {x : List Key × List Dat} (le : M.le M') (h : dicV M d = some x) : dicV M' d = some x := by
  cases d with
  | v x =>
    cases x with
    | ref q =>
      unfold dicV at h ⊢
      simp only at h ⊢
      cases e : M q with
      | none => rw [e] at h; simp at h
      | some c => rw [e] at h; rw [le _ _ e]; exact h
    | _ => simp [dicV] at h
  | dic _ _ => exact h
  | _ => simp [dicV] at h
theorem OwnD.le {M M' : Mem} {d : Dat} {F : List Str} {A : An} (h : OwnD M d F A) (le : M.le M') : OwnD M' d F A := by
  obtain ⟨ks, ds, h1, h2⟩ := h
  exact ⟨ks, ds, dicV_le le h1, h2⟩
theorem LinD.le {M M' : Mem} {d : Dat} {L : An} (h : LinD M d L) (le : M.le M') : LinD M' d L := by
  obtain ⟨ks, ds, h1, h2⟩ := h
  exact ⟨ks, ds, dicV_le le h1, h2⟩
def c__law_book_names : DOs := fun ds M Φ => ∃ d F A, ds = [d] ∧ OwnD M d F A ∧ F.length ≤ 100 ∧ A.length ≤ 100 ∧ Φ (.lst (dSs (F ++ A.map (·.1)))) M
def c__law_book_rows : DOs := fun ds M Φ => ∃ n : Nat, ds = [.v (.int (n : Nat))] ∧ n ≤ 12 ∧ Φ (.lst (rowsD (rowsN n))) M
def c__law_book_settings : DOs := fun ds M Φ => ∃ d F A, ds = [d] ∧ OwnD M d F A ∧ F.length ≤ 12 ∧ Φ (.lst (rowsD (rowsN F.length))) M
def c__law_book_cells : DOs := fun ds M Φ => ∃ d F A, ds = [d] ∧ OwnD M d F A ∧ Good F A ∧ Φ (.lst (clsD (cellsN A))) M
def c__law_book_looks : DOs := fun ds M Φ => ∃ d F A q, ds = [d, .v (.str q.1)] ∧ OwnD M d F A ∧ Good F A ∧ q ∈ A ∧ Φ (.lst (dSs q.2)) M
def c__law_book_cell_at : DOs := fun ds M Φ => ∃ d F A q s, ds = [d, .v (.str q.1), .tup (dIs s)] ∧ OwnD M d F A ∧ Good F A ∧ q ∈ A ∧ s.length = F.length ∧ Φ (.tup [.v (.str q.1), .tup (dIs (seenN F q.2 s))]) M
theorem only_one {A : An} {F : List Str} {q : Str × List Str} (nd0 : (F ++ A.map (·.1)).Nodup) (hq : q ∈ A) : (A.filter fun a => decide (a.1 = q.1)) = [q] := by
  have nd := (List.nodup_append.mp nd0).2.1
  clear nd0
  induction A with
  | nil => cases hq
  | cons a A ih =>
    rw [List.map_cons] at nd
    obtain ⟨n1, n2⟩ := List.nodup_cons.mp nd
    rw [List.filter_cons]
    rcases List.mem_cons.mp hq with e | e
    · subst e
      rw [if_pos (by simp)]
      have : A.filter (fun a => decide (a.1 = q.1)) = [] := List.filter_eq_nil_iff.mpr fun a ha => by
        simpa using fun z => n1 (by rw [← z]; exact List.mem_map_of_mem ha)
      rw [this]
    · rw [if_neg (by simpa using fun z => n1 (by rw [z]; exact List.mem_map_of_mem e)), ih e n2]
abbrev s__law_book_names : Stmt := topS 71
theorem sc__law_book_names : FnScope ["own", "name", "looks"] ["own"] (defScope s__law_book_names) := ⟨rfl, rfl, rfl, by decide +kernel, rfl, by decide +kernel, by decide +kernel⟩
theorem ok__law_book_names (T : Tx K mg cl) (F : FunD K "_law_book_names" "_law_book_names" (defArgs s__law_book_names) (defBody s__law_book_names) (defScope s__law_book_names) [] [] f fd) (hm : mg "_law_book_names" = some (.ref f)) (b : Binds K fd ["own"] []) : DCal P w K mg base cl 1 "_law_book_names" c__law_book_names := by
  refine cal_D F hm b sc__law_book_names (fun ds M Φ h => ?_) (fun cdv A outer s H E hr => ⟨_, (dss_one (ds_ret (de_op op_addG od_add (de_callTy call_list_of cd_list boot_list T.b_list (da_cons (de_ix (hu_of hr) (dv 0) de_str) da_nil)) (de_lc (own := [("name", 1), ("looks", 2)]) rfl sc__law_book_names.nd (di_any (de_ix (hu_of hr) (dv 0) de_str)) (blkOk_by (by rfl)) ⟨_, fun _ _ _ _ _ => (PG.or (pg_tup (n := 2) rfl (pgs_cons (pg_name (i := 1) sc__law_book_names.nd rfl (by first | exact Or.inl rfl | exact Or.inr rfl)) (pgs_cons (pg_name (i := 2) sc__law_book_names.nd rfl (by first | exact Or.inl rfl | exact Or.inr rfl)) pgs_nil))) (pg_lst (n := 2) rfl (pgs_cons (pg_name (i := 1) sc__law_book_names.nd rfl (by first | exact Or.inl rfl | exact Or.inr rfl)) (pgs_cons (pg_name (i := 2) sc__law_book_names.nd rfl (by first | exact Or.inl rfl | exact Or.inr rfl)) pgs_nil)))), (gc_tup (gcs_cons (gc_name (by decide)) (gcs_cons (gc_name (by decide)) gcs_nil)))⟩ (fun _ _ _ _ _ => dtt_nil) (fun _ _ _ _ _ => (dv 1)))))), fun ds M Φ h => ?_⟩)
  · obtain ⟨d, F, A, rfl, _⟩ := h
    rfl
  · obtain ⟨d, F, A, rfl, o, hF, hA, h⟩ := h
    walk_at "nv"
    walk_at "w"
    refine o.foes ?_
    walk_at "w"
    refine ⟨_, _, rfl, rfl, i_fr ?_⟩
    walk_at "w"
    refine o.answers ?_
    walk_at "w"
    refine lc_map A (fun q => Dat.tup [.v (.str q.1), .lst (dSs q.2)]) (fun q => .v (.str q.1)) trivial (by simp only [sizeLine]; omega) ?_ ?_
    · intro q hq T1 k
      walk_at "nv"
      walk_at "w"
      exact k
    · refine i_fr ?_
      refine OAdd.l (by simp [sizeLine]; omega) ?_
      walk_at "w"
      rw [dSs, List.map_append, List.map_map] at h
      exact h
abbrev s__law_book_rows : Stmt := topS 72
theorem sc__law_book_rows : FnScope ["many", "found", "lap", "row"] ["many"] (defScope s__law_book_rows) := ⟨rfl, rfl, rfl, by decide +kernel, rfl, by decide +kernel, by decide +kernel⟩
theorem ok__law_book_rows (T : Tx K mg cl) (F : FunD K "_law_book_rows" "_law_book_rows" (defArgs s__law_book_rows) (defBody s__law_book_rows) (defScope s__law_book_rows) [] [] f fd) (hm : mg "_law_book_rows" = some (.ref f)) (b : Binds K fd ["many"] []) : DCal P w K mg base cl 1 "_law_book_rows" c__law_book_rows := by
  refine cal_D F hm b sc__law_book_rows (fun ds M Φ h => ?_) (fun cdv A outer s H E hr => ⟨_, (dss_cons (ds_set (i := 1) sc__law_book_rows.nd rfl (by first | exact Or.inl rfl | exact Or.inr rfl) (de_lst (da_cons (de_tup da_nil) da_nil)))
    (dss_cons (ds_for PassesOwn.never rfl (di_rng1 T.b_range (da_cons (dv 0) da_nil)) (dt_name (i := 2) sc__law_book_rows.nd rfl (by first | exact Or.inl rfl | exact Or.inr rfl))
    (dss_one (ds_set (i := 1) sc__law_book_rows.nd rfl (by first | exact Or.inl rfl | exact Or.inr rfl) (de_op op_addG od_add (de_lc (own := [("row", 3)]) rfl sc__law_book_rows.nd (di_any (dv 1)) (blkOk_by (by rfl)) ⟨_, fun _ _ _ _ _ => (pg_name (i := 3) sc__law_book_rows.nd rfl (by first | exact Or.inl rfl | exact Or.inr rfl)), (gc_name (by decide))⟩ (fun _ _ _ _ _ => dtt_nil) (fun _ _ _ _ _ => (de_op op_addG od_add (dv 3) (de_tup (da_cons de_int da_nil))))) (de_lc (own := [("row", 3)]) rfl sc__law_book_rows.nd (di_any (dv 1)) (blkOk_by (by rfl)) ⟨_, fun _ _ _ _ _ => (pg_name (i := 3) sc__law_book_rows.nd rfl (by first | exact Or.inl rfl | exact Or.inr rfl)), (gc_name (by decide))⟩ (fun _ _ _ _ _ => dtt_nil) (fun _ _ _ _ _ => (de_op op_addG od_add (dv 3) (de_tup (da_cons de_int da_nil)))))))))
    (dss_one (ds_ret (de_callB DL.cr_sortedT cd_sortedT PyProof.Rows.boot_sorted T.b_sorted (da_cons (dv 1) da_nil)))))), fun ds M Φ h => ?_⟩)
  · obtain ⟨n, rfl, _⟩ := h
    rfl
  · obtain ⟨n, rfl, hn, h⟩ := h
    walk_at "nv"
    walk_at "w"
    refine i_fr ?_
    walk_at "w"
    refine ⟨n, rfl, by omega, by omega, ?_⟩
    rw [Int.toNat_natCast]
    refine for_rng (fun i ρ' M' => M' = M ∧ i ≤ n ∧ ∃ x y, ρ' = [some (.v (.int n)), some (.lst (rowsD (rowsS i))), x, y]) ⟨rfl, Nat.zero_le _, _, _, rfl⟩ (fun _ _ _ _ => trivial) ?_ ?_
    · rintro i ρ' M' hi ⟨rfl, _, x, y, rfl⟩
      have hp := pow_small (n := i) (by omega)
      have hl := rowsS_len i
      walk_at "w"
      refine lc_map (rowsS i) (fun r => .tup (dIs r)) (fun r => .tup (dIs (r ++ [0]))) trivial (by simp only [sizeLine]; omega) ?_ ?_
      · intro r hr T1 k
        have := (rowsS_iff.mp hr).1
        walk_at "nv"
        walk_at "w"
        refine .tup (by simp [sizeLine]; omega) ?_
        walk_at "w"
        rw [dIs, List.map_append] at k
        exact k
      · refine i_fr ?_
        walk_at "w"
        refine lc_map (rowsS i) (fun r => .tup (dIs r)) (fun r => .tup (dIs (r ++ [1]))) trivial (by simp only [sizeLine]; omega) ?_ ?_
        · intro r hr T1 k
          have := (rowsS_iff.mp hr).1
          walk_at "nv"
          walk_at "w"
          refine .tup (by simp [sizeLine]; omega) ?_
          walk_at "w"
          rw [dIs, List.map_append] at k
          exact k
        · refine i_fr ?_
          refine OAdd.l (by simp [sizeLine]; omega) ?_
          walk_at "w"
          refine ⟨trivial, by omega, some (.v (.int (0 + (i : Nat)))), y, ?_⟩
          simp [rowsD, rowsS, Function.comp_def]
    · rintro ρ' M' ⟨rfl, _, x, y, rfl⟩
      walk_at "w"
      refine ⟨_, rowsS n, n, 2, rfl, rfl, ?_, fun r hr => ⟨(rowsS_iff.mp hr).1, bits_bd (rowsS_iff.mp hr).2⟩, fun rs hp hs => ?_⟩
      · cases n with
        | zero => right; decide
        | succ n => left; omega
      · rw [rows_sort hp hs]
        refine i_fr ?_
        walk_at "w"
        exact h
abbrev s__law_book_settings : Stmt := topS 73
theorem sc__law_book_settings : FnScope ["own"] ["own"] (defScope s__law_book_settings) := ⟨rfl, rfl, rfl, by decide +kernel, rfl, by decide +kernel, by decide +kernel⟩
theorem ok__law_book_settings (T : Tx K mg cl) (F : FunD K "_law_book_settings" "_law_book_settings" (defArgs s__law_book_settings) (defBody s__law_book_settings) (defScope s__law_book_settings) [] [] f fd) (hm : mg "_law_book_settings" = some (.ref f)) (b : Binds K fd ["own"] []) (k__law_book_rows : DCal P w K mg base cl 1 "_law_book_rows" c__law_book_rows) : DCal P w K mg base cl 2 "_law_book_settings" c__law_book_settings := by
  refine cal_D F hm b sc__law_book_settings (fun ds M Φ h => ?_) (fun cdv A outer s H E hr => ⟨_, (dss_one (ds_ret (de_call k__law_book_rows hr (da_cons (de_callB call_lenG cd_len boot_len T.b_len (da_cons (de_ix (hu_of hr) (dv 0) de_str) da_nil)) da_nil)))), fun ds M Φ h => ?_⟩)
  · obtain ⟨d, F, A, rfl, _⟩ := h
    rfl
  · obtain ⟨d, F, A, rfl, o, hF, h⟩ := h
    walk_at "nv"
    walk_at "w"
    refine o.foes ?_
    walk_at "w"
    refine ⟨F.length, by simp, hF, ?_⟩
    walk_at "w"
    exact h
abbrev s__law_book_cells : Stmt := topS 74
theorem sc__law_book_cells : FnScope ["own", "found", "name", "looks", "row"] ["own"] (defScope s__law_book_cells) := ⟨rfl, rfl, rfl, by decide +kernel, rfl, by decide +kernel, by decide +kernel⟩
theorem ok__law_book_cells (T : Tx K mg cl) (F : FunD K "_law_book_cells" "_law_book_cells" (defArgs s__law_book_cells) (defBody s__law_book_cells) (defScope s__law_book_cells) [] [] f fd) (hm : mg "_law_book_cells" = some (.ref f)) (b : Binds K fd ["own"] []) (k__law_book_rows : DCal P w K mg base cl 1 "_law_book_rows" c__law_book_rows) : DCal P w K mg base cl 2 "_law_book_cells" c__law_book_cells := by
  refine cal_D F hm b sc__law_book_cells (fun ds M Φ h => ?_) (fun cdv A outer s H E hr => ⟨_, (dss_cons (ds_set (i := 1) sc__law_book_cells.nd rfl (by first | exact Or.inl rfl | exact Or.inr rfl) (de_lst da_nil))
    (dss_cons (ds_for PassesOwn.never rfl (di_any (de_ix (hu_of hr) (dv 0) de_str)) (dt_tup rfl (gds_cons (dt_name (i := 2) sc__law_book_cells.nd rfl (by first | exact Or.inl rfl | exact Or.inr rfl)) (gds_cons (dt_name (i := 3) sc__law_book_cells.nd rfl (by first | exact Or.inl rfl | exact Or.inr rfl)) gds_nil)))
    (dss_one (ds_expr (de_mtL PySem.F.slot_list_extend PySem.F.type_list_extend mt_extend md_extend (dv 1) (da_cons (de_lc (own := [("row", 4)]) rfl sc__law_book_cells.nd (di_any (de_call k__law_book_rows hr (da_cons (de_callB call_lenG cd_len boot_len T.b_len (da_cons (dv 3) da_nil)) da_nil))) (blkOk_by (by rfl)) ⟨_, fun _ _ _ _ _ => (pg_name (i := 4) sc__law_book_cells.nd rfl (by first | exact Or.inl rfl | exact Or.inr rfl)), (gc_name (by decide))⟩ (fun _ _ _ _ _ => dtt_nil) (fun _ _ _ _ _ => (de_tup (da_cons (dv 2) (da_cons (dv 4) da_nil))))) da_nil)))))
    (dss_one (ds_ret (dv 1))))), fun ds M Φ h => ?_⟩)
  · obtain ⟨d, F, A, rfl, _⟩ := h
    rfl
  · obtain ⟨d, F, A, rfl, o, g, h⟩ := h
    have := g.a6
    walk_at "nv"
    walk_at "w"
    refine i_new fun p hp => ?_
    walk_at "w"
    refine (o.le (le_put (Mem.le_refl M) hp)).answers ?_
    walk_at "w"
    refine for_list A (fun q => Dat.tup [.v (.str q.1), .lst (dSs q.2)]) (fun i ρ' M' => ∃ x y z, ρ' = [some d, some (.v (.ref p)), x, y, z] ∧ M' = M.put p (.lst (clsD (cellsN (A.take i))))) ⟨_, _, _, rfl, rfl⟩ (fun _ _ _ _ => trivial) ?_ ?_
    · rintro i q ρ' M' hq ⟨x, y, z, rfl, rfl⟩
      have hq' : q ∈ A := List.mem_of_getElem? hq
      have hi : i < A.length := (List.getElem?_eq_some_iff.mp hq).1
      have hql := g.lenL hq'
      have hz : (clsD (cellsN (A.take i))).length ≤ 64 * 6 := by
        have h2 := cellsN_len (A := A.take i) (fun q' h' => g.lenL (List.mem_of_mem_take h'))
        simp only [clsD, List.length_map]
        have : (A.take i).length ≤ 6 := by simp; omega
        omega
      have hp := pow_small (n := q.2.length) (by omega)
      have hl := rowsN_len q.2.length
      have hl6 : 2 ^ q.2.length ≤ 64 := Nat.le_trans (Nat.pow_le_pow_right (by decide) hql) (by decide)
      walk_at "w"
      refine i_isL (lstV_at put_same) ?_
      walk_at "w"
      refine ⟨q.2.length, by simp, by omega, ?_⟩
      walk_at "w"
      refine lc_map (rowsN q.2.length) (fun r => .tup (dIs r)) (fun r => .tup [.v (.str q.1), .tup (dIs r)]) trivial (by simp only [sizeLine]; omega) ?_ ?_
      · intro r hr T1 k
        walk_at "nv"
        walk_at "w"
        exact k
      · refine i_fr ?_
        walk_at "w"
        refine i_extend (fs := (rowsN q.2.length).map fun r => Dat.tup [.v (.str q.1), .tup (dIs r)]) put_same ?_ ?_ ?_
        · rfl
        · simp only [List.length_map, sizeLine] at hz ⊢; omega
        walk_at "w"
        refine ⟨_, _, _, rfl, ?_⟩
        rw [put_put, take_snoc hq]
        simp [cellsN, clsD, Function.comp_def]
    · rintro ρ' M' ⟨x, y, z, rfl, rfl⟩
      rw [List.take_of_length_le (Nat.le_refl _)]
      iterate 2 walk_at "d1"
      exact ⟨_, _, Fz.lst put_same, by rw [del_put hp]; exact h⟩
abbrev s__law_book_looks : Stmt := topS 75
theorem sc__law_book_looks : FnScope ["own", "answer", "name", "looks"] ["own", "answer"] (defScope s__law_book_looks) := ⟨rfl, rfl, rfl, by decide +kernel, rfl, by decide +kernel, by decide +kernel⟩
theorem ok__law_book_looks (T : Tx K mg cl) (F : FunD K "_law_book_looks" "_law_book_looks" (defArgs s__law_book_looks) (defBody s__law_book_looks) (defScope s__law_book_looks) [] [] f fd) (hm : mg "_law_book_looks" = some (.ref f)) (b : Binds K fd ["own", "answer"] []) : DCal P w K mg base cl 1 "_law_book_looks" c__law_book_looks := by
  refine cal_D F hm b sc__law_book_looks (fun ds M Φ h => ?_) (fun cdv A outer s H E hr => ⟨_, (dss_one (ds_ret (de_ix (hu_of hr) (de_lc (own := [("name", 2), ("looks", 3)]) rfl sc__law_book_looks.nd (di_any (de_ix (hu_of hr) (dv 0) de_str)) (blkOk_by (by rfl)) ⟨_, fun _ _ _ _ _ => (PG.or (pg_tup (n := 2) rfl (pgs_cons (pg_name (i := 2) sc__law_book_looks.nd rfl (by first | exact Or.inl rfl | exact Or.inr rfl)) (pgs_cons (pg_name (i := 3) sc__law_book_looks.nd rfl (by first | exact Or.inl rfl | exact Or.inr rfl)) pgs_nil))) (pg_lst (n := 2) rfl (pgs_cons (pg_name (i := 2) sc__law_book_looks.nd rfl (by first | exact Or.inl rfl | exact Or.inr rfl)) (pgs_cons (pg_name (i := 3) sc__law_book_looks.nd rfl (by first | exact Or.inl rfl | exact Or.inr rfl)) pgs_nil)))), (gc_tup (gcs_cons (gc_name (by decide)) (gcs_cons (gc_name (by decide)) gcs_nil)))⟩ (fun _ _ _ _ _ => (dtt_one (dt_cmp (op_eqD hr.units) od_eq (nomark _) (dv 2) (dv 1)))) (fun _ _ _ _ _ => (dv 3))) de_int))), fun ds M Φ h => ?_⟩)
  · obtain ⟨d, F, A, q, rfl, _⟩ := h
    rfl
  · obtain ⟨d, F, A, q, rfl, o, g, hq, h⟩ := h
    walk_at "nv"
    walk_at "w"
    refine o.answers ?_
    walk_at "w"
    have := g.a6
    refine lc_pure A (fun q => Dat.tup [.v (.str q.1), .lst (dSs q.2)]) (fun a => decide (a.1 = q.1)) (fun a => .lst (dSs a.2)) trivial (by simp only [sizeLine]; omega) ?_ ?_
    · intro a ha T1 T0 k1 k0
      walk_at "nv"
      walk_at "w"
      refine i_eqS (okS_name (g.ans ha)) (okS_name (g.ans hq)) (b0 := decide (a.1 = q.1)) rfl ?_
      refine i_bl (i_ite (fun hb => ?_) (fun hb => ?_))
      · walk_at "w"
        exact k1 hb
      · exact k0 hb
    · refine i_fr ?_
      walk_at "w"
      rw [only_one g.nodup hq]
      refine .seq rfl atI0 ?_
      walk_at "w"
      exact h
abbrev s__law_book_cell_at : Stmt := topS 76
theorem sc__law_book_cell_at : FnScope ["own", "answer", "setting", "table", "foe"] ["own", "answer", "setting"] (defScope s__law_book_cell_at) := ⟨rfl, rfl, rfl, by decide +kernel, rfl, by decide +kernel, by decide +kernel⟩
theorem ok__law_book_cell_at (T : Tx K mg cl) (F : FunD K "_law_book_cell_at" "_law_book_cell_at" (defArgs s__law_book_cell_at) (defBody s__law_book_cell_at) (defScope s__law_book_cell_at) [] [] f fd) (hm : mg "_law_book_cell_at" = some (.ref f)) (b : Binds K fd ["own", "answer", "setting"] []) (k__law_book_looks : DCal P w K mg base cl 1 "_law_book_looks" c__law_book_looks) : DCal P w K mg base cl 2 "_law_book_cell_at" c__law_book_cell_at := by
  refine cal_D F hm b sc__law_book_cell_at (fun ds M Φ h => ?_) (fun cdv A outer s H E hr => ⟨_, (dss_cons (ds_set (i := 3) sc__law_book_cell_at.nd rfl (by first | exact Or.inl rfl | exact Or.inr rfl) (de_callTy (call_dictP rfl) cd_dictP boot_dict T.b_dict (da_cons (de_listZip T.b_list T.b_zip (da_cons (de_ix (hu_of hr) (dv 0) de_str) (da_cons (dv 2) da_nil))) da_nil)))
    (dss_one (ds_ret (de_tup (da_cons (dv 1) (da_cons (de_callTy call_tuple_of cd_tuple boot_tuple T.b_tuple (da_cons (de_lc (own := [("foe", 4)]) rfl sc__law_book_cell_at.nd (di_any (de_call k__law_book_looks hr (da_cons (dv 0) (da_cons (dv 1) da_nil)))) (blkOk_by (by rfl)) ⟨_, fun _ _ _ _ _ => (pg_name (i := 4) sc__law_book_cell_at.nd rfl (by first | exact Or.inl rfl | exact Or.inr rfl)), (gc_name (by decide))⟩ (fun _ _ _ _ _ => dtt_nil) (fun _ _ _ _ _ => (de_ix (hu_of hr) (dv 3) (dv 4)))) da_nil)) da_nil)))))), fun ds M Φ h => ?_⟩)
  · obtain ⟨d, F, A, q, s, rfl, _⟩ := h
    rfl
  · obtain ⟨d, F, A, q, s, rfl, o, g, hq, hs, h⟩ := h
    walk_at "nv"
    walk_at "w"
    refine o.foes ?_
    walk_at "w"
    have := g.f6
    refine ⟨_, _, _, _, rfl, rfl, rfl, by simp [hs], by simp only [sizeLine, List.length_map]; omega, ?_⟩
    walk_at "w"
    refine ⟨_, _, _, rfl, congrArg some (foe_pair F s), by simp [hs], foe_keys g, ?_⟩
    refine i_frD ?_
    walk_at "w"
    refine ⟨d, F, A, q, rfl, o, g, hq, ?_⟩
    walk_at "w"
    refine lc_map q.2 (fun w => Dat.v (.str w)) (fun w => .v (.int (valN F s w))) trivial (by have := g.lenL hq; simp only [sizeLine]; omega) ?_ ?_
    · intro v hv T1 k
      walk_at "nv"
      walk_at "w"
      refine .dic rfl rfl ((dget_zip hs.symm).trans (if_pos (g.sub hq v hv))) ?_
      exact k
    · refine i_fr ?_
      walk_at "w"
      have e : seenN F q.2 s = q.2.map (valN F s) := by
        rw [seen_map (List.nodup_append.mp g.nodup).1 hs, ← g.looks q hq]
      rw [e, dIs, List.map_map] at h
      exact h
end
end K51
set_option maxRecDepth 100000
set_option maxHeartbeats 4000000
namespace K51
open PySem PySem.Spec PyProof.Rows L2 SlX DL
local macro_rules | `(tactic| walk_at "ok") => `(tactic| first | assumption | (show PyData.strOk _ = true; decide +kernel))
local macro_rules | `(tactic| walk_at "z") => `(tactic| first | assumption | (simp only [List.length_cons, List.length_nil, List.length_map, List.length_append, sizeLine] at *; omega))
local macro_rules | `(tactic| walk_at "m") => `(tactic| first | assumption | rfl | exact put_same | (simp [Mem.put, *]; done) | (simp [Mem.put, lstV, seqV, objV, dicV, *]; done))
local macro_rules | `(tactic| walk_at "nv") => `(tactic| (try simp only [startD, wipeD, List.map_cons, List.map_nil, List.length_cons, List.length_nil, Nat.reduceAdd, Nat.reduceSub, List.reduceReplicate, List.append_nil, List.cons_append, List.nil_append, List.set_cons_zero, List.set_cons_succ]))
local macro_rules | `(tactic| walk_at "d1") => `(tactic| first
  | ((with_reducible refine i_varI ?_); refine i_var rfl ?_)
  | with_reducible refine i_c ?_
  | with_reducible refine i_op ?_
  | with_reducible refine i_test ?_
  | with_reducible refine i_chain ?_
  | with_reducible refine i_and ?_
  | with_reducible refine i_or ?_
  | with_reducible refine i_not ?_
  | with_reducible refine i_andV ?_
  | with_reducible refine i_orV ?_
  | with_reducible refine i_notV ?_
  | with_reducible refine i_if ?_
  | with_reducible refine i_nil ?_
  | with_reducible refine i_lzip ?_
  | with_reducible refine i_oint ?_
  | with_reducible refine i_ointB ?_
  | with_reducible refine i_mod (by omega) ?_
  | with_reducible refine i_lits ?_
  | with_reducible refine i_get2 ?_
  | with_reducible refine i_bits ?_
  | with_reducible refine i_lrg ?_
  | with_reducible refine i_disp ?_
  | with_reducible refine i_pnil ?_
  | with_reducible refine i_pcons ?_
  | with_reducible refine i_ndw ?_
  | with_reducible refine i_calk ?_
  | with_reducible refine i_enumT ?_
  | with_reducible refine i_zipT ?_
  | with_reducible refine i_cons ?_
  | with_reducible refine i_star ?_
  | with_reducible refine i_tup ?_
  | with_reducible refine i_lst ?_
  | with_reducible refine i_szA (by walk_at "z") ?_
  | with_reducible refine i_szB (by walk_at "z") ?_
  | with_reducible refine i_cal ?_
  | with_reducible refine i_mt ?_
  | with_reducible refine i_m1 ?_
  | with_reducible refine i_fld ?_
  | with_reducible refine i_sl ?_
  | with_reducible refine i_noP ?_
  | with_reducible refine i_part ?_
  | with_reducible refine i_neg ?_
  | with_reducible refine i_meth ?_
  | with_reducible refine i_make ?_
  | with_reducible refine i_pro ?_
  | with_reducible refine i_lc ?_
  | with_reducible refine i_yes ?_
  | with_reducible refine i_next ?_
  | with_reducible refine i_seq ?_
  | with_reducible refine i_ret ?_
  | with_reducible refine i_drop ?_
  | with_reducible refine i_ifS ?_
  | ((with_reducible refine i_gname ?_); walk_at "nv")
  | ((with_reducible refine i_gtupI ?_); refine i_gtup rfl rfl ?_)
  | with_reducible refine i_gnil ?_
  | with_reducible refine i_gcons ?_
  | with_reducible refine i_asg ?_
  | ((with_reducible refine i_par ?_); walk_at "nv")
  | ((with_reducible refine i_par3 ?_); walk_at "nv")
  | with_reducible refine i_gsub ?_
  | with_reducible refine i_gfld ?_
  | with_reducible refine i_for ?_
  | with_reducible refine i_it ?_
  | with_reducible refine i_rng1 ?_
  | with_reducible refine i_enum ?_
  | with_reducible refine i_bl ?_
  | with_reducible refine i_int ?_
  | with_reducible refine i_2 ?_
  | with_reducible refine i_3 ?_
  | with_reducible refine i_iteT ?_
  | with_reducible refine i_iteF ?_
  | with_reducible refine i_iteNT ?_
  | with_reducible refine i_iteNF ?_
  | with_reducible refine i_iteV ?_
  | with_reducible refine i_I0 ?_
  | with_reducible refine i_addI ?_
  | with_reducible refine i_lenSet ?_
  | ((with_reducible refine i_isI ?_); first | refine i_isNF rfl ?_ | refine i_isNT rfl ?_ | refine i_isN ?_)
  | ((with_reducible refine i_notI ?_); first | refine i_notNF rfl ?_ | refine i_notNT rfl ?_ | refine i_notN ?_)
  | with_reducible refine i_len_l ?_
  | with_reducible refine i_len_t ?_
  | ((with_reducible refine i_isiI ?_); refine i_isi rfl rfl ?_)
  | with_reducible refine i_len_s (by first | assumption | (simp only [sizeLine] at *; omega)) ?_
  | with_reducible refine i_it_l ?_
  | with_reducible refine i_it_t ?_
  | with_reducible refine i_it_s ?_
  | with_reducible refine i_tuple_l ?_
  | with_reducible refine i_tuple_t ?_
  | with_reducible refine i_isStr ?_
  | with_reducible refine i_fzR ?_
  | with_reducible refine i_sg ?_)
local macro_rules | `(tactic| walk_at "d") => `(tactic| ((walk_at "d1"); (repeat walk_at "d1")))
local macro_rules | `(tactic| walk_at "s") => `(tactic| (first | (walk_at "d1"; walk_at "s") | (with_reducible refine i_ite (fun hb => ?_) (fun hb => ?_) <;> walk_at "s") | skip))
local macro_rules | `(tactic| walk_at "d1") => `(tactic| first
  | with_reducible refine i_abs ?_
  | with_reducible refine i_min ?_
  | with_reducible refine i_max ?_
  | with_reducible refine i_slS ?_)
local macro_rules | `(tactic| walk_at "w") => `(tactic| (repeat walk_at "d1"))
local macro_rules | `(tactic| walk_at "v") => `(tactic| (repeat ((fail_if_success (with_reducible refine i_fzR ?_)); walk_at "d1")))
section
variable {P : Program} {w : World} {K : PySem.W.Frag} {mg : Str → Option Value} {base : Heap} {cl : Nat → Addr} {f : Addr} {fd : FuncData}
abbrev dNs (ns : List Nat) : List Dat := ns.map fun n => .v (.int (n : Nat))
def c__law_par_text : DOs := fun ds M Φ => ∃ d F A L, ds = [d] ∧ OwnD M d F A ∧ LinD M d L ∧ Good F A ∧ GoodL F A L ∧ Φ (.v (.str (textOf (parRows F A L)))) M
def c__law_par_written : DOs := fun ds M Φ => ∃ d F A L, ∃ s : List Int, ∃ n : Nat, ∃ q, ds = [d, .tup (dIs s), .v (.int (n : Nat))] ∧ OwnD M d F A ∧ LinD M d L ∧ Good F A ∧ GoodL F A L ∧ s ∈ rowsN F.length ∧ L[n]? = some q ∧ Φ (.tup [.lst (dNs (lnN F A s q)), .v (.int (oddN F s q))]) M
def lnD (p : List Nat × Int) : Dat := .tup [.lst (dNs p.1), .v (.int p.2)]
def c__law_par_rows : DOs := fun ds M Φ => ∃ d F A L, ds = [d] ∧ OwnD M d F A ∧ LinD M d L ∧ Good F A ∧ GoodL F A L ∧ Φ (.lst ((rowsLn F A L).map lnD)) M
def c__law_par_added : DOs := fun ds M Φ => ∃ a b : List Nat, ds = [.lst (dNs a), .lst (dNs b)] ∧ a.length ≤ 1000 ∧ b.length ≤ 1000 ∧ Φ (.lst (dNs (addN a b))) M
def fstD (fs : El2) : Dat := .dic (fs.map fun e => (.inl (e.1 : Int) : Key)) (fs.map fun e => lnD e.2)
def c__law_par_many : DOs := fun ds M Φ => ∃ d F A L, ds = [d] ∧ OwnD M d F A ∧ LinD M d L ∧ Good F A ∧ GoodL F A L ∧ Φ (.v (.int (numN F A L : Nat))) M
def c__law_plan_all : DOs := fun ds M Φ => ∃ d F A, ds = [d] ∧ OwnD M d F A ∧ Good F A ∧ (cellsN A).length ≤ 12 ∧ Φ (.lst (rowsD (rowsN (cellsN A).length))) M
theorem foe_line (v : Str) : ("foe " : Str) ++ v = lineOf [("foe" : Str), v] := by
  refine TL.ext_tl ?_
  unfold lineOf
  rw [TL.join_eq, TL.tl_join, TL.tl_append]
  show _ = TL.tl ("foe" : Str) ++ (TL.tl (" " : Str) ++ TL.tl v)
  rw [← List.append_assoc]
  congr 1
theorem wd_line {F : List Str} {A L : An} (g : Good F A) (gl : GoodL F A L) {q : Str × List Str} (hq : q ∈ L) : ∀ w ∈ q.1 :: q.2, Wd w := fun w hw => by
  rcases List.mem_cons.mp hw with e | e
  · rw [e]
    rcases List.mem_cons.mp (gl.w q hq) with e | e
    · rw [e]; exact wd_even
    · rw [List.mem_singleton.mp e]; exact wd_odd
  · exact wd_name (g.names w (gl.s q hq w e))
theorem par_rows_wd {F : List Str} {A L : An} (g : Good F A) (gl : GoodL F A L) : ∀ r ∈ parRows F A L, r ≠ [] ∧ (∀ w ∈ r, Wd w) ∧ r.length ≤ 20 := fun r hr => by
  unfold parRows at hr
  rcases List.mem_cons.mp hr with rfl | hr
  · exact ⟨by simp, fun w hw => by rw [List.mem_singleton.mp hw]; exact wd_parities, by simp⟩
  · rcases List.mem_append.mp hr with hr | hr
    · exact g.rows r hr
    · obtain ⟨q, hq, rfl⟩ := List.mem_map.mp hr
      exact ⟨by simp, wd_line g gl hq, by have := gl.l q hq; simp; omega⟩
theorem parTxt {F : List Str} {A L : An} (g : Good F A) (gl : GoodL F A L) : ParTxt (textOf (parRows F A L)) F A L := by
  refine ⟨rdTxt (by simp [parRows]) (par_rows_wd g gl) ?_, g, gl⟩
  · have := g.f6
    have := g.a6
    have := gl.n
    simp [parRows, headRows, lineRows]
    omega
theorem cells_ok {F : List Str} {A : An} (g : Good F A) : ∀ c ∈ cellsN A, okS c.1 := fun c hc => by
  obtain ⟨q, hq, hc⟩ := List.mem_flatMap.mp hc
  obtain ⟨r, hr, rfl⟩ := List.mem_map.mp hc
  exact okS_name (g.ans hq)
abbrev s__law_par_text : Stmt := topS 81
theorem sc__law_par_text : FnScope ["own", "rows", "name", "looks", "word", "names"] ["own"] (defScope s__law_par_text) := ⟨rfl, rfl, rfl, by decide +kernel, rfl, by decide +kernel, by decide +kernel⟩
theorem ok__law_par_text (T : Tx K mg cl) (F : FunD K "_law_par_text" "_law_par_text" (defArgs s__law_par_text) (defBody s__law_par_text) (defScope s__law_par_text) [] [] f fd) (hm : mg "_law_par_text" = some (.ref f)) (b : Binds K fd ["own"] []) : DCal P w K mg base cl 1 "_law_par_text" c__law_par_text := by
  refine cal_D F hm b sc__law_par_text (fun ds M Φ h => ?_) (fun cdv A outer s H E hr => ⟨_, (dss_cons (ds_set (i := 1) sc__law_par_text.nd rfl (by first | exact Or.inl rfl | exact Or.inr rfl) (de_op op_addG od_add (de_lst (da_cons de_str da_nil)) (de_lc (own := [("name", 2)]) rfl sc__law_par_text.nd (di_any (de_ix (hu_of hr) (dv 0) de_str)) (blkOk_by (by rfl)) ⟨_, fun _ _ _ _ _ => (pg_name (i := 2) sc__law_par_text.nd rfl (by first | exact Or.inl rfl | exact Or.inr rfl)), (gc_name (by decide))⟩ (fun _ _ _ _ _ => dtt_nil) (fun _ _ _ _ _ => (de_op op_addG od_add de_str (dv 2))))))
    (dss_cons (ds_expr (de_mtL PySem.F.slot_list_extend PySem.F.type_list_extend mt_extend md_extend (dv 1) (da_cons (de_lc (own := [("name", 2), ("looks", 3)]) rfl sc__law_par_text.nd (di_any (de_ix (hu_of hr) (dv 0) de_str)) (blkOk_by (by rfl)) ⟨_, fun _ _ _ _ _ => (PG.or (pg_tup (n := 2) rfl (pgs_cons (pg_name (i := 2) sc__law_par_text.nd rfl (by first | exact Or.inl rfl | exact Or.inr rfl)) (pgs_cons (pg_name (i := 3) sc__law_par_text.nd rfl (by first | exact Or.inl rfl | exact Or.inr rfl)) pgs_nil))) (pg_lst (n := 2) rfl (pgs_cons (pg_name (i := 2) sc__law_par_text.nd rfl (by first | exact Or.inl rfl | exact Or.inr rfl)) (pgs_cons (pg_name (i := 3) sc__law_par_text.nd rfl (by first | exact Or.inl rfl | exact Or.inr rfl)) pgs_nil)))), (gc_tup (gcs_cons (gc_name (by decide)) (gcs_cons (gc_name (by decide)) gcs_nil)))⟩ (fun _ _ _ _ _ => dtt_nil) (fun _ _ _ _ _ => (de_join de_str (de_op op_addG od_add (de_lst (da_cons de_str (da_cons (dv 2) da_nil))) (de_callTy call_list_of cd_list boot_list T.b_list (da_cons (dv 3) da_nil)))))) da_nil)))
    (dss_one (ds_ret (de_join de_str (de_op op_addG od_add (dv 1) (de_lc (own := [("word", 4), ("names", 5)]) rfl sc__law_par_text.nd (di_any (de_ix (hu_of hr) (dv 0) de_str)) (blkOk_by (by rfl)) ⟨_, fun _ _ _ _ _ => (PG.or (pg_tup (n := 2) rfl (pgs_cons (pg_name (i := 4) sc__law_par_text.nd rfl (by first | exact Or.inl rfl | exact Or.inr rfl)) (pgs_cons (pg_name (i := 5) sc__law_par_text.nd rfl (by first | exact Or.inl rfl | exact Or.inr rfl)) pgs_nil))) (pg_lst (n := 2) rfl (pgs_cons (pg_name (i := 4) sc__law_par_text.nd rfl (by first | exact Or.inl rfl | exact Or.inr rfl)) (pgs_cons (pg_name (i := 5) sc__law_par_text.nd rfl (by first | exact Or.inl rfl | exact Or.inr rfl)) pgs_nil)))), (gc_tup (gcs_cons (gc_name (by decide)) (gcs_cons (gc_name (by decide)) gcs_nil)))⟩ (fun _ _ _ _ _ => dtt_nil) (fun _ _ _ _ _ => (de_join de_str (de_op op_addG od_add (de_lst (da_cons (dv 4) da_nil)) (dv 5))))))))))), fun ds M Φ h => ?_⟩)
  · obtain ⟨d, F, A, L, rfl, _⟩ := h
    rfl
  · obtain ⟨d, F, A, L, rfl, o, l, g, gl, h⟩ := h
    have := g.f6
    have := g.a6
    have := gl.n
    walk_at "nv"
    walk_at "w"
    refine i_fr ?_
    walk_at "w"
    refine o.foes ?_
    walk_at "w"
    refine lc_map F (fun w => Dat.v (.str w)) (fun w => .v (.str (lineOf [("foe" : Str), w]))) trivial (by simp only [sizeLine]; omega) ?_ ?_
    · intro v hv T1 k
      walk_at "nv"
      walk_at "w"
      refine .str (by have := len_name (g.foe hv); have e : ("foe " : Str).length = 4 := by decide +kernel
                      rw [e]; simp only [sizeLine]; omega) ?_
      rw [foe_line]
      exact k
    · refine i_fr ?_
      refine .lst rfl rfl (by simp [sizeLine]; omega) ?_
      refine i_new fun p hp => ?_
      walk_at "w"
      refine i_isL (lstV_at put_same) ?_
      walk_at "w"
      refine (o.le (le_put (Mem.le_refl M) hp)).answers ?_
      walk_at "w"
      refine lc_map A (fun q => Dat.tup [.v (.str q.1), .lst (dSs q.2)]) (fun q => .v (.str (lineOf (("answer" : Str) :: q.1 :: q.2)))) trivial (by simp only [sizeLine]; omega) ?_ ?_
      · intro q hq T1 k
        walk_at "nv"
        walk_at "w"
        refine i_fr ?_
        walk_at "w"
        refine ⟨_, _, rfl, rfl, i_fr ?_⟩
        have hl := g.lenL hq
        refine OAdd.l (by simp [sizeLine]; omega) ?_
        refine i_line (("answer" : Str) :: q.1 :: q.2) rfl (fun w hw => ?_) (by simp; omega) k
        rcases List.mem_cons.mp hw with rfl | hw
        · exact wd_answer
        · rcases List.mem_cons.mp hw with rfl | hw
          · exact wd_name (g.ans hq)
          · exact wd_name (g.foe (g.sub hq w hw))
      · refine i_fr ?_
        walk_at "w"
        refine i_extend put_same rfl (by simp [sizeLine]; omega) ?_
        walk_at "w"
        rw [put_put]
        refine (l.le (le_put (Mem.le_refl M) hp)).lines ?_
        walk_at "w"
        refine lc_map L (fun q => Dat.tup [.v (.str q.1), .lst (dSs q.2)]) (fun q => .v (.str (lineOf (q.1 :: q.2)))) trivial (by simp only [sizeLine]; omega) ?_ ?_
        · intro q hq T1 k
          walk_at "nv"
          walk_at "w"
          refine i_fr ?_
          walk_at "w"
          have hl := gl.l q hq
          refine OAdd.l (by simp [sizeLine]; omega) ?_
          exact i_line (q.1 :: q.2) rfl (wd_line g gl hq) (by simp; omega) k
        · refine i_fr ?_
          refine .lst (lstV_at put_same) rfl (by simp [sizeLine]; omega) ?_
          refine i_fr ?_
          walk_at "w"
          have pt := parTxt g gl
          refine i_text (parRows F A L) ?_ (par_rows_wd g gl) (by simp [parRows, headRows, lineRows]; omega) ?_
          · show some _ = some _
            unfold parRows headRows lineRows
            simp [dSs, Function.comp_def]
            rfl
          exact ⟨_, M, Fz.le (le_put (Mem.le_refl M) hp), h⟩
abbrev s__law_par_written : Stmt := topS 82
theorem sc__law_par_written : FnScope ["own", "setting", "number", "word", "names", "table", "order", "answers", "some", "name", "looks"] ["own", "setting", "number"] (defScope s__law_par_written) := ⟨rfl, rfl, rfl, by decide +kernel, rfl, by decide +kernel, by decide +kernel⟩
theorem ok__law_par_written (T : Tx K mg cl) (F : FunD K "_law_par_written" "_law_par_written" (defArgs s__law_par_written) (defBody s__law_par_written) (defScope s__law_par_written) [] [] f fd) (hm : mg "_law_par_written" = some (.ref f)) (b : Binds K fd ["own", "setting", "number"] []) (k__law_book_cells : DCal P w K mg base cl 2 "_law_book_cells" c__law_book_cells) (k__law_book_cell_at : DCal P w K mg base cl 2 "_law_book_cell_at" c__law_book_cell_at) : DCal P w K mg base cl 3 "_law_par_written" c__law_par_written := by
  refine cal_D F hm b sc__law_par_written (fun ds M Φ h => ?_) (fun cdv A outer s H E hr => ⟨_, (dss_cons (ds_asg (de_ix (hu_of hr) (de_ix (hu_of hr) (dv 0) de_str) (dv 2)) (dt_tup rfl (gds_cons (dt_name (i := 3) sc__law_par_written.nd rfl (by first | exact Or.inl rfl | exact Or.inr rfl)) (gds_cons (dt_name (i := 4) sc__law_par_written.nd rfl (by first | exact Or.inl rfl | exact Or.inr rfl)) gds_nil))))
    (dss_cons (ds_asg (de_tup (da_cons (de_callTy (call_dictP rfl) cd_dictP boot_dict T.b_dict (da_cons (de_listZip T.b_list T.b_zip (da_cons (de_ix (hu_of hr) (dv 0) de_str) (da_cons (dv 1) da_nil))) da_nil)) (da_cons (de_call k__law_book_cells hr (da_cons (dv 0) da_nil)) da_nil))) (dt_tup rfl (gds_cons (dt_name (i := 5) sc__law_par_written.nd rfl (by first | exact Or.inl rfl | exact Or.inr rfl)) (gds_cons (dt_name (i := 6) sc__law_par_written.nd rfl (by first | exact Or.inl rfl | exact Or.inr rfl)) gds_nil))))
    (dss_cons (ds_setLc (i := 7) (own := [("name", 9), ("looks", 10)]) rfl sc__law_par_written.nd rfl rfl (sw_true rfl rfl rfl (by decide +kernel)) (di_any (de_ix (hu_of hr) (dv 0) de_str)) (blkOk_by (by rfl)) ⟨_, fun _ _ _ _ _ => (PG.or (pg_tup (n := 2) rfl (pgs_cons (pg_name (i := 9) sc__law_par_written.nd rfl (by first | exact Or.inl rfl | exact Or.inr rfl)) (pgs_cons (pg_name (i := 10) sc__law_par_written.nd rfl (by first | exact Or.inl rfl | exact Or.inr rfl)) pgs_nil))) (pg_lst (n := 2) rfl (pgs_cons (pg_name (i := 9) sc__law_par_written.nd rfl (by first | exact Or.inl rfl | exact Or.inr rfl)) (pgs_cons (pg_name (i := 10) sc__law_par_written.nd rfl (by first | exact Or.inl rfl | exact Or.inr rfl)) pgs_nil)))), (gc_tup (gcs_cons (gc_name (by decide)) (gcs_cons (gc_name (by decide)) gcs_nil)))⟩ (fun _ _ _ _ _ => (dtt_one (dt_cmp (op_inA (hu_of hr)) od_inA (by rfl) (dv 9) (dv 4)))) (fun _ _ _ _ _ => (dv 9)))
    (dss_cons (ds_setLc (i := 8) (own := [("name", 9)]) rfl sc__law_par_written.nd rfl rfl (sw_true rfl rfl rfl (by decide +kernel)) (di_any (dv 7)) (blkOk_by (by rfl)) ⟨_, fun _ _ _ _ _ => (pg_name (i := 9) sc__law_par_written.nd rfl (by first | exact Or.inl rfl | exact Or.inr rfl)), (gc_name (by decide))⟩ (fun _ _ _ _ _ => dtt_nil) (fun _ _ _ _ _ => (de_mtL PySem.F.slot_list_index PySem.F.type_list_index (mt_indexD (hu65 hr)) md_indexD (dv 6) (da_cons (de_call k__law_book_cell_at hr (da_cons (dv 0) (da_cons (dv 9) (da_cons (dv 1) da_nil)))) da_nil))))
    (dss_one (ds_ret (de_tup (da_cons (de_callB cr_sortedI cd_sortedI PyProof.Rows.boot_sorted T.b_sorted (da_cons (dv 8) da_nil)) (da_cons (de_op op_mod od_I (de_callTy call_int1 cd_int boot_int T.b_int (da_cons (de_op op_addG od_add (de_callTy call_int1 cd_int boot_int T.b_int (da_cons (de_cmp (op_eqD hr.units) od_eq (nomark _) (dv 3) de_str) da_nil)) (de_callB (cr_sum rfl) cd_sum boot_sum T.b_sum (da_cons (de_lc (own := [("name", 9)]) rfl sc__law_par_written.nd (di_any (dv 4)) (blkOk_by (by rfl)) ⟨_, fun _ _ _ _ _ => (pg_name (i := 9) sc__law_par_written.nd rfl (by first | exact Or.inl rfl | exact Or.inr rfl)), (gc_name (by decide))⟩ (fun _ _ _ _ _ => dtt_nil) (fun _ _ _ _ _ => (de_get2 (hu_of hr) (dv 5) (dv 9) de_int))) da_nil))) da_nil)) de_int) da_nil))))))))), fun ds M Φ h => ?_⟩)
  · obtain ⟨d, F, A, L, s, n, q, rfl, _⟩ := h
    rfl
  · obtain ⟨d, F, A, L, s, n, q, rfl, o, l, g, gl, hs, hq, h⟩ := h
    walk_at "nv"
    walk_at "w"
    refine l.lines ?_
    walk_at "w"
    refine .seq rfl (atI_nth (by unfold ansL; rw [List.getElem?_map, hq]; rfl)) ?_
    walk_at "w"
    have hsl := (rowsN_iff.mp hs).1
    have := g.f6
    have := g.a6
    have hqm : q ∈ L := List.mem_of_getElem? hq
    have hql := gl.l q hqm
    refine o.foes ?_
    walk_at "w"
    refine ⟨_, _, _, _, rfl, rfl, rfl, by simp [hsl], by simp only [sizeLine, List.length_map]; omega, ?_⟩
    walk_at "w"
    refine ⟨_, _, _, rfl, congrArg some (foe_pair F s), by simp [hsl], foe_keys g, ?_⟩
    refine i_frD ?_
    walk_at "w"
    refine ⟨d, F, A, rfl, o, g, ?_⟩
    walk_at "w"
    refine o.answers ?_
    walk_at "w"
    refine lc_pure A (fun q => Dat.tup [.v (.str q.1), .lst (dSs q.2)]) (fun a => decide (a.1 ∈ q.2)) (fun a => .v (.str a.1)) trivial (by simp only [sizeLine]; omega) ?_ ?_
    · intro a ha T1 T0 k1 k0
      walk_at "nv"
      walk_at "w"
      refine i_inS rfl (b0 := decide (a.1 ∈ q.2)) rfl ?_
      refine i_bl (i_ite (fun hb => ?_) (fun hb => ?_))
      · walk_at "w"
        exact k1 hb
      · exact k0 hb
    refine i_fr ?_
    walk_at "w"
    have hfl : (A.filter fun a => decide (a.1 ∈ q.2)).length ≤ 6 := Nat.le_trans (List.length_filter_le _ _) g.a6
    refine lc_map (gd := gdT) (A.filter fun a => decide (a.1 ∈ q.2)) (fun a => .v (.str a.1)) (fun a => .v (.int (idxC A (a.1, seenN F a.2 s) : Nat))) trivial (by simp only [sizeLine]; omega) ?_ ?_
    · intro a ha T1 k
      have haA := (List.mem_filter.mp ha).1
      walk_at "nv"
      walk_at "w"
      refine i_isL rfl ?_
      walk_at "w"
      refine ⟨d, F, A, a, s, rfl, o, g, haA, hsl, ?_⟩
      walk_at "w"
      refine i_indexC (c := (a.1, seenN F a.2 s)) ?_ (cells_ok g) ?_
      · refine lineCells_mem (names := q.2) g hs _ ?_
        unfold lineCells
        exact List.mem_map.mpr ⟨a, ha, rfl⟩
      · exact k
    refine i_fr ?_
    walk_at "w"
    refine ⟨_, ((lineCells F A s q.2).map (idxC A)).map fun n : Nat => (n : Int), rfl, ?_, fun ns' hp hso => ?_⟩
    · show some _ = some _
      unfold lineCells
      simp [Function.comp_def]
    obtain ⟨ms, hm, rfl⟩ := perm_map hp _ rfl
    have hms : ms = lnN F A s q := sortN_uniq hm ((List.pairwise_map.mp hso).imp fun h => by omega)
    subst hms
    refine i_fr ?_
    walk_at "w"
    have hw : okS q.1 := by
      rcases List.mem_cons.mp (gl.w q hqm) with e | e
      · rw [e]; walk_at "ok"
      · rw [List.mem_singleton.mp e]; walk_at "ok"
    refine i_eqS hw (by walk_at "ok") rfl ?_
    walk_at "w"
    refine lc_map (gd := gdT) q.2 (fun w => Dat.v (.str w)) (fun w => .v (.int (valN F s w))) trivial (by simp only [sizeLine]; omega) ?_ ?_
    · intro v hv T1 k
      walk_at "nv"
      walk_at "w"
      refine ⟨⟨_, _, rfl⟩, ?_⟩
      walk_at "w"
      refine ⟨_, _, .inr v, rfl, rfl, ?_⟩
      rw [dget_zip hsl.symm]
      by_cases e : v ∈ F
      · rw [if_pos e]
        exact k
      · rw [if_neg e]
        rw [val_out e] at k
        exact k
    refine i_fr ?_
    walk_at "w"
    refine i_sum (bs := q.2.map (valN F s)) (by rw [List.map_map]; rfl) ?_
    walk_at "w"
    rw [sum_out]
    have e2 : oddN F s q = ((if decide (q.1 = ("odd" : Str)) = true then (1 : Int) else 0) + ((q.2.filter fun w => decide (w ∈ F)).map (valN F s)).sum) % 2 := by
      unfold oddN
      simp
    rw [e2] at h
    rw [List.map_map]
    exact h
abbrev s__law_par_rows : Stmt := topS 83
theorem sc__law_par_rows : FnScope ["own", "found", "setting", "number"] ["own"] (defScope s__law_par_rows) := ⟨rfl, rfl, rfl, by decide +kernel, rfl, by decide +kernel, by decide +kernel⟩
theorem ok__law_par_rows (T : Tx K mg cl) (F : FunD K "_law_par_rows" "_law_par_rows" (defArgs s__law_par_rows) (defBody s__law_par_rows) (defScope s__law_par_rows) [] [] f fd) (hm : mg "_law_par_rows" = some (.ref f)) (b : Binds K fd ["own"] []) (k__law_book_settings : DCal P w K mg base cl 2 "_law_book_settings" c__law_book_settings) (k__law_par_written : DCal P w K mg base cl 3 "_law_par_written" c__law_par_written) : DCal P w K mg base cl 4 "_law_par_rows" c__law_par_rows := by
  refine cal_D F hm b sc__law_par_rows (fun ds M Φ h => ?_) (fun cdv A outer s H E hr => ⟨_, (dss_cons (ds_set (i := 1) sc__law_par_rows.nd rfl (by first | exact Or.inl rfl | exact Or.inr rfl) (de_lst da_nil))
    (dss_cons (ds_for PassesOwn.never rfl (di_any (de_call k__law_book_settings hr (da_cons (dv 0) da_nil))) (dt_name (i := 2) sc__law_par_rows.nd rfl (by first | exact Or.inl rfl | exact Or.inr rfl))
    (dss_one (ds_expr (de_mtL PySem.F.slot_list_extend PySem.F.type_list_extend mt_extend md_extend (dv 1) (da_cons (de_lc (own := [("number", 3)]) rfl sc__law_par_rows.nd (di_rng1 T.b_range (da_cons (de_callB call_lenG cd_len boot_len T.b_len (da_cons (de_ix (hu_of hr) (dv 0) de_str) da_nil)) da_nil)) (blkOk_by (by rfl)) ⟨_, fun _ _ _ _ _ => (pg_name (i := 3) sc__law_par_rows.nd rfl (by first | exact Or.inl rfl | exact Or.inr rfl)), (gc_name (by decide))⟩ (fun _ _ _ _ _ => dtt_nil) (fun _ _ _ _ _ => (de_call k__law_par_written hr (da_cons (dv 0) (da_cons (dv 2) (da_cons (dv 3) da_nil)))))) da_nil)))))
    (dss_one (ds_ret (dv 1))))), fun ds M Φ h => ?_⟩)
  · obtain ⟨d, F, A, L, rfl, _⟩ := h
    rfl
  · obtain ⟨d, F, A, L, rfl, o, l, g, gl, h⟩ := h
    walk_at "nv"
    walk_at "w"
    have := g.f6
    have := gl.n
    refine i_new fun p hp => ?_
    have lp := le_put (c := .lst []) (Mem.le_refl M) hp
    walk_at "w"
    refine ⟨d, F, A, rfl, o.le lp, by omega, ?_⟩
    walk_at "w"
    have hw : (rowsN F.length).length ≤ 64 := by rw [rowsN_len]; exact Nat.le_trans (Nat.pow_le_pow_right (by decide) (show F.length ≤ 6 by omega)) (by decide)
    refine for_list (rowsN F.length) (fun r => Dat.tup (dIs r)) (fun i ρ' M' => ∃ x y, ρ' = [some d, some (.v (.ref p)), x, y] ∧ M' = M.put p (.lst ((((rowsN F.length).take i).flatMap fun s => (List.range L.length).map fun j => (s, j)).map fun r => lnD (rowLn F A L r)))) ⟨_, _, rfl, rfl⟩ (fun _ _ _ _ => trivial) ?_ ?_
    · rintro i r ρ' M' hr ⟨x, y, rfl, rfl⟩
      walk_at "w"
      refine i_isL (lstV_at put_same) ?_
      walk_at "w"
      refine (l.le (le_put (Mem.le_refl M) hp)).lines ?_
      walk_at "w"
      have hal : (ansL L).length = L.length := by simp [ansL]
      rw [hal]
      refine ⟨_, rfl, by omega, by omega, ?_⟩
      rw [Int.toNat_natCast]
      refine lc_map (List.range L.length) (fun j => .v (.int (0 + (j : Nat)))) (fun j => lnD (rowLn F A L (r, j))) trivial (by rw [List.length_range]; simp only [sizeLine]; omega) ?_ ?_
      · intro j hj T1 k
        have hjl := List.mem_range.mp hj
        walk_at "nv"
        walk_at "w"
        rw [Int.zero_add]
        refine ⟨d, F, A, L, r, j, lineAt L j, rfl, o.le (le_put (Mem.le_refl M) hp), l.le (le_put (Mem.le_refl M) hp), g, gl, List.mem_of_getElem? hr, ?_, k⟩
        unfold lineAt
        rw [List.getElem?_eq_getElem hjl]
        rfl
      · refine i_fr ?_
        walk_at "w"
        have hz := rowsOf_len (R := (rowsN F.length).take i) (n := L.length)
        have ht : ((rowsN F.length).take i).length ≤ 64 := by rw [List.length_take]; omega
        have hzz : ((rowsN F.length).take i).length * L.length ≤ 64 * 30 := Nat.mul_le_mul ht (by omega)
        refine i_extend (fs := (List.range L.length).map fun j => lnD (rowLn F A L (r, j))) put_same ?_ ?_ ?_
        · rfl
        · simp only [List.length_map, List.length_range, hz, sizeLine]; omega
        walk_at "w"
        refine ⟨_, _, rfl, ?_⟩
        rw [put_put, take_snoc hr]
        simp [Function.comp_def]
    · rintro ρ' M' ⟨x, y, rfl, rfl⟩
      rw [List.take_of_length_le (Nat.le_refl _)]
      walk_at "d1"
      walk_at "d1"
      refine ⟨_, _, Fz.lst put_same, ?_⟩
      rw [del_put hp]
      unfold rowsLn rowsOf at h
      rw [List.map_map] at h
      exact h
abbrev s__law_par_added : Stmt := topS 84
theorem sc__law_par_added : FnScope ["one", "other", "at"] ["one", "other"] (defScope s__law_par_added) := ⟨rfl, rfl, rfl, by decide +kernel, rfl, by decide +kernel, by decide +kernel⟩
theorem ok__law_par_added (T : Tx K mg cl) (F : FunD K "_law_par_added" "_law_par_added" (defArgs s__law_par_added) (defBody s__law_par_added) (defScope s__law_par_added) [] [] f fd) (hm : mg "_law_par_added" = some (.ref f)) (b : Binds K fd ["one", "other"] []) : DCal P w K mg base cl 1 "_law_par_added" c__law_par_added := by
  refine cal_D F hm b sc__law_par_added (fun ds M Φ h => ?_) (fun cdv A outer s H E hr => ⟨_, (dss_one (ds_ret (de_callB cr_sortedI cd_sortedI PyProof.Rows.boot_sorted T.b_sorted (da_cons (de_op op_addG od_add (de_lc (own := [("at", 2)]) rfl sc__law_par_added.nd (di_any (dv 0)) (blkOk_by (by rfl)) ⟨_, fun _ _ _ _ _ => (pg_name (i := 2) sc__law_par_added.nd rfl (by first | exact Or.inl rfl | exact Or.inr rfl)), (gc_name (by decide))⟩ (fun _ _ _ _ _ => (dtt_one (dt_cmp (op_ninA (hu_of hr)) od_inA (by rfl) (dv 2) (dv 1)))) (fun _ _ _ _ _ => (dv 2))) (de_lc (own := [("at", 2)]) rfl sc__law_par_added.nd (di_any (dv 1)) (blkOk_by (by rfl)) ⟨_, fun _ _ _ _ _ => (pg_name (i := 2) sc__law_par_added.nd rfl (by first | exact Or.inl rfl | exact Or.inr rfl)), (gc_name (by decide))⟩ (fun _ _ _ _ _ => (dtt_one (dt_cmp (op_ninA (hu_of hr)) od_inA (by rfl) (dv 2) (dv 0)))) (fun _ _ _ _ _ => (dv 2)))) da_nil)))), fun ds M Φ h => ?_⟩)
  · obtain ⟨a, b, rfl, _⟩ := h
    rfl
  · obtain ⟨a, b, rfl, ha, hb, h⟩ := h
    walk_at "nv"
    walk_at "w"
    refine lc_pure a (fun n : Nat => Dat.v (.int (n : Nat))) (fun i => !decide (i ∈ b)) (fun n : Nat => Dat.v (.int (n : Nat))) trivial (by simp only [sizeLine]; omega) ?_ ?_
    · intro x hx T1 T0 k1 k0
      walk_at "nv"
      walk_at "w"
      refine i_ninN rfl (b0 := !decide (x ∈ b)) rfl ?_
      refine i_bl (i_ite (fun hb => ?_) (fun hb => ?_))
      · walk_at "w"
        exact k1 hb
      · exact k0 hb
    refine i_fr ?_
    walk_at "w"
    refine lc_pure b (fun n : Nat => Dat.v (.int (n : Nat))) (fun i => !decide (i ∈ a)) (fun n : Nat => Dat.v (.int (n : Nat))) trivial (by simp only [sizeLine]; omega) ?_ ?_
    · intro x hx T1 T0 k1 k0
      walk_at "nv"
      walk_at "w"
      refine i_ninN rfl (b0 := !decide (x ∈ a)) rfl ?_
      refine i_bl (i_ite (fun hb => ?_) (fun hb => ?_))
      · walk_at "w"
        exact k1 hb
      · exact k0 hb
    refine i_fr ?_
    have l1 := List.length_filter_le (fun i => !decide (i ∈ b)) a
    have l2 := List.length_filter_le (fun i => !decide (i ∈ a)) b
    refine OAdd.l (by simp only [List.length_map, sizeLine]; omega) ?_
    walk_at "w"
    refine ⟨_, (a.filter (fun i => !decide (i ∈ b)) ++ b.filter (fun i => !decide (i ∈ a))).map fun n : Nat => (n : Int), rfl, ?_, fun ns' hp hso => ?_⟩
    · show some _ = some _
      simp [Function.comp_def]
    obtain ⟨ms, hm, rfl⟩ := perm_map hp _ rfl
    have hms : ms = addN a b := sortN_uniq hm ((List.pairwise_map.mp hso).imp fun h => by omega)
    subst hms
    refine i_fr ?_
    walk_at "w"
    rw [List.map_map]
    exact h
abbrev s__law_par_many : Stmt := topS 85
theorem sc__law_par_many : FnScope ["own", "firsts", "some", "rest", "its", "its_rest"] ["own"] (defScope s__law_par_many) := ⟨rfl, rfl, rfl, by decide +kernel, rfl, by decide +kernel, by decide +kernel⟩
theorem ok__law_par_many (T : Tx K mg cl) (F : FunD K "_law_par_many" "_law_par_many" (defArgs s__law_par_many) (defBody s__law_par_many) (defScope s__law_par_many) [] [] f fd) (hm : mg "_law_par_many" = some (.ref f)) (b : Binds K fd ["own"] []) (k__law_par_rows : DCal P w K mg base cl 4 "_law_par_rows" c__law_par_rows) (k__law_par_added : DCal P w K mg base cl 1 "_law_par_added" c__law_par_added) (k__law_book_cells : DCal P w K mg base cl 2 "_law_book_cells" c__law_book_cells) : DCal P w K mg base cl 5 "_law_par_many" c__law_par_many := by
  refine cal_D F hm b sc__law_par_many (fun ds M Φ h => ?_) (fun cdv A outer s H E hr => ⟨_, (dss_cons (ds_set (i := 1) sc__law_par_many.nd rfl (by first | exact Or.inl rfl | exact Or.inr rfl) de_newD)
    (dss_cons (ds_for PassesOwn.never rfl (di_any (de_call k__law_par_rows hr (da_cons (dv 0) da_nil))) (dt_tup rfl (gds_cons (dt_name (i := 2) sc__law_par_many.nd rfl (by first | exact Or.inl rfl | exact Or.inr rfl)) (gds_cons (dt_name (i := 3) sc__law_par_many.nd rfl (by first | exact Or.inl rfl | exact Or.inr rfl)) gds_nil)))
    (dss_cons (ds_while PassesOwn.never (DW.dt (dw_and (dt_cmp (op_neD hr.units) od_ne (nomark _) (dv 2) (de_lst da_nil)) (dw_and1 (dt_cmp (op_inA (hu_of hr)) od_inA (by rfl) (de_ix (hu_of hr) (dv 2) de_int) (dv 1))))) (dss_cons (ds_asg (de_ix (hu_of hr) (dv 1) (de_ix (hu_of hr) (dv 2) de_int)) (dt_tup rfl (gds_cons (dt_name (i := 4) sc__law_par_many.nd rfl (by first | exact Or.inl rfl | exact Or.inr rfl)) (gds_cons (dt_name (i := 5) sc__law_par_many.nd rfl (by first | exact Or.inl rfl | exact Or.inr rfl)) gds_nil))))
    (dss_one (ds_par (i := 2) (j := 3) rfl sc__law_par_many.nd rfl rfl (da_cons (de_call k__law_par_added hr (da_cons (dv 2) (da_cons (dv 4) da_nil))) (da_cons (de_op op_mod od_I (de_callTy call_int1 cd_int boot_int T.b_int (da_cons (de_op op_addG od_add (dv 3) (dv 5)) da_nil)) de_int) da_nil))))))
    (dss_one (ds_if (dt_cmp (op_neD hr.units) od_ne (nomark _) (dv 2) (de_lst da_nil)) (dss_one (ds_asg (de_tup (da_cons (dv 2) (da_cons (dv 3) da_nil))) (dt_sub (hu_of hr) (dv 1) (de_ix (hu_of hr) (dv 2) de_int)))) (dss_one (ds_if (dt_cmp (op_eqD hr.units) od_eq (nomark _) (dv 3) de_int) (dss_one (ds_ret de_int)) dss_nil))))))
    (dss_one (ds_ret (de_op op_shl od_I de_int (de_op op_sub od_sub (de_callB call_lenG cd_len boot_len T.b_len (da_cons (de_call k__law_book_cells hr (da_cons (dv 0) da_nil)) da_nil)) (de_callB call_lenG cd_len boot_len T.b_len (da_cons (dv 1) da_nil)))))))), fun ds M Φ h => ?_⟩)
  · obtain ⟨d, F, A, L, rfl, _⟩ := h
    rfl
  · obtain ⟨d, F, A, L, rfl, o, l, g, gl, h⟩ := h
    walk_at "nv"
    walk_at "w"
    have := g.f6
    have := g.a6
    have := gl.n
    have hcl : (cellsN A).length ≤ 384 := by
      have := cellsN_len (A := A) (fun q h => g.lenL h)
      omega
    refine i_newD fun p hp => ?_
    have lp : ∀ c : Dat, M.le (M.put p c) := fun c => le_put (Mem.le_refl M) hp
    walk_at "w"
    refine ⟨d, F, A, L, rfl, o.le (lp _), l.le (lp _), g, gl, ?_⟩
    walk_at "w"
    refine for_list (rowsLn F A L) lnD (fun i ρ' M' => ∃ x2 x3 x4 x5 fs, ρ' = [some d, some (.v (.ref p)), x2, x3, x4, x5] ∧ M' = M.put p (fstD fs) ∧ Low (cellsN A).length fs ∧ ∀ x, PL.meets (cellsN A).length (fln fs) x = PL.meets (cellsN A).length (lns ((rowsLn F A L).take i)) x) ⟨_, _, _, _, [], rfl, rfl, ⟨by simp, by simp, by simp, by simp, by simp⟩, fun x => rfl⟩ (fun _ _ _ _ => trivial) ?_ ?_
    · rintro i ⟨s0, r0⟩ ρ' M' hr ⟨x2, x3, x4, x5, fs, rfl, rfl, wl, hm⟩
      have hr' := rowsLn_ok g (List.mem_of_getElem? hr)
      have hfl := wl.cnt.1
      walk_at "w"
      refine ⟨fun k ρ' M' => ∃ s r x4 x5, M' = M.put p (fstD fs) ∧ k = (cellsN A).length - s.headD (cellsN A).length ∧ Turn (cellsN A).length fs s0 r0 s r ∧ ρ' = [some d, some (.v (.ref p)), some (.lst (dNs s)), some (.v (.int r)), x4, x5], ⟨_, s0, r0, _, _, rfl, rfl, ⟨hr'.1, hr'.2.1, hr'.2.2, fun _ _ => rfl⟩, rfl⟩, ?_⟩
      rintro k ρ' M' ⟨s, r, x4, x5, rfl, rfl, t, rfl⟩
      have hsl : s.length ≤ (cellsN A).length := nodup_le (lt_nodup t.st) t.lt
      walk_at "w"
      refine i_fr ?_
      have hne : ∀ {b0 : Bool} {Ψ : Dat → Mem → Prop}, (!s.isEmpty) = b0 → Ψ (.v (.bl b0)) (M.put p (fstD fs)) → oNe (.lst (dNs s)) (.lst []) (M.put p (fstD fs)) Ψ := fun e hh => by
        refine i_neNil (es := dNs s) (fs := (s.map fun n : Nat => (n : Int)).map .int) rfl ?_ (shaped_ints _) (by simpa using e) hh
        rw [← pdFs_ints, List.map_map]
        rfl
      cases s with
      | nil =>
        refine hne (b0 := false) rfl ?_
        walk_at "w"
        refine i_fr ?_
        refine hne (b0 := false) rfl ?_
        walk_at "w"
        rcases t.bit with e | e
        · refine i_eqI (b0 := false) (by rw [e]; rfl) ?_
          walk_at "w"
          refine ⟨_, _, _, _, fs, rfl, rfl, wl, fun x => ?_⟩
          rw [lns_snoc hr, ← hm, meets_snoc t]
          subst e
          simp only [PL.meets, List.all_cons, List.all_nil, rest_empty]
          simp
        · refine i_eqI (b0 := true) (by rw [e]; rfl) ?_
          walk_at "v"
          subst e
          have hz := num_zero hr hm t
          rw [hz] at h
          exact ⟨_, M, Fz.le (lp _), h⟩
      | cons q u =>
        have hq := t.lt q List.mem_cons_self
        refine hne (b0 := true) rfl ?_
        walk_at "w"
        refine .seq rfl atI0 ?_
        walk_at "w"
        rcases dget2 (g := lnD) (fs := fs) (p := q) with ⟨⟨its, r1⟩, hy, hg⟩ | ⟨hy, hg⟩
        · refine i_inD (dicV_at put_same) rfl (b0 := true) (by rw [hg]; rfl) ?_
          walk_at "w"
          refine .seq rfl atI0 ?_
          walk_at "w"
          refine .dic (dicV_at put_same) rfl hg ?_
          walk_at "w"
          have hil : its.length ≤ (cellsN A).length := nodup_le (lt_nodup (wl.st _ hy)) (wl.lt _ hy)
          refine ⟨q :: u, its, rfl, by omega, by omega, ?_⟩
          walk_at "w"
          obtain ⟨t2, hlt⟩ := t.step wl hy
          refine ⟨_, ?_, addN (q :: u) its, _, _, _, rfl, rfl, t2, rfl⟩
          cases e : addN (q :: u) its with
          | nil => simp only [List.headD_nil, List.headD_cons]; omega
          | cons q2 u2 =>
            have h1 := hlt q2 u2 e
            simp only [List.headD_cons]
            omega
        · refine i_inD (dicV_at put_same) rfl (b0 := false) (by rw [hg]; rfl) ?_
          walk_at "w"
          refine i_fr ?_
          refine hne (b0 := true) rfl ?_
          walk_at "w"
          refine .seq rfl atI0 ?_
          walk_at "w"
          refine .dic put_same rfl (by rw [List.length_map]; simp only [sizeLine]; omega) ?_
          refine ⟨_, _, _, _, fs ++ [(q, (q :: u, r))], rfl, ?_, wl.put hy t.st t.lt t.bit, fun x => ?_⟩
          · rw [put_put]
            unfold dputK dputV fstD
            rw [hasK2 hy]
            simp [lnD]
          · rw [lns_snoc hr, ← hm, meets_snoc t]
            unfold fln
            rw [List.map_append, meets_append]
            rfl
    · rintro ρ' M' ⟨x2, x3, x4, x5, fs, rfl, rfl, wl, hm⟩
      rw [List.take_of_length_le (Nat.le_refl _)] at hm
      have hfl := wl.cnt.1
      have hend := num_end wl hm
      walk_at "w"
      refine ⟨d, F, A, rfl, o.le (lp _), g, ?_⟩
      walk_at "w"
      refine .dic (dicV_at put_same) ?_
      walk_at "w"
      refine i_pow (n := (cellsN A).length - fs.length) (by simp [clsD]; omega) (by omega) (by decide) ?_
      rw [show (1 : Int) * 2 ^ (((cellsN A).length - fs.length : Nat) : Int).toNat = ((2 ^ ((cellsN A).length - fs.length) : Nat) : Int) by simp, ← hend]
      exact ⟨_, M, Fz.le (lp _), h⟩
abbrev s__law_plan_all : Stmt := topS 79
theorem sc__law_plan_all : FnScope ["own"] ["own"] (defScope s__law_plan_all) := ⟨rfl, rfl, rfl, by decide +kernel, rfl, by decide +kernel, by decide +kernel⟩
theorem ok__law_plan_all (T : Tx K mg cl) (F : FunD K "_law_plan_all" "_law_plan_all" (defArgs s__law_plan_all) (defBody s__law_plan_all) (defScope s__law_plan_all) [] [] f fd) (hm : mg "_law_plan_all" = some (.ref f)) (b : Binds K fd ["own"] []) (k__law_book_rows : DCal P w K mg base cl 1 "_law_book_rows" c__law_book_rows) (k__law_book_cells : DCal P w K mg base cl 2 "_law_book_cells" c__law_book_cells) : DCal P w K mg base cl 3 "_law_plan_all" c__law_plan_all := by
  refine cal_D F hm b sc__law_plan_all (fun ds M Φ h => ?_) (fun cdv A outer s H E hr => ⟨_, (dss_one (ds_ret (de_call k__law_book_rows hr (da_cons (de_callB call_lenG cd_len boot_len T.b_len (da_cons (de_call k__law_book_cells hr (da_cons (dv 0) da_nil)) da_nil)) da_nil)))), fun ds M Φ h => ?_⟩)
  · obtain ⟨d, F, A, rfl, _⟩ := h
    rfl
  · obtain ⟨d, F, A, rfl, o, g, hn, h⟩ := h
    walk_at "nv"
    walk_at "w"
    refine ⟨d, F, A, rfl, o, g, ?_⟩
    walk_at "w"
    refine ⟨(cellsN A).length, by simp [clsD], hn, ?_⟩
    walk_at "w"
    exact h
end
end K51
set_option maxRecDepth 100000
set_option maxHeartbeats 4000000
namespace K51
open PySem PySem.Spec PyProof.Rows L2 SlX DL
local macro_rules | `(tactic| walk_at "ok") => `(tactic| first | assumption | (show PyData.strOk _ = true; decide +kernel))
local macro_rules | `(tactic| walk_at "z") => `(tactic| first | assumption | (simp only [List.length_cons, List.length_nil, List.length_map, List.length_append, sizeLine] at *; omega))
local macro_rules | `(tactic| walk_at "m") => `(tactic| first | assumption | rfl | exact put_same | (simp [Mem.put, *]; done) | (simp [Mem.put, lstV, seqV, objV, dicV, *]; done))
local macro_rules | `(tactic| walk_at "nv") => `(tactic| (try simp only [startD, wipeD, List.map_cons, List.map_nil, List.length_cons, List.length_nil, Nat.reduceAdd, Nat.reduceSub, List.reduceReplicate, List.append_nil, List.cons_append, List.nil_append, List.set_cons_zero, List.set_cons_succ]))
local macro_rules | `(tactic| walk_at "d1") => `(tactic| first
  | ((with_reducible refine i_varI ?_); refine i_var rfl ?_)
  | with_reducible refine i_c ?_
  | with_reducible refine i_op ?_
  | with_reducible refine i_test ?_
  | with_reducible refine i_chain ?_
  | with_reducible refine i_and ?_
  | with_reducible refine i_or ?_
  | with_reducible refine i_not ?_
  | with_reducible refine i_andV ?_
  | with_reducible refine i_orV ?_
  | with_reducible refine i_notV ?_
  | with_reducible refine i_if ?_
  | with_reducible refine i_nil ?_
  | with_reducible refine i_lzip ?_
  | with_reducible refine i_oint ?_
  | with_reducible refine i_ointB ?_
  | with_reducible refine i_mod (by omega) ?_
  | with_reducible refine i_lits ?_
  | with_reducible refine i_get2 ?_
  | with_reducible refine i_bits ?_
  | with_reducible refine i_lrg ?_
  | with_reducible refine i_disp ?_
  | with_reducible refine i_pnil ?_
  | with_reducible refine i_pcons ?_
  | with_reducible refine i_ndw ?_
  | with_reducible refine i_calk ?_
  | with_reducible refine i_enumT ?_
  | with_reducible refine i_zipT ?_
  | with_reducible refine i_cons ?_
  | with_reducible refine i_star ?_
  | with_reducible refine i_tup ?_
  | with_reducible refine i_lst ?_
  | with_reducible refine i_szA (by walk_at "z") ?_
  | with_reducible refine i_szB (by walk_at "z") ?_
  | with_reducible refine i_cal ?_
  | with_reducible refine i_mt ?_
  | with_reducible refine i_m1 ?_
  | with_reducible refine i_fld ?_
  | with_reducible refine i_sl ?_
  | with_reducible refine i_noP ?_
  | with_reducible refine i_part ?_
  | with_reducible refine i_neg ?_
  | with_reducible refine i_meth ?_
  | with_reducible refine i_make ?_
  | with_reducible refine i_pro ?_
  | with_reducible refine i_lc ?_
  | with_reducible refine i_yes ?_
  | with_reducible refine i_next ?_
  | with_reducible refine i_seq ?_
  | with_reducible refine i_ret ?_
  | with_reducible refine i_drop ?_
  | with_reducible refine i_ifS ?_
  | ((with_reducible refine i_gname ?_); walk_at "nv")
  | ((with_reducible refine i_gtupI ?_); refine i_gtup rfl rfl ?_)
  | with_reducible refine i_gnil ?_
  | with_reducible refine i_gcons ?_
  | with_reducible refine i_asg ?_
  | ((with_reducible refine i_par ?_); walk_at "nv")
  | ((with_reducible refine i_par3 ?_); walk_at "nv")
  | with_reducible refine i_gsub ?_
  | with_reducible refine i_gfld ?_
  | with_reducible refine i_for ?_
  | with_reducible refine i_it ?_
  | with_reducible refine i_rng1 ?_
  | with_reducible refine i_enum ?_
  | with_reducible refine i_bl ?_
  | with_reducible refine i_int ?_
  | with_reducible refine i_2 ?_
  | with_reducible refine i_3 ?_
  | with_reducible refine i_iteT ?_
  | with_reducible refine i_iteF ?_
  | with_reducible refine i_iteNT ?_
  | with_reducible refine i_iteNF ?_
  | with_reducible refine i_iteV ?_
  | with_reducible refine i_I0 ?_
  | with_reducible refine i_addI ?_
  | with_reducible refine i_lenSet ?_
  | ((with_reducible refine i_isI ?_); first | refine i_isNF rfl ?_ | refine i_isNT rfl ?_ | refine i_isN ?_)
  | ((with_reducible refine i_notI ?_); first | refine i_notNF rfl ?_ | refine i_notNT rfl ?_ | refine i_notN ?_)
  | with_reducible refine i_len_l ?_
  | with_reducible refine i_len_t ?_
  | ((with_reducible refine i_isiI ?_); refine i_isi rfl rfl ?_)
  | with_reducible refine i_len_s (by first | assumption | (simp only [sizeLine] at *; omega)) ?_
  | with_reducible refine i_it_l ?_
  | with_reducible refine i_it_t ?_
  | with_reducible refine i_it_s ?_
  | with_reducible refine i_tuple_l ?_
  | with_reducible refine i_tuple_t ?_
  | with_reducible refine i_isStr ?_
  | with_reducible refine i_fzR ?_
  | with_reducible refine i_sg ?_)
local macro_rules | `(tactic| walk_at "d") => `(tactic| ((walk_at "d1"); (repeat walk_at "d1")))
local macro_rules | `(tactic| walk_at "s") => `(tactic| (first | (walk_at "d1"; walk_at "s") | (with_reducible refine i_ite (fun hb => ?_) (fun hb => ?_) <;> walk_at "s") | skip))
local macro_rules | `(tactic| walk_at "d1") => `(tactic| first
  | with_reducible refine i_abs ?_
  | with_reducible refine i_min ?_
  | with_reducible refine i_max ?_
  | with_reducible refine i_slS ?_)
local macro_rules | `(tactic| walk_at "w") => `(tactic| (repeat walk_at "d1"))
local macro_rules | `(tactic| walk_at "v") => `(tactic| (repeat ((fail_if_success (with_reducible refine i_fzR ?_)); walk_at "d1")))
section
variable {P : Program} {w : World} {K : PySem.W.Frag} {mg : Str → Option Value} {base : Heap} {cl : Nat → Addr} {f : Addr} {fd : FuncData}
theorem PotAt.mono {M : Mem} {p : Addr} {n m : Nat} (h : PotAt M p n) (e : n ≤ m) : PotAt M p m := by
  obtain ⟨x, y, z, h1, h2, h3, h4, h5, h6, h7⟩ := h
  exact ⟨x, y, z, h1, h2, h3, h4, h5, h6, by omega⟩
def bookP (F : List Str) (A : An) : Dat := .dic [.inr ("foes" : Str), .inr ("answers" : Str), .inr ("clauses" : Str)] [.lst (dSs F), .lst (ansL A), .lst []]
def ownP (F : List Str) (A L : An) : Dat := .dic [.inr ("foes" : Str), .inr ("answers" : Str), .inr ("lines" : Str), .inr ("clauses" : Str)] [.lst (dSs F), .lst (ansL A), .lst (ansL L), .lst []]
def c__law_book_drawn : DOs := fun ds M Φ => ∃ p, ∃ n nf na : Nat, ds = [.v (.ref p), .v (.int (nf : Nat)), .v (.int (na : Nat)), .v (.int 0), .v (.int 2)] ∧ PotAt M p n ∧ n ≤ 50000 ∧ nf ≤ 3 ∧ 1 ≤ na ∧ na ≤ 3 ∧
  ∀ F A M', Good F A → F.length = nf → A.length = na → (∀ q ∈ A, q.2.length ≤ 2) → PotAt M' p (n + 100) → But M M' p → Φ (bookP F A) M'
def c__law_par_drawn : DOs := fun ds M Φ => ∃ p, ∃ n : Nat, ds = [.v (.ref p)] ∧ PotAt M p n ∧ n ≤ 10000 ∧
  ∀ F A L M', Good F A → GoodL F A L → F.length ≤ 3 → A.length ≤ 3 → L.length ≤ 4 → PotAt M' p (n + 300) → But M M' p → Φ (ownP F A L) M'
def c__law_is_told_right : DOs := fun ds M Φ => ∃ d F A L, ds = [d] ∧ OwnD M d F A ∧ LinD M d L ∧ Good F A ∧ GoodL F A L ∧ Φ (.v (.bl true)) M
def c__law_right : DOs := fun ds M Φ => ∃ p, ∃ n : Nat, ds = [.v (.ref p)] ∧ PotAt M p n ∧ n ≤ 1000 ∧ ∀ M', Φ (.v (.bl true)) M'
def c_law (K : PySem.W.Frag) (cl : Nat → Addr) : DOs := fun ds M Φ => ∃ d is, ds = [d] ∧ ScrD K cl d is ∧ ∀ M', Φ (.v (.bl true)) M'
def poolN : List Str := ["a", "b", "c", "d", "foe", "p", "q", "r", "u", "v", "book", "rooms"]
theorem pool_names : ∀ v ∈ poolN, isName v = true := List.all_eq_true.mp (show poolN.all (fun v => isName v) = true by decide +kernel)
theorem pool_nodup : poolN.Nodup := by decide +kernel
theorem cut_to {ds : List Dat} {n : Nat} : DL.cutD ds none (some (n : Int)) = ds.take n := by
  unfold DL.cutD
  rw [HT.sIx_none, HT.sIx_nat, List.drop_zero, Nat.sub_zero]
  rcases Nat.le_total n ds.length with h | h
  · rw [Nat.min_eq_left h]
  · rw [Nat.min_eq_right h, List.take_of_length_le (Nat.le_refl _), List.take_of_length_le h]
theorem cut_from {ds : List Dat} {n : Nat} : DL.cutD ds (some (n : Int)) none = ds.drop n := by
  unfold DL.cutD
  rw [HT.sIx_none, HT.sIx_nat]
  rcases Nat.le_total n ds.length with h | h
  · rw [Nat.min_eq_left h, List.take_of_length_le (by simp)]
  · rw [Nat.min_eq_right h, List.drop_eq_nil_of_le h, Nat.sub_self, List.take_zero]
theorem filter_len {F ws : List Str} (hF : F.Nodup) : (F.filter fun f => decide (f ∈ ws)).length ≤ ws.length :=
  List.Nodup.length_le_of_subset (hF.filter _) fun x hx => of_decide_eq_true (List.mem_filter.mp hx).2
theorem filter_twice {F ws : List Str} : F.filter (fun f => decide (f ∈ F.filter fun f => decide (f ∈ ws))) = F.filter fun f => decide (f ∈ ws) := by
  refine List.filter_congr fun x hx => ?_
  rw [Bool.eq_iff_iff]
  simp [List.mem_filter, hx]
theorem many_le {A : An} (h : ∀ q ∈ A, q.2.length ≤ 2) : manyN A ≤ 4 * A.length := by
  induction A with
  | nil => simp [manyN]
  | cons q A ih =>
    have i1 := ih fun x hx => h x (List.mem_cons_of_mem _ hx)
    have i2 : 2 ^ q.2.length ≤ 2 ^ 2 := Nat.pow_le_pow_right (by decide) (h q List.mem_cons_self)
    unfold manyN at i1 ⊢
    rw [List.map_cons, List.sum_cons, List.length_cons]
    omega
theorem But.trans {M M1 M2 : Mem} {p : Addr} (a : But M M1 p) (b : But M1 M2 p) : But M M2 p := fun y hy => (b y hy).trans (a y hy)
theorem book_good {as bs F : List Str} {A : An} {nf : Nat} (hp : (as ++ bs).Perm poolN) (hF : F = as.take nf) (hA : A.map (·.1) = as.drop nf) (h1 : F.length ≤ 3) (h2 : A ≠ []) (h3 : A.length ≤ 3) (hl : ∀ q ∈ A, q.2 = F.filter (fun f => decide (f ∈ q.2)) ∧ q.2.length ≤ 2) : Good F A := by
  have e : F ++ A.map (·.1) = as := by rw [hF, hA, List.take_append_drop]
  refine ⟨by omega, h2, by omega, fun n hn => ?_, ?_, fun q hq => (hl q hq).1, ?_⟩
  · rw [e] at hn
    exact pool_names n (hp.subset (List.mem_append_left _ hn))
  · rw [e]
    exact (List.nodup_append.mp (hp.nodup_iff.mpr pool_nodup)).1
  · have := many_le fun q hq => (hl q hq).2
    omega
abbrev s__law_book_drawn : Stmt := topS 78
theorem sc__law_book_drawn : FnScope ["pot", "foes", "answers", "clauses", "most", "names", "own", "name", "seen", "lap", "foe"] ["pot", "foes", "answers", "clauses", "most"] (defScope s__law_book_drawn) := ⟨rfl, rfl, rfl, by decide +kernel, rfl, by decide +kernel, by decide +kernel⟩
theorem ok__law_book_drawn (T : Tx K mg cl) (F : FunD K "_law_book_drawn" "_law_book_drawn" (defArgs s__law_book_drawn) (defBody s__law_book_drawn) (defScope s__law_book_drawn) [] [] f fd) (hm : mg "_law_book_drawn" = some (.ref f)) (b : Binds K fd ["pot", "foes", "answers", "clauses", "most"] []) (k__law_some : DCal P w K mg base cl 2 "_law_some" c__law_some) (k__law_take : DCal P w K mg base cl 1 "_law_take" c__law_take) : DCal P w K mg base cl 3 "_law_book_drawn" c__law_book_drawn := by
  refine cal_D F hm b sc__law_book_drawn (fun ds M Φ h => ?_) (fun cdv A outer s H E hr => ⟨_, (dss_cons (ds_set (i := 5) sc__law_book_drawn.nd rfl (by first | exact Or.inl rfl | exact Or.inr rfl) (de_call k__law_some hr (da_cons (dv 0) (da_cons (de_lst (da_cons de_str (da_cons de_str (da_cons de_str (da_cons de_str (da_cons de_str (da_cons de_str (da_cons de_str (da_cons de_str (da_cons de_str (da_cons de_str (da_cons de_str (da_cons de_str da_nil))))))))))))) (da_cons (de_op op_addG od_add (dv 1) (dv 2)) da_nil)))))
    (dss_cons (ds_set (i := 6) sc__law_book_drawn.nd rfl (by first | exact Or.inl rfl | exact Or.inr rfl) (de_disp2 (dps_cons (key := .inr "foes") pe_str (de_sl (dv 5) do_none (do_some (dv 1))) (dps_cons (key := .inr "answers") pe_str (de_lst da_nil) (dps_cons (key := .inr "clauses") pe_str (de_lst da_nil) dps_nil))) (show ([.inr "foes", .inr "answers", .inr "clauses"] : List L2.Key).Nodup from by decide +kernel) (by decide)))
    (dss_cons (ds_for PassesOwn.never rfl (di_any (de_sl (dv 5) (do_some (dv 1)) do_none)) (dt_name (i := 7) sc__law_book_drawn.nd rfl (by first | exact Or.inl rfl | exact Or.inr rfl))
    (dss_cons (ds_set (i := 8) sc__law_book_drawn.nd rfl (by first | exact Or.inl rfl | exact Or.inr rfl) (de_call k__law_some hr (da_cons (dv 0) (da_cons (de_sl (dv 5) do_none (do_some (dv 1))) (da_cons (de_call k__law_take hr (da_cons (dv 0) (da_cons (de_op op_addG od_add (de_callB (call_min2 rfl) cd_min boot_min T.b_min (da_cons (dv 1) (da_cons (dv 4) da_nil))) de_int) da_nil))) da_nil)))))
    (dss_one (ds_expr (de_mtL PySem.F.slot_list_append PySem.F.type_list_append mt_append md_append (de_ix (hu_of hr) (dv 6) de_str) (da_cons (de_tup (da_cons (dv 7) (da_cons (de_lc (own := [("foe", 10)]) rfl sc__law_book_drawn.nd (di_any (de_sl (dv 5) do_none (do_some (dv 1)))) (blkOk_by (by rfl)) ⟨_, fun _ _ _ _ _ => (pg_name (i := 10) sc__law_book_drawn.nd rfl (by first | exact Or.inl rfl | exact Or.inr rfl)), (gc_name (by decide))⟩ (fun _ _ _ _ _ => (dtt_one (dt_cmp (op_inA (hu_of hr)) od_inA (by rfl) (dv 10) (dv 8)))) (fun _ _ _ _ _ => (dv 10))) da_nil))) da_nil))))))
    (dss_cons (ds_for PassesOwn.never rfl (di_rng1 T.b_range (da_cons (dv 3) da_nil)) (dt_name (i := 9) sc__law_book_drawn.nd rfl (by first | exact Or.inl rfl | exact Or.inr rfl))
    (dss_one (ds_expr (de_mtL PySem.F.slot_list_append PySem.F.type_list_append mt_append md_append (de_ix (hu_of hr) (dv 6) de_str) (da_cons de_never da_nil)))))
    (dss_one (ds_ret (dv 6))))))), fun ds M Φ h => ?_⟩)
  · obtain ⟨p, n, nf, na, rfl, _⟩ := h
    rfl
  · obtain ⟨p, n, nf, na, rfl, hp, hn, h1, h2, h3, h⟩ := h
    walk_at "nv"
    walk_at "w"
    refine i_fr ?_
    walk_at "w"
    refine ⟨p, n, dSs poolN, nf + na, rfl, hp, by simp [poolN]; omega, by simp [poolN], by omega, fun vs rest M1 hperm hl hp1 hb1 => ?_⟩
    obtain ⟨as, bs, rfl, rfl, hpm⟩ := perm_split hperm
    clear hperm
    walk_at "w"
    have hl : as.length = nf + na := by simpa using hl
    have hF0 : (as.take nf).length = nf := by rw [List.length_take]; omega
    have hnd : as.Nodup := (List.nodup_append.mp (hpm.nodup_iff.mpr pool_nodup)).1
    refine .lst rfl (i_fr ?_)
    rw [cut_to, ← List.map_take]
    walk_at "w"
    refine i_new fun pa ha => ?_
    walk_at "w"
    refine i_fr ?_
    walk_at "w"
    refine i_frD ?_
    walk_at "w"
    refine .lst rfl (i_fr ?_)
    rw [cut_from, ← List.map_drop]
    have n1 := hp1.ne ha
    walk_at "w"
    refine for_list (as.drop nf) (fun w => Dat.v (.str w)) (fun i ρ' M' => ∃ x7 x8 x9 x10 A, ρ' = [some (Dat.v (V.ref p)), some (Dat.v (V.int ↑nf)), some (Dat.v (V.int ↑na)), some (Dat.v (V.int 0)), some (Dat.v (V.int 2)), some (Dat.lst (dSs as)), some (.dic [.inr ("foes" : Str), .inr ("answers" : Str), .inr ("clauses" : Str)] [.lst (dSs (as.take nf)), .v (.ref pa), .lst []]), x7, x8, x9, x10] ∧
      A.map (·.1) = (as.drop nf).take i ∧ (∀ q ∈ A, q.2 = (as.take nf).filter (fun f => decide (f ∈ q.2)) ∧ q.2.length ≤ 2) ∧ M' pa = some (.lst (ansL A)) ∧ PotAt M' p (n + 6 + 3 * i) ∧ ∀ y, y ≠ p → y ≠ pa → M' y = M1 y) ⟨_, _, _, _, [], rfl, rfl, by simp, put_same, (hp1.mono (by omega)).same (put_ne n1), fun y h1 h2 => put_ne h2⟩ (fun _ _ _ _ => trivial) ?_ ?_
    · rintro i v ρ' M' hv ⟨x7, x8, x9, x10, A, rfl, hA1, hA2, k1, k2, k3⟩
      have hi : i < (as.drop nf).length := (List.getElem?_eq_some_iff.mp hv).1
      have hi3 : i < 3 := by rw [List.length_drop] at hi; omega
      have hAl : A.length ≤ 3 := by
        have := congrArg List.length hA1
        rw [List.length_map, List.length_take] at this
        omega
      walk_at "w"
      refine .lst rfl (i_fr ?_)
      rw [cut_to]
      walk_at "w"
      have e2 : ((if (2 : Int) < (nf : Int) then (2 : Int) else (nf : Int)) + 1) = (((if 2 < nf then 2 else nf) + 1 : Nat) : Int) := by split <;> split <;> omega
      rw [e2]
      refine ⟨p, _, _, rfl, k2, by omega, by split <;> omega, by omega, fun kk M2 hk hp2 hb2 => ?_⟩
      have hk2 : kk ≤ nf ∧ kk ≤ 2 := by split at hk <;> omega
      walk_at "w"
      refine ⟨p, _, dSs (as.take nf), kk, ?_, hp2, by simp; omega, by simp; omega, by omega, fun vs rest M3 hperm3 hl3 hp3 hb3 => ?_⟩
      · simp [dSs, List.map_take]
      obtain ⟨ws, us, rfl, rfl, hperm3⟩ := perm_split hperm3
      have hl3 : ws.length = kk := by simpa using hl3
      walk_at "w"
      refine .dic rfl rfl rfl ?_
      walk_at "w"
      have hM3 : M3 pa = some (.lst (ansL A)) := by rw [hb3 pa (Ne.symm n1), hb2 pa (Ne.symm n1), k1]
      refine i_isL (lstV_at hM3) ?_
      walk_at "w"
      refine .lst rfl (i_fr ?_)
      rw [cut_to, ← List.map_take]
      walk_at "w"
      refine lc_pure (as.take nf) (fun w => Dat.v (.str w)) (fun f => decide (f ∈ ws)) (fun w => Dat.v (.str w)) trivial (by simp only [sizeLine]; omega) ?_ ?_
      · intro x hx T1 T0 q1 q0
        walk_at "nv"
        walk_at "w"
        refine i_inS (ws := ws) rfl (b0 := decide (x ∈ ws)) rfl ?_
        refine i_bl (i_ite (fun hb => ?_) (fun hb => ?_))
        · walk_at "w"
          exact q1 hb
        · exact q0 hb
      refine i_fr ?_
      walk_at "w"
      refine i_append hM3 (by simp [ansL, sizeLine]; omega) ?_
      walk_at "w"
      have hFn : (as.take nf).Nodup := hnd.sublist (List.take_sublist _ _)
      refine ⟨_, _, _, _, A ++ [(v, (as.take nf).filter fun f => decide (f ∈ ws))], rfl, ?_, fun q hq => ?_, ?_, ?_, fun y h1 h2 => ?_⟩
      · rw [List.map_append, hA1, take_snoc hv]; rfl
      · rcases List.mem_append.mp hq with hq | hq
        · exact hA2 q hq
        · rw [List.mem_singleton.mp hq]
          exact ⟨filter_twice.symm, Nat.le_trans (filter_len hFn) (by omega)⟩
      · rw [put_same]
        simp [ansL]
      · refine (hp3.mono ?_).same (put_ne n1)
        omega
      · rw [put_ne h2, hb3 y h1, hb2 y h1, k3 y h1 h2]
    · rintro ρ' M' ⟨x7, x8, x9, x10, A, rfl, hA1, hA2, k1, k2, k3⟩
      rw [List.take_of_length_le (Nat.le_refl _)] at hA1
      have hAl : A.length = na := by
        have := congrArg List.length hA1
        rw [List.length_map, List.length_drop] at this
        omega
      walk_at "w"
      refine ⟨0, rfl, by decide, by decide, ?_⟩
      refine for_rng (n := 0) (lo := 0) (fun i ρ' M2 => M2 = M' ∧ ρ' = [some (Dat.v (V.ref p)), some (Dat.v (V.int ↑nf)), some (Dat.v (V.int ↑na)), some (Dat.v (V.int 0)), some (Dat.v (V.int 2)), some (Dat.lst (dSs as)), some (.dic [.inr ("foes" : Str), .inr ("answers" : Str), .inr ("clauses" : Str)] [.lst (dSs (as.take nf)), .v (.ref pa), .lst []]), x7, x8, x9, x10]) ⟨rfl, rfl⟩ (fun _ _ _ _ => trivial) (fun i _ _ hi => absurd hi (by omega)) ?_
      rintro ρ' M2 ⟨rfl, rfl⟩
      walk_at "v"
      refine ⟨_, _, Fz.dicI (FzL.cons Fz.rfl (FzL.cons (Fz.lst k1) (FzL.cons Fz.rfl FzL.nil))), h (as.take nf) A _ (book_good hpm rfl hA1 (by omega) (fun z => by rw [z] at hAl; simp at hAl; omega) (by omega) hA2) hF0 hAl (fun q hq => (hA2 q hq).2) ?_ fun y hy => ?_⟩
      · refine (k2.mono ?_).same (del_ne n1)
        rw [List.length_drop]
        omega
      · by_cases e : y = pa
        · subst e
          rw [del_same, ← hb1 _ hy, ha]
        · rw [del_ne e, k3 y hy e, hb1 y hy]
theorem int_of {e : Dat} {js : List Int} (h : e ∈ js.map fun j => Dat.v (.int j)) : ∃ j, j ∈ js ∧ e = .v (.int j) := by
  obtain ⟨j, hj, rfl⟩ := List.mem_map.mp h
  exact ⟨j, hj, rfl⟩
theorem str_of {e : Dat} {js : List Str} (h : e ∈ js.map fun j => Dat.v (.str j)) : ∃ j, j ∈ js ∧ e = .v (.str j) := by
  obtain ⟨j, hj, rfl⟩ := List.mem_map.mp h
  exact ⟨j, hj, rfl⟩
theorem GoodL.snoc {F : List Str} {A L : An} {w : Str} {ns : List Str} (h : GoodL F A L) (h1 : L.length < 30) (h2 : w ∈ [("even" : Str), "odd"]) (h3 : ns.Nodup) (h4 : ns.length ≤ 8) (h5 : ∀ x ∈ ns, x ∈ F ++ A.map (·.1)) : GoodL F A (L ++ [(w, ns)]) := by
  refine ⟨by simp; omega, fun q hq => ?_, fun q hq => ?_, fun q hq => ?_, fun q hq => ?_⟩
  all_goals rcases List.mem_append.mp hq with z | z
  · exact h.w q z
  · rw [List.mem_singleton.mp z]; exact h2
  · exact h.d q z
  · rw [List.mem_singleton.mp z]; exact h3
  · exact h.l q z
  · rw [List.mem_singleton.mp z]; exact h4
  · exact h.s q z
  · rw [List.mem_singleton.mp z]; exact h5
theorem cut_one {d : Dat} {ds : List Dat} : DL.cutD (d :: ds) none (some 1) = [d] := cut_to (n := 1)
theorem i_setD {p : Addr} {ks : List Key} {ds : List Dat} {k : Key} {d b new : Dat} {M : Mem} {Φ : Mem → Prop} (hm : M p = some (.dic ks ds)) (hk : keyD b = some k) (hl : ks.length < sizeLine) (e : Dat.dic (dputK ks k) (dputV ks ds k d) = new) (h : Φ (M.put p new)) : OSet (.v (.ref p)) b d M Φ := by
  subst e
  exact .dic hm hk hl h
theorem atI_last {α : Type} (xs : List α) (x : α) : atI (xs ++ [x]) (-1) = some x := by
  unfold atI ixN
  rw [if_neg (by decide), if_pos (by simp; omega)]
  simp only [Option.bind_some]
  rw [show (-1 + ((xs ++ [x]).length : Int)).toNat = xs.length by simp; omega]
  simp
abbrev s__law_par_drawn : Stmt := topS 80
theorem sc__law_par_drawn : FnScope ["pot", "own", "names", "lines", "lap", "some"] ["pot"] (defScope s__law_par_drawn) := ⟨rfl, rfl, rfl, by decide +kernel, rfl, by decide +kernel, by decide +kernel⟩
theorem ok__law_par_drawn (T : Tx K mg cl) (F : FunD K "_law_par_drawn" "_law_par_drawn" (defArgs s__law_par_drawn) (defBody s__law_par_drawn) (defScope s__law_par_drawn) [] [] f fd) (hm : mg "_law_par_drawn" = some (.ref f)) (b : Binds K fd ["pot"] []) (k__law_book_drawn : DCal P w K mg base cl 3 "_law_book_drawn" c__law_book_drawn) (k__law_of : DCal P w K mg base cl 2 "_law_of" c__law_of) (k__law_book_names : DCal P w K mg base cl 1 "_law_book_names" c__law_book_names) (k__law_some : DCal P w K mg base cl 2 "_law_some" c__law_some) (k__law_take : DCal P w K mg base cl 1 "_law_take" c__law_take) : DCal P w K mg base cl 4 "_law_par_drawn" c__law_par_drawn := by
  refine cal_D F hm b sc__law_par_drawn (fun ds M Φ h => ?_) (fun cdv A outer s H E hr => ⟨_, (dss_cons (ds_set (i := 1) sc__law_par_drawn.nd rfl (by first | exact Or.inl rfl | exact Or.inr rfl) (de_call k__law_book_drawn hr (da_cons (dv 0) (da_cons (de_call k__law_of hr (da_cons (dv 0) (da_cons (de_lst (da_cons de_int (da_cons de_int (da_cons de_int (da_cons de_int (da_cons de_int da_nil)))))) da_nil))) (da_cons (de_call k__law_of hr (da_cons (dv 0) (da_cons (de_lst (da_cons de_int (da_cons de_int (da_cons de_int (da_cons de_int da_nil))))) da_nil))) (da_cons de_int (da_cons de_int da_nil)))))))
    (dss_cons (ds_par (i := 2) (j := 3) rfl sc__law_par_drawn.nd rfl rfl (da_cons (de_call k__law_book_names hr (da_cons (dv 1) da_nil)) (da_cons (de_lst da_nil) da_nil)))
    (dss_cons (ds_for PassesOwn.never rfl (di_rng1 T.b_range (da_cons (de_call k__law_of hr (da_cons (dv 0) (da_cons (de_lst (da_cons de_int (da_cons de_int (da_cons de_int (da_cons de_int (da_cons de_int da_nil)))))) da_nil))) da_nil)) (dt_name (i := 4) sc__law_par_drawn.nd rfl (by first | exact Or.inl rfl | exact Or.inr rfl))
    (dss_cons (ds_set (i := 5) sc__law_par_drawn.nd rfl (by first | exact Or.inl rfl | exact Or.inr rfl) (de_call k__law_some hr (da_cons (dv 0) (da_cons (dv 2) (da_cons (de_call k__law_take hr (da_cons (dv 0) (da_cons (de_op op_addG od_add (de_callB (call_min2 rfl) cd_min boot_min T.b_min (da_cons (de_callB call_lenG cd_len boot_len T.b_len (da_cons (dv 2) da_nil)) (da_cons de_int da_nil))) de_int) da_nil))) da_nil)))))
    (dss_one (ds_expr (de_mtL PySem.F.slot_list_append PySem.F.type_list_append mt_append md_append (dv 3) (da_cons (de_tup (da_cons (de_call k__law_of hr (da_cons (dv 0) (da_cons (de_lst (da_cons de_str (da_cons de_str da_nil))) da_nil))) (da_cons (dv 5) da_nil))) da_nil))))))
    (dss_one (ds_ret (de_disp2 (dps_cons (key := .inr "foes") pe_str (de_ix (hu_of hr) (dv 1) de_str) (dps_cons (key := .inr "answers") pe_str (de_ix (hu_of hr) (dv 1) de_str) (dps_cons (key := .inr "lines") pe_str (dv 3) (dps_cons (key := .inr "clauses") pe_str (de_lst da_nil) dps_nil)))) (show ([.inr "foes", .inr "answers", .inr "lines", .inr "clauses"] : List L2.Key).Nodup from by decide +kernel) (by decide))))))), fun ds M Φ h => ?_⟩)
  · obtain ⟨p, n, rfl, _⟩ := h
    rfl
  · obtain ⟨p, n, rfl, hp, hn, h⟩ := h
    walk_at "nv"
    walk_at "w"
    refine i_fr ?_
    walk_at "w"
    refine ⟨p, n, _, rfl, hp, by simp, by simp, by omega, fun k1 e1 M1 he1 hp1 hb1 => ?_⟩
    obtain ⟨j1, hj1, rfl⟩ := int_of (js := [2, 2, 3, 1, 0]) (List.mem_of_getElem? he1)
    have hj1 : 0 ≤ j1 ∧ j1 ≤ 3 := by simp at hj1; omega
    walk_at "w"
    refine i_fr ?_
    walk_at "w"
    refine ⟨p, _, _, rfl, hp1, by simp, by simp, by omega, fun k2 e2 M2 he2 hp2 hb2 => ?_⟩
    obtain ⟨j2, hj2, rfl⟩ := int_of (js := [2, 3, 2, 1]) (List.mem_of_getElem? he2)
    have hj2 : 1 ≤ j2 ∧ j2 ≤ 3 := by simp at hj2; omega
    walk_at "w"
    rw [← Int.toNat_of_nonneg hj1.1, ← Int.toNat_of_nonneg (show 0 ≤ j2 by omega)]
    refine ⟨p, _, j1.toNat, j2.toNat, rfl, hp2, by omega, by omega, by omega, by omega, fun F A M3 g hF hA hA2 hp3 hb3 => ?_⟩
    walk_at "w"
    refine ⟨_, F, A, rfl, ⟨_, _, rfl, rfl, rfl⟩, by omega, by omega, ?_⟩
    walk_at "w"
    refine i_new fun pl hl => ?_
    walk_at "w"
    have n1 := hp3.ne hl
    refine i_fr ?_
    walk_at "w"
    refine ⟨p, _, _, rfl, hp3.same (put_ne n1), by simp, by simp, by omega, fun k4 e4 M4 he4 hp4 hb4 => ?_⟩
    obtain ⟨j4, hj4, rfl⟩ := int_of (js := [2, 3, 1, 4, 0]) (List.mem_of_getElem? he4)
    have hj4 : 0 ≤ j4 ∧ j4 ≤ 4 := by simp at hj4; omega
    walk_at "w"
    refine ⟨j4, rfl, by omega, by omega, ?_⟩
    refine for_rng (fun i ρ' M' => ∃ x4 x5 L, ρ' = [some (Dat.v (V.ref p)), some (bookP F A), some (.lst (dSs (F ++ A.map (·.1)))), some (.v (.ref pl)), x4, x5] ∧ L.length = i ∧ GoodL F A L ∧ M' pl = some (.lst (ansL L)) ∧ PotAt M' p (n + 1 + 1 + 100 + 1 + 10 * i) ∧ ∀ y, y ≠ p → y ≠ pl → M' y = M3 y) ⟨_, _, [], rfl, rfl, ⟨by simp, by simp, by simp, by simp, by simp⟩, (hb4 pl (Ne.symm n1)).trans put_same, hp4, fun y h1 h2 => (hb4 y h1).trans (put_ne h2)⟩ (fun _ _ _ _ => trivial) ?_ ?_
    · rintro i ρ' M' hi ⟨x4, x5, L, rfl, hLi, gl, k1, k2, k3⟩
      have hnl : (F ++ A.map (·.1)).length = F.length + A.length := by simp
      have hi4 : i < 4 := by omega
      walk_at "w"
      rw [show (dSs (F ++ A.map (·.1))).length = F.length + A.length by simp]
      have e2 : ((if (4 : Int) < ((F.length + A.length : Nat) : Int) then (4 : Int) else ((F.length + A.length : Nat) : Int)) + 1) = (((if 4 < F.length + A.length then 4 else F.length + A.length) + 1 : Nat) : Int) := by split <;> split <;> omega
      rw [e2]
      refine ⟨p, _, _, rfl, k2, by omega, by split <;> omega, by omega, fun kk M5 hk hp5 hb5 => ?_⟩
      have hk2 : kk ≤ F.length + A.length ∧ kk ≤ 4 := by split at hk <;> omega
      walk_at "w"
      refine ⟨p, _, dSs (F ++ A.map (·.1)), kk, rfl, hp5, by simp; omega, by simp; omega, by omega, fun vs rest M6 hperm hl6 hp6 hb6 => ?_⟩
      obtain ⟨ws, us, rfl, rfl, hpm⟩ := perm_split hperm
      have hwl : ws.length = kk := by simpa using hl6
      walk_at "w"
      have hM6 : M6 pl = some (.lst (ansL L)) := by rw [hb6 pl (Ne.symm n1), hb5 pl (Ne.symm n1), k1]
      refine i_isL (lstV_at hM6) ?_
      walk_at "w"
      refine i_fr ?_
      walk_at "w"
      refine ⟨p, _, _, rfl, hp6, by simp, by simp, by omega, fun k7 e7 M7 he7 hp7 hb7 => ?_⟩
      obtain ⟨w7, hw7, rfl⟩ := str_of (js := ["even", "odd"]) (List.mem_of_getElem? he7)
      walk_at "w"
      have hM7 : M7 pl = some (.lst (ansL L)) := by rw [hb7 pl (Ne.symm n1), hM6]
      refine i_append hM7 (by simp [ansL, sizeLine]; omega) ?_
      walk_at "w"
      refine ⟨_, _, L ++ [(w7, ws)], rfl, by simp; omega, gl.snoc (by omega) hw7 ?_ (by omega) fun x hx => ?_, ?_, (hp7.mono ?_).same (put_ne n1), fun y h1 h2 => ?_⟩
      · exact (List.nodup_append.mp (hpm.nodup_iff.mpr g.nodup)).1
      · exact hpm.subset (List.mem_append_left _ hx)
      · rw [put_same]
        simp [ansL]
      · omega
      · rw [put_ne h2, hb7 y h1, hb6 y h1, hb5 y h1, k3 y h1 h2]
    · rintro ρ' M' ⟨x4, x5, L, rfl, hLi, gl, k1, k2, k3⟩
      walk_at "w"
      refine .dic rfl rfl rfl ?_
      walk_at "w"
      refine .dic rfl rfl rfl ?_
      walk_at "w"
      refine i_fr ?_
      walk_at "w"
      refine i_frD ?_
      refine ⟨_, _, Fz.dicI (FzL.cons Fz.rfl (FzL.cons Fz.rfl (FzL.cons (Fz.lst k1) (FzL.cons Fz.rfl FzL.nil)))), h F A L _ g gl (by omega) (by omega) (by omega) ((k2.mono (by omega)).same (del_ne n1)) fun y hy => ?_⟩
      by_cases e : y = pl
      · subst e
        rw [del_same, ← hb1 _ hy, ← hb2 _ hy, ← hb3 _ hy]
        rw [hb3 _ hy, hb2 _ hy, hb1 _ hy] at hl
        rw [hb3 _ hy, hb2 _ hy, hb1 _ hy, hl]
      · rw [del_ne e, k3 y hy e, hb3 y hy, hb2 y hy, hb1 y hy]
abbrev s__law_is_told_right : Stmt := topS 86
theorem sc__law_is_told_right : FnScope ["own", "many", "rows", "due", "values", "some", "rest", "at"] ["own"] (defScope s__law_is_told_right) := ⟨rfl, rfl, rfl, by decide +kernel, rfl, by decide +kernel, by decide +kernel⟩
theorem ok__law_is_told_right (T : Tx K mg cl) (F : FunD K "_law_is_told_right" "_law_is_told_right" (defArgs s__law_is_told_right) (defBody s__law_is_told_right) (defScope s__law_is_told_right) [] [] f fd) (hm : mg "_law_is_told_right" = some (.ref f)) (b : Binds K fd ["own"] []) (kw_plans_of : DCalK P w K mg base cl 7 "plans_of" "parities" c_plans_of) (mk_Parities : DMak P w K mg base cl 9 "Parities" 2 c_Parities_init) (k__law_par_text : DCal P w K mg base cl 1 "_law_par_text" c__law_par_text) (k__law_is_int : DCal P w K mg base cl 1 "_law_is_int" c__law_is_int) (k__law_par_many : DCal P w K mg base cl 5 "_law_par_many" c__law_par_many) (k__law_book_cells : DCal P w K mg base cl 2 "_law_book_cells" c__law_book_cells) (k__law_par_rows : DCal P w K mg base cl 4 "_law_par_rows" c__law_par_rows) (k__law_plan_all : DCal P w K mg base cl 3 "_law_plan_all" c__law_plan_all) : DCal P w K mg base cl 11 "_law_is_told_right" c__law_is_told_right := by
  refine cal_D F hm b sc__law_is_told_right (fun ds M Φ h => ?_) (fun cdv A outer s H E hr => ⟨_, (dss_cons (ds_set (i := 1) sc__law_is_told_right.nd rfl (by first | exact Or.inl rfl | exact Or.inr rfl) (de_callK2 kw_plans_of hr (de_make (nf := 3) mk_Parities hr (da_cons (de_call k__law_par_text hr (da_cons (dv 0) da_nil)) da_nil))))
    (dss_cons (ds_if (DW.dt (dw_or (dt_not (dt_val (de_call k__law_is_int hr (da_cons (dv 1) (da_cons de_int (da_cons (de_op op_pow od_I de_int de_int) da_nil)))))) (dw_or1 (dt_cmp (op_neD hr.units) od_ne (nomark _) (dv 1) (de_call k__law_par_many hr (da_cons (dv 0) da_nil)))))) (dss_one (ds_ret de_bl)) dss_nil)
    (dss_cons (ds_if (dt_cmp op_gt od_gt (nomark _) (de_callB call_lenG cd_len boot_len T.b_len (da_cons (de_call k__law_book_cells hr (da_cons (dv 0) da_nil)) da_nil)) de_int) (dss_one (ds_ret de_bl)) dss_nil)
    (dss_cons (ds_par (i := 2) (j := 3) rfl sc__law_is_told_right.nd rfl rfl (da_cons (de_call k__law_par_rows hr (da_cons (dv 0) da_nil)) (da_cons de_int da_nil)))
    (dss_cons (ds_for PassesOwn.never rfl (di_any (de_call k__law_plan_all hr (da_cons (dv 0) da_nil))) (dt_name (i := 4) sc__law_is_told_right.nd rfl (by first | exact Or.inl rfl | exact Or.inr rfl))
    (dss_one (ds_set (i := 3) sc__law_is_told_right.nd rfl (by first | exact Or.inl rfl | exact Or.inr rfl) (de_op op_addG od_add (dv 3) (de_callTy call_int1 cd_int boot_int T.b_int (da_cons (de_callB (cr_all rfl) cd_all boot_all T.b_all (da_cons (de_lc (own := [("some", 5), ("rest", 6)]) rfl sc__law_is_told_right.nd (di_any (dv 2)) (blkOk_by (by rfl)) ⟨_, fun _ _ _ _ _ => (PG.or (pg_tup (n := 2) rfl (pgs_cons (pg_name (i := 5) sc__law_is_told_right.nd rfl (by first | exact Or.inl rfl | exact Or.inr rfl)) (pgs_cons (pg_name (i := 6) sc__law_is_told_right.nd rfl (by first | exact Or.inl rfl | exact Or.inr rfl)) pgs_nil))) (pg_lst (n := 2) rfl (pgs_cons (pg_name (i := 5) sc__law_is_told_right.nd rfl (by first | exact Or.inl rfl | exact Or.inr rfl)) (pgs_cons (pg_name (i := 6) sc__law_is_told_right.nd rfl (by first | exact Or.inl rfl | exact Or.inr rfl)) pgs_nil)))), (gc_tup (gcs_cons (gc_name (by decide)) (gcs_cons (gc_name (by decide)) gcs_nil)))⟩ (fun _ _ _ _ _ => dtt_nil) (fun _ _ _ _ _ => (de_cmp (op_eqD hr.units) od_eq (nomark _) (de_op op_mod od_I (de_callTy call_int1 cd_int boot_int T.b_int (da_cons (de_callB (cr_sum rfl) cd_sum boot_sum T.b_sum (da_cons (de_lc (own := [("at", 7)]) rfl sc__law_is_told_right.nd (di_any (dv 5)) (blkOk_by (by rfl)) ⟨_, fun _ _ _ _ _ => (pg_name (i := 7) sc__law_is_told_right.nd rfl (by first | exact Or.inl rfl | exact Or.inr rfl)), (gc_name (by decide))⟩ (fun _ _ _ _ _ => dtt_nil) (fun _ _ _ _ _ => (de_ix (hu_of hr) (dv 4) (dv 7)))) da_nil)) da_nil)) de_int) (dv 6)))) da_nil)) da_nil))))))
    (dss_one (ds_ret (de_cmp (op_eqD hr.units) od_eq (nomark _) (dv 1) (dv 3))))))))), fun ds M Φ h => ?_⟩)
  · obtain ⟨d, F, A, L, rfl, _⟩ := h
    rfl
  · obtain ⟨d, F, A, L, rfl, o, l, g, gl, h⟩ := h
    walk_at "nv"
    walk_at "w"
    refine ⟨d, F, A, L, rfl, o, l, g, gl, ?_⟩
    walk_at "w"
    intro a ha
    have la : ∀ c : Dat, M.le (M.put a c) := fun c => le_put (Mem.le_refl M) ha
    refine ⟨a, _, F, A, L, rfl, put_same, parTxt g gl, rfl, ?_⟩
    rw [put_put]
    refine ⟨_, _, F, A, L, rfl, objV_at put_same, g, gl, fun fs c wf hr hl => ?_⟩
    rw [runs_num g gl hr]
    have hcl : (cellsN A).length ≤ 64 := by rw [cells_many]; exact g.many
    have hnl := num_le (F := F) (L := L) hcl
    walk_at "w"
    refine i_pow (n := 64) rfl (by decide) (by decide) ?_
    walk_at "w"
    refine ⟨_, _, _, rfl, ?_⟩
    have e1 : (decide ((0 : Int) ≤ (numN F A L : Nat)) && decide (((numN F A L : Nat) : Int) ≤ 2 ^ ((64 : Nat) : Int).toNat)) = true := by
      rw [Bool.and_eq_true, decide_eq_true_eq, decide_eq_true_eq]
      refine ⟨by omega, ?_⟩
      rw [Int.toNat_natCast]
      omega
    rw [e1]
    walk_at "w"
    refine ⟨d, F, A, L, rfl, o.le (la _), l.le (la _), g, gl, ?_⟩
    refine i_neI (b0 := false) (by simp) ?_
    walk_at "w"
    refine ⟨d, F, A, rfl, o.le (la _), g, ?_⟩
    walk_at "w"
    rw [show (clsD (cellsN A)).length = (cellsN A).length by simp [clsD]]
    refine i_ite (fun hb => ?_) (fun hb => ?_)
    · walk_at "v"
      exact ⟨_, M, Fz.le (la _), h⟩
    have hc8 : (cellsN A).length ≤ 8 := by have := of_decide_eq_false hb; omega
    walk_at "w"
    refine ⟨d, F, A, L, rfl, o.le (la _), l.le (la _), g, gl, ?_⟩
    walk_at "w"
    refine ⟨d, F, A, rfl, o.le (la _), g, by omega, ?_⟩
    walk_at "w"
    have hrl : (rowsLn F A L).length ≤ 2000 := by
      unfold rowsLn rowsOf
      rw [List.length_map, rowsOf_len, rowsN_len]
      have h1 : 2 ^ F.length ≤ 64 := Nat.le_trans (Nat.pow_le_pow_right (by decide) g.f6) (by decide)
      exact Nat.le_trans (Nat.mul_le_mul h1 gl.n) (by decide)
    refine for_list (rowsN (cellsN A).length) (fun r => Dat.tup (dIs r)) (fun i ρ' M' => M' = M.put a (.obj 2 (parD (textOf (parRows F A L)) F A L)) ∧ ∃ x4 x5 x6 x7, ρ' = [some d, some (.v (.int (numN F A L : Nat))), some (.lst ((rowsLn F A L).map lnD)), some (.v (.int ((((rowsN (cellsN A).length).take i).filter fun v => (rowsLn F A L).all (lineOk v)).length : Nat))), x4, x5, x6, x7]) ⟨rfl, _, _, _, _, rfl⟩ (fun _ _ _ _ => trivial) ?_ ?_
    · rintro i v ρ' M' hv ⟨rfl, x4, x5, x6, x7, rfl⟩
      obtain ⟨hv1, hv2⟩ := rowsN_iff.mp (List.mem_of_getElem? hv)
      walk_at "w"
      refine lc_map (rowsLn F A L) lnD (fun p => .v (.bl (lineOk v p))) trivial (by simp only [sizeLine]; omega) ?_ ?_
      · intro p hp T1 k
        obtain ⟨r1, r2, r3⟩ := rowsLn_ok g hp
        have hpl : p.1.length ≤ (cellsN A).length := nodup_le (lt_nodup r1) r2
        walk_at "nv"
        walk_at "w"
        refine lc_map p.1 (fun n : Nat => Dat.v (.int (n : Nat))) (fun i => .v (.int (v[i]?.getD 0))) trivial (by simp only [sizeLine]; omega) ?_ ?_
        · intro j hj T2 k2
          have hjl : j < v.length := by rw [hv1]; exact r2 j hj
          have hjv : v[j]? = some v[j] := List.getElem?_eq_getElem hjl
          walk_at "nv"
          walk_at "w"
          refine .seq rfl (atI_nth (by rw [List.getElem?_map, hjv]; rfl)) ?_
          rw [hjv] at k2
          exact k2
        refine i_fr ?_
        walk_at "w"
        refine i_sum (bs := p.1.map fun i => v[i]?.getD 0) (by rw [List.map_map]; rfl) ?_
        walk_at "w"
        refine i_eqI (b0 := lineOk v p) rfl ?_
        exact k
      refine i_fr ?_
      walk_at "w"
      refine i_all (bs := (rowsLn F A L).map (lineOk v)) (by rw [List.map_map]; rfl) ?_
      walk_at "w"
      refine ⟨trivial, some (.tup (dIs v)), x5, x6, x7, ?_⟩
      rw [take_snoc hv, List.filter_append, List.length_append, List.all_map]
      have e2 : (((rowsN (cellsN A).length).take i).filter fun v => (rowsLn F A L).all (lineOk v)).length + (if (rowsLn F A L).all (id ∘ lineOk v) = true then 1 else 0) = (((rowsN (cellsN A).length).take i).filter fun v => (rowsLn F A L).all (lineOk v)).length + ([v].filter fun v => (rowsLn F A L).all (lineOk v)).length := by
        rw [List.filter_cons, List.filter_nil]
        rw [show (id ∘ lineOk v) = lineOk v from rfl]
        split <;> rfl
      rw [← e2]
      split <;> simp
    · rintro ρ' M' ⟨rfl, x4, x5, x6, x7, rfl⟩
      rw [List.take_of_length_le (Nat.le_refl _), brute_num g]
      walk_at "w"
      refine i_eqI (b0 := true) (decide_eq_true rfl) ?_
      walk_at "v"
      exact ⟨_, M, Fz.le (la _), h⟩
abbrev s__law_right : Stmt := topS 87
theorem sc__law_right : FnScope ["pot", "own", "names", "more", "some", "blind", "numbers", "word", "name", "looks"] ["pot"] (defScope s__law_right) := ⟨rfl, rfl, rfl, by decide +kernel, rfl, by decide +kernel, by decide +kernel⟩
theorem ok__law_right (T : Tx K mg cl) (F : FunD K "_law_right" "_law_right" (defArgs s__law_right) (defBody s__law_right) (defScope s__law_right) [] [] f fd) (hm : mg "_law_right" = some (.ref f)) (b : Binds K fd ["pot"] []) (k__law_par_drawn : DCal P w K mg base cl 4 "_law_par_drawn" c__law_par_drawn) (k__law_book_names : DCal P w K mg base cl 1 "_law_book_names" c__law_book_names) (k__law_some : DCal P w K mg base cl 2 "_law_some" c__law_some) (k__law_take : DCal P w K mg base cl 1 "_law_take" c__law_take) (k__law_of : DCal P w K mg base cl 2 "_law_of" c__law_of) (k__law_is_told_right : DCal P w K mg base cl 11 "_law_is_told_right" c__law_is_told_right) (k_plans_of : DCal P w K mg base cl 7 "plans_of" c_plans_of) (mk_Parities : DMak P w K mg base cl 9 "Parities" 2 c_Parities_init) (k__law_par_text : DCal P w K mg base cl 1 "_law_par_text" c__law_par_text) (k__law_par_many : DCal P w K mg base cl 5 "_law_par_many" c__law_par_many) : DCal P w K mg base cl 12 "_law_right" c__law_right := by
  refine cal_D F hm b sc__law_right (fun ds M Φ h => ?_) (fun cdv A outer s H E hr => ⟨_, (dss_cons (ds_set (i := 1) sc__law_right.nd rfl (by first | exact Or.inl rfl | exact Or.inr rfl) (de_call k__law_par_drawn hr (da_cons (dv 0) da_nil)))
    (dss_cons (ds_par (i := 2) (j := 3) rfl sc__law_right.nd rfl rfl (da_cons (de_call k__law_book_names hr (da_cons (dv 1) da_nil)) (da_cons (de_callTy (call_dictP rfl) cd_dictP boot_dict T.b_dict (da_cons (de_listItems T.b_list (dv 1)) da_nil)) da_nil)))
    (dss_cons (ds_set (i := 4) sc__law_right.nd rfl (by first | exact Or.inl rfl | exact Or.inr rfl) (de_call k__law_some hr (da_cons (dv 0) (da_cons (dv 2) (da_cons (de_call k__law_take hr (da_cons (dv 0) (da_cons (de_op op_addG od_add (de_callB (call_min2 rfl) cd_min boot_min T.b_min (da_cons (de_callB call_lenG cd_len boot_len T.b_len (da_cons (dv 2) da_nil)) (da_cons de_int da_nil))) de_int) da_nil))) da_nil)))))
    (dss_cons (ds_asg (de_op op_addG od_add (de_ix (hu_of hr) (dv 1) de_str) (de_lst (da_cons (de_tup (da_cons (de_call k__law_of hr (da_cons (dv 0) (da_cons (de_lst (da_cons de_str (da_cons de_str da_nil))) da_nil))) (da_cons (dv 4) da_nil))) da_nil))) (dt_sub (hu_of hr) (dv 3) de_str))
    (dss_cons (ds_if (DW.dt (dw_or (dt_not (dt_val (de_call k__law_is_told_right hr (da_cons (dv 1) da_nil)))) (dw_or1 (dt_not (dt_val (de_call k__law_is_told_right hr (da_cons (dv 3) da_nil))))))) (dss_one (ds_ret de_bl)) dss_nil)
    (dss_cons (ds_setLc (i := 5) (own := [("name", 8), ("looks", 9)]) rfl sc__law_right.nd rfl rfl (sw_true rfl rfl rfl (by decide +kernel)) (di_any (de_ix (hu_of hr) (dv 1) de_str)) (blkOk_by (by rfl)) ⟨_, fun _ _ _ _ _ => (PG.or (pg_tup (n := 2) rfl (pgs_cons (pg_name (i := 8) sc__law_right.nd rfl (by first | exact Or.inl rfl | exact Or.inr rfl)) (pgs_cons (pg_name (i := 9) sc__law_right.nd rfl (by first | exact Or.inl rfl | exact Or.inr rfl)) pgs_nil))) (pg_lst (n := 2) rfl (pgs_cons (pg_name (i := 8) sc__law_right.nd rfl (by first | exact Or.inl rfl | exact Or.inr rfl)) (pgs_cons (pg_name (i := 9) sc__law_right.nd rfl (by first | exact Or.inl rfl | exact Or.inr rfl)) pgs_nil)))), (gc_tup (gcs_cons (gc_name (by decide)) (gcs_cons (gc_name (by decide)) gcs_nil)))⟩ (fun _ _ _ _ _ => (dtt_one (dt_cmp (op_eqD hr.units) od_eq (nomark _) (dv 9) (de_lst da_nil)))) (fun _ _ _ _ _ => (dv 8)))
    (dss_cons (ds_if (dt_cmp (op_eqD hr.units) od_eq (nomark _) (dv 5) (de_lst da_nil)) (dss_one (ds_ret de_bl)) dss_nil)
    (dss_cons (ds_set (i := 6) sc__law_right.nd rfl (by first | exact Or.inl rfl | exact Or.inr rfl) (de_lst da_nil))
    (dss_cons (ds_for PassesOwn.never rfl (di_any (de_tup (da_cons de_str (da_cons de_str da_nil)))) (dt_name (i := 7) sc__law_right.nd rfl (by first | exact Or.inl rfl | exact Or.inr rfl))
    (dss_cons (ds_asg (de_op op_addG od_add (de_ix (hu_of hr) (dv 1) de_str) (de_lst (da_cons (de_tup (da_cons (dv 7) (da_cons (de_sl (dv 5) do_none (do_some de_int)) da_nil))) da_nil))) (dt_sub (hu_of hr) (dv 3) de_str))
    (dss_cons (ds_expr (de_mtL PySem.F.slot_list_append PySem.F.type_list_append mt_append md_append (dv 6) (da_cons (de_call k_plans_of hr (da_cons (de_make (nf := 3) mk_Parities hr (da_cons (de_call k__law_par_text hr (da_cons (dv 3) da_nil)) da_nil)) da_nil)) da_nil)))
    (dss_one (ds_if (dt_cmp (op_neD hr.units) od_ne (nomark _) (de_ix (hu_of hr) (dv 6) (de_neg de_int)) (de_call k__law_par_many hr (da_cons (dv 3) da_nil))) (dss_one (ds_ret de_bl)) dss_nil)))))
    (dss_one (ds_ret (de_cmp (op_eqD hr.units) od_eq (nomark _) (de_callB (cr_sum rfl) cd_sum boot_sum T.b_sum (da_cons (dv 6) da_nil)) (de_call k__law_par_many hr (da_cons (dv 1) da_nil)))))))))))))), fun ds M Φ h => ?_⟩)
  · obtain ⟨p, n, rfl, _⟩ := h
    rfl
  · obtain ⟨p, n, rfl, hp, hn, h⟩ := h
    walk_at "nv"
    walk_at "w"
    refine ⟨p, n, rfl, hp, by omega, fun F A L M1 g gl hF hA hL hp1 hb1 => ?_⟩
    walk_at "w"
    refine ⟨_, F, A, rfl, ⟨_, _, rfl, rfl, rfl⟩, by omega, by omega, ?_⟩
    walk_at "w"
    refine ⟨_, _, rfl, ?_⟩
    walk_at "w"
    refine ⟨_, _, _, rfl, rfl, rfl, by decide +kernel, i_newD fun pm hm => ?_⟩
    have n1 := hp1.ne hm
    walk_at "w"
    rw [show (dSs (F ++ A.map (·.1))).length = F.length + A.length by simp]
    have e2 : ((if (5 : Int) < ((F.length + A.length : Nat) : Int) then (5 : Int) else ((F.length + A.length : Nat) : Int)) + 1) = (((if 5 < F.length + A.length then 5 else F.length + A.length) + 1 : Nat) : Int) := by split <;> split <;> omega
    rw [e2]
    refine ⟨p, _, _, rfl, hp1.same (put_ne n1), by omega, by split <;> omega, by omega, fun kk M2 hk hp2 hb2 => ?_⟩
    have hk2 : kk ≤ F.length + A.length ∧ kk ≤ 5 := by split at hk <;> omega
    walk_at "w"
    refine ⟨p, _, dSs (F ++ A.map (·.1)), kk, rfl, hp2, by simp; omega, by simp; omega, by omega, fun vs rest M3 hperm hl3 hp3 hb3 => ?_⟩
    obtain ⟨ws, us, rfl, rfl, hpm⟩ := perm_split hperm
    have hwl : ws.length = kk := by simpa using hl3
    walk_at "w"
    refine .dic rfl rfl rfl ?_
    walk_at "w"
    refine i_fr ?_
    walk_at "w"
    refine ⟨p, _, _, rfl, hp3, by simp, by simp, by omega, fun k7 e7 M7 he7 hp7 hb7 => ?_⟩
    obtain ⟨w7, hw7, rfl⟩ := str_of (js := ["even", "odd"]) (List.mem_of_getElem? he7)
    walk_at "w"
    refine i_fr ?_
    refine OAdd.l (by simp [ansL, sizeLine]; omega) ?_
    walk_at "w"
    have hM7 : M7 pm = some (ownP F A L) := by rw [hb7 pm (Ne.symm n1), hb3 pm (Ne.symm n1), hb2 pm (Ne.symm n1), put_same]; rfl
    refine .dic hM7 rfl (by simp only [List.length_cons, List.length_nil, sizeLine]; omega) ?_
    walk_at "w"
    have gl2 : GoodL F A (L ++ [(w7, ws)]) := gl.snoc (by omega) hw7 (List.nodup_append.mp (hpm.nodup_iff.mpr g.nodup)).1 (by omega) fun x hx => hpm.subset (List.mem_append_left _ hx)
    refine ⟨_, F, A, L, rfl, ⟨_, _, rfl, rfl, rfl⟩, ⟨_, _, rfl, rfl⟩, g, gl, ?_⟩
    walk_at "w"
    refine ⟨_, F, A, L ++ [(w7, ws)], rfl, ⟨_, _, dicV_at put_same, rfl, rfl⟩, ⟨_, _, dicV_at put_same, ?_⟩, g, gl2, ?_⟩
    · show some (Dat.lst (ansL L ++ _)) = _
      simp [ansL]
    walk_at "w"
    refine .dic rfl rfl rfl ?_
    walk_at "w"
    refine lc_pure A (fun q => Dat.tup [.v (.str q.1), .lst (dSs q.2)]) (fun q => q.2.isEmpty) (fun q => Dat.v (.str q.1)) trivial (by simp only [sizeLine]; omega) ?_ ?_
    · intro q hq T1 T0 q1 q0
      walk_at "nv"
      walk_at "w"
      refine i_fr ?_
      refine i_eqNil (b0 := q.2.isEmpty) rfl (pdFs_strs _) (shaped_strsL (g.okL hq)) (by simp) ?_
      refine i_bl (i_ite (fun hb => ?_) (fun hb => ?_))
      · walk_at "w"
        exact q1 hb
      · exact q0 hb
    refine i_fr ?_
    walk_at "w"
    refine i_fr ?_
    rw [show ((A.filter fun q => q.2.isEmpty).map fun q => Dat.v (V.str q.1)) = dSs ((A.filter fun q => q.2.isEmpty).map (·.1)) by simp [dSs]]
    have hok : okSs ((A.filter fun q => q.2.isEmpty).map (·.1)) := fun x hx => by
      obtain ⟨q, hq, rfl⟩ := List.mem_map.mp hx
      exact okS_name (g.ans (List.mem_filter.mp hq).1)
    cases hbl : A.filter fun q => q.2.isEmpty with
    | nil =>
      refine i_eqNil (b0 := true) rfl (pdFs_strs _) (shaped_strsL fun x hx => by simp at hx) rfl ?_
      walk_at "w"
      exact h _
    | cons q0 rest0 =>
      have hq0 : q0 ∈ A.filter fun q => q.2.isEmpty := by rw [hbl]; exact List.mem_cons_self
      obtain ⟨hqA, hqe⟩ := List.mem_filter.mp hq0
      have hqA : (q0.1, []) ∈ A := by
        rw [← List.isEmpty_iff.mp hqe]; exact hqA
      rw [hbl] at hok
      refine i_eqNil (b0 := false) rfl (pdFs_strs _) (shaped_strsL hok) rfl ?_
      walk_at "w"
      refine i_new fun pn hn2 => ?_
      obtain ⟨n2, hn3⟩ := put_none.mp hn2
      walk_at "w"
      have gl3 : ∀ w ∈ [("even" : Str), "odd"], GoodL F A (L ++ [(w, [q0.1])]) := fun w hw => gl.snoc (by omega) hw (by simp) (by simp) fun x hx => by
        rw [List.mem_singleton.mp hx]
        exact List.mem_append_right _ (List.mem_map.mpr ⟨_, hqA, rfl⟩)
      refine for_list ([("even" : Str), "odd"] : List Str) (fun w => Dat.v (.str w)) (fun i ρ' M' => ∃ x7 L', ρ' = [some (Dat.v (V.ref p)), some (ownP F A L), some (Dat.lst (dSs (F ++ A.map (·.1)))), some (Dat.v (V.ref pm)), some (Dat.lst (dSs ws)), some (Dat.lst (dSs (q0.1 :: rest0.map (·.1)))), some (Dat.v (V.ref pn)), x7, none, none] ∧
        M' pm = some (ownP F A L') ∧ M' pn = some (.lst ((([("even" : Str), "odd"].take i).map fun w => (numN F A (L ++ [(w, [q0.1])]) : Int)).map fun n => .v (.int n)))) ⟨_, L ++ [(w7, ws)], rfl, ?_, put_same⟩ (fun _ _ _ _ => trivial) ?_ ?_
      · rw [put_ne (Ne.symm n2), put_same]
        show some (Dat.dic _ [Dat.lst (dSs F), Dat.lst (ansL A), Dat.lst (ansL L ++ _), Dat.lst []]) = _
        unfold ownP
        simp [ansL, dputK, hasK]
      · rintro i w ρ' M8 hw ⟨x7, L', rfl, m1, m2⟩
        have hwm := List.mem_of_getElem? hw
        have hi2 : i < 2 := by have := (List.getElem?_eq_some_iff.mp hw).1; simpa using this
        walk_at "w"
        refine .dic rfl rfl rfl ?_
        walk_at "w"
        refine .lst rfl (i_fr ?_)
        rw [cut_one]
        walk_at "w"
        refine i_fr ?_
        refine OAdd.l (by simp [ansL, sizeLine]; omega) ?_
        walk_at "w"
        refine i_setD (new := ownP F A (L ++ [(w, [q0.1])])) m1 rfl (by simp only [List.length_cons, List.length_nil, sizeLine]; omega) ?_ ?_
        · show (Dat.dic _ [Dat.lst (dSs F), Dat.lst (ansL A), Dat.lst (ansL L ++ _), Dat.lst []]) = _
          unfold ownP
          simp [ansL, dputK, hasK]
        walk_at "w"
        have m2' : (M8.put pm (ownP F A (L ++ [(w, [q0.1])]))) pn = _ := (put_ne n2).trans m2
        refine i_isL (lstV_at m2') ?_
        walk_at "w"
        refine ⟨_, F, A, L ++ [(w, [q0.1])], rfl, ⟨_, _, dicV_at put_same, rfl, rfl⟩, ⟨_, _, dicV_at put_same, rfl⟩, g, gl3 w hwm, ?_⟩
        walk_at "w"
        intro a ha
        obtain ⟨na1, ha2⟩ := put_none.mp ha
        have na2 : a ≠ pn := fun e => by rw [e, m2'] at ha; cases ha
        refine ⟨a, _, F, A, L ++ [(w, [q0.1])], rfl, put_same, parTxt g (gl3 w hwm), rfl, ?_⟩
        rw [put_put]
        refine ⟨_, _, F, A, L ++ [(w, [q0.1])], rfl, objV_at put_same, g, gl3 w hwm, fun fs c wf hr hl => ?_⟩
        rw [runs_num g (gl3 w hwm) hr]
        walk_at "w"
        refine i_append ((put_ne (Ne.symm na2)).trans m2') (by simp [sizeLine]; omega) ?_
        walk_at "w"
        refine .seq (seqV_at put_same) (atI_last _ _) ?_
        walk_at "w"
        have mf : ((M8.put pm (ownP F A (L ++ [(w, [q0.1])]))).put a (.obj 2 (parD (textOf (parRows F A (L ++ [(w, [q0.1])]))) F A (L ++ [(w, [q0.1])])))) pm = some (ownP F A (L ++ [(w, [q0.1])])) := (put_ne (Ne.symm na1)).trans put_same
        refine ⟨_, F, A, L ++ [(w, [q0.1])], rfl, ⟨_, _, dicV_at ((put_ne (Ne.symm n2)).trans mf), rfl, rfl⟩, ⟨_, _, dicV_at ((put_ne (Ne.symm n2)).trans mf), rfl⟩, g, gl3 w hwm, ?_⟩
        refine i_neI (b0 := false) (by simp) ?_
        walk_at "w"
        refine ⟨_, _, rfl, (put_ne (Ne.symm n2)).trans mf, ?_⟩
        rw [put_same, take_snoc hw]
        simp
      · rintro ρ' M8 ⟨x7, L', rfl, m1, m2⟩
        walk_at "w"
        refine ⟨_, [(numN F A (L ++ [(("even" : Str), [q0.1])]) : Int), (numN F A (L ++ [(("odd" : Str), [q0.1])]) : Int)], rfl, lstV_at m2, ?_⟩
        walk_at "w"
        refine ⟨_, F, A, L, rfl, ⟨_, _, rfl, rfl, rfl⟩, ⟨_, _, rfl, rfl⟩, g, gl, ?_⟩
        refine i_eqI (b0 := true) (decide_eq_true ?_) ?_
        · have := num_blind (L := L) g hqA
          simp only [List.sum_cons, List.sum_nil]
          omega
        walk_at "w"
        exact h _
abbrev s_law : Stmt := topS 88
theorem sc_law : FnScope ["script", "place"] ["script"] (defScope s_law) := ⟨rfl, rfl, rfl, by decide +kernel, rfl, by decide +kernel, by decide +kernel⟩
theorem ok_law (T : Tx K mg cl) (F : FunD K "law" "law" (defArgs s_law) (defBody s_law) (defScope s_law) [] [] f fd) (hm : mg "law" = some (.ref f)) (b : Binds K fd ["script"] []) (k__law_cells : DCal P w K mg base cl 1 "_law_cells" (c__law_cells K cl)) (k__law_right : DCal P w K mg base cl 12 "_law_right" c__law_right) (k__law_pot : DCal P w K mg base cl 1 "_law_pot" (c__law_pot K cl)) : FnOk P w K mg base CX0 13 f fd ["script"] (spD cl (c_law K cl)) := by
  refine fn_D F sc_law (fun ds M Φ h => ?_) (fun cdv A outer s H E hr => ⟨_, (dss_one (ds_ret (de_callB (cr_all rfl) cd_all boot_all T.b_all (da_cons (de_lc (own := [("place", 1)]) rfl sc_law.nd (di_any (de_call k__law_cells hr (da_cons (dv 0) (da_cons de_int da_nil)))) (blkOk_by (by rfl)) ⟨_, fun _ _ _ _ _ => (pg_name (i := 1) sc_law.nd rfl (by first | exact Or.inl rfl | exact Or.inr rfl)), (gc_name (by decide))⟩ (fun _ _ _ _ _ => dtt_nil) (fun _ _ _ _ _ => (de_call k__law_right hr (da_cons (de_call k__law_pot hr (da_cons (dv 0) (da_cons (dv 1) da_nil))) da_nil)))) da_nil)))), fun ds M Φ h => ?_⟩)
  · obtain ⟨d, is, rfl, _⟩ := h
    rfl
  · obtain ⟨d, is, rfl, hs, h⟩ := h
    walk_at "nv"
    walk_at "w"
    refine ⟨d, is, 2, rfl, hs, by decide, by decide, fun k k1 k2 => ?_⟩
    walk_at "w"
    refine ⟨fun i acc M' => acc = (List.replicate i (.v (.bl true))), rfl, ?_, ?_⟩
    · rintro i d' acc M' hd rfl
      rw [List.getElem?_map] at hd
      cases hx : (List.range k)[i]? with
      | none => rw [hx] at hd; cases hd
      | some j =>
        rw [hx] at hd
        cases hd
        obtain ⟨q1, q2⟩ := List.getElem?_eq_some_iff.mp hx
        rw [List.getElem_range] at q2
        subst q2
        have hi : i < k := by simpa using q1
        refine ⟨trivial, ?_⟩
        walk_at "nv"
        walk_at "w"
        refine ⟨d, is, i, rfl, hs, by omega, fun p M2 hp hpot hb => ?_⟩
        refine ⟨p, 0, rfl, hpot, by decide, fun M3 => ?_⟩
        refine ⟨by simp [sizeLine]; omega, ?_⟩
        rw [List.replicate_succ']
    · rintro acc M' rfl
      refine ⟨trivial, i_fr ?_⟩
      walk_at "w"
      refine i_all (bs := List.replicate k true) (by simp) ?_
      walk_at "w"
      rw [show (List.replicate k true).all id = true by simp]
      exact h _
end
end K51
set_option maxRecDepth 100000
set_option maxHeartbeats 0
namespace K51
open PySem PySem.Spec PyProof.Rows L2 SlX DL He HDF
theorem facts {P : Program} {w : World} {K : PySem.W.Frag} {h : Heap} {mg : Str → Option Value} (X : K.In h) (G : h.Ns mainGlobals mg) (c : SaysH fbs fns K) :
    ∃ fd : FuncData, (∀ (s : Shared) (v : Value), BindsTo s fd ⟨[v], []⟩ [("script", v)]) ∧ mg "law" = some (.ref (ga K "law")) ∧ ∀ base : Heap, FnOk P w K mg base CX0 13 (ga K "law") fd ["script"] (spD (clF K) (c_law K (clF K))) := by
  have T : Tx K mg (clF K) := tx_of X G c
  obtain ⟨fd_is_name, F_is_name⟩ := c.def_ 0 (d := d_is_name) rfl
  have B_is_name : L2.Binds K fd_is_name ["value"] [] := F_is_name.bindsN fun _ _ _ _ _ _ us hl => match us, hl with | [_], _ => rfl
  obtain ⟨fd_lines_of, F_lines_of⟩ := c.def_ 1 (d := d_lines_of) rfl
  have B_lines_of : L2.Binds K fd_lines_of ["text"] [] := F_lines_of.bindsN fun _ _ _ _ _ _ us hl => match us, hl with | [_], _ => rfl
  obtain ⟨fd_many_cells, F_many_cells⟩ := c.def_ 2 (d := d_many_cells) rfl
  have B_many_cells : L2.Binds K fd_many_cells ["answers"] [] := F_many_cells.bindsN fun _ _ _ _ _ _ us hl => match us, hl with | [_], _ => rfl
  obtain ⟨fd_Reading_init, F_Reading_init⟩ := c.def_ 3 (d := d_Reading_init) rfl
  have B_Reading_init : L2.Binds K fd_Reading_init ["self"] [] := F_Reading_init.bindsN fun _ _ _ _ _ _ us hl => match us, hl with | [_], _ => rfl
  obtain ⟨fd_Reading_all_names, F_Reading_all_names⟩ := c.def_ 4 (d := d_Reading_all_names) rfl
  have B_Reading_all_names : L2.Binds K fd_Reading_all_names ["self"] [] := F_Reading_all_names.bindsN fun _ _ _ _ _ _ us hl => match us, hl with | [_], _ => rfl
  obtain ⟨fd_Reading_can_name, F_Reading_can_name⟩ := c.def_ 5 (d := d_Reading_can_name) rfl
  have B_Reading_can_name : L2.Binds K fd_Reading_can_name ["self", "name"] [] := F_Reading_can_name.bindsN fun _ _ _ _ _ _ us hl => match us, hl with | [_, _], _ => rfl
  obtain ⟨fd_Reading_put_foe, F_Reading_put_foe⟩ := c.def_ 6 (d := d_Reading_put_foe) rfl
  have B_Reading_put_foe : L2.Binds K fd_Reading_put_foe ["self", "words"] [] := F_Reading_put_foe.bindsN fun _ _ _ _ _ _ us hl => match us, hl with | [_, _], _ => rfl
  obtain ⟨fd_Reading_put_answer, F_Reading_put_answer⟩ := c.def_ 7 (d := d_Reading_put_answer) rfl
  have B_Reading_put_answer : L2.Binds K fd_Reading_put_answer ["self", "words"] [] := F_Reading_put_answer.bindsN fun _ _ _ _ _ _ us hl => match us, hl with | [_, _], _ => rfl
  obtain ⟨fd_Reading_put_line, F_Reading_put_line⟩ := c.def_ 8 (d := d_Reading_put_line) rfl
  have B_Reading_put_line : L2.Binds K fd_Reading_put_line ["self", "words"] [] := F_Reading_put_line.bindsN fun _ _ _ _ _ _ us hl => match us, hl with | [_, _], _ => rfl
  obtain ⟨fd_reading_of, F_reading_of⟩ := c.def_ 9 (d := d_reading_of) rfl
  have B_reading_of : L2.Binds K fd_reading_of ["text"] [] := F_reading_of.bindsN fun _ _ _ _ _ _ us hl => match us, hl with | [_], _ => rfl
  obtain ⟨fd_Book_init, F_Book_init⟩ := c.def_ 10 (d := d_Book_init) rfl
  have B_Book_init : L2.Binds K fd_Book_init ["self", "text"] [] := F_Book_init.bindsN fun _ _ _ _ _ _ us hl => match us, hl with | [_, _], _ => rfl
  obtain ⟨fd_Book_foes, F_Book_foes⟩ := c.def_ 11 (d := d_Book_foes) rfl
  have B_Book_foes : L2.Binds K fd_Book_foes ["self"] [] := F_Book_foes.bindsN fun _ _ _ _ _ _ us hl => match us, hl with | [_], _ => rfl
  obtain ⟨fd_Book_answers, F_Book_answers⟩ := c.def_ 12 (d := d_Book_answers) rfl
  have B_Book_answers : L2.Binds K fd_Book_answers ["self"] [] := F_Book_answers.bindsN fun _ _ _ _ _ _ us hl => match us, hl with | [_], _ => rfl
  obtain ⟨fd_head_rows, F_head_rows⟩ := c.def_ 13 (d := d_head_rows) rfl
  have B_head_rows : L2.Binds K fd_head_rows ["foes", "answers"] [] := F_head_rows.bindsN fun _ _ _ _ _ _ us hl => match us, hl with | [_, _], _ => rfl
  obtain ⟨fd_book_of, F_book_of⟩ := c.def_ 14 (d := d_book_of) rfl
  have B_book_of : L2.Binds K fd_book_of ["foes", "answers", "clauses"] [] := F_book_of.bindsN fun _ _ _ _ _ _ us hl => match us, hl with | [_, _, _], _ => rfl
  obtain ⟨fd_parity_line_in, F_parity_line_in⟩ := c.def_ 15 (d := d_parity_line_in) rfl
  have B_parity_line_in : L2.Binds K fd_parity_line_in ["words", "names"] [] := F_parity_line_in.bindsN fun _ _ _ _ _ _ us hl => match us, hl with | [_, _], _ => rfl
  obtain ⟨fd_parities_in, F_parities_in⟩ := c.def_ 16 (d := d_parities_in) rfl
  have B_parities_in : L2.Binds K fd_parities_in ["text"] [] := F_parities_in.bindsN fun _ _ _ _ _ _ us hl => match us, hl with | [_], _ => rfl
  obtain ⟨fd_Parities_init, F_Parities_init⟩ := c.def_ 17 (d := d_Parities_init) rfl
  have B_Parities_init : L2.Binds K fd_Parities_init ["self", "text"] [] := F_Parities_init.bindsN fun _ _ _ _ _ _ us hl => match us, hl with | [_, _], _ => rfl
  obtain ⟨fd_Parities_foes, F_Parities_foes⟩ := c.def_ 18 (d := d_Parities_foes) rfl
  have B_Parities_foes : L2.Binds K fd_Parities_foes ["self"] [] := F_Parities_foes.bindsN fun _ _ _ _ _ _ us hl => match us, hl with | [_], _ => rfl
  obtain ⟨fd_Parities_answers, F_Parities_answers⟩ := c.def_ 19 (d := d_Parities_answers) rfl
  have B_Parities_answers : L2.Binds K fd_Parities_answers ["self"] [] := F_Parities_answers.bindsN fun _ _ _ _ _ _ us hl => match us, hl with | [_], _ => rfl
  obtain ⟨fd_all_rows, F_all_rows⟩ := c.def_ 20 (d := d_all_rows) rfl
  have B_all_rows : L2.Binds K fd_all_rows ["many"] [] := F_all_rows.bindsN fun _ _ _ _ _ _ us hl => match us, hl with | [_], _ => rfl
  obtain ⟨fd_settings, F_settings⟩ := c.def_ 21 (d := d_settings) rfl
  have B_settings : L2.Binds K fd_settings ["book"] [] := F_settings.bindsN fun _ _ _ _ _ _ us hl => match us, hl with | [_], _ => rfl
  obtain ⟨fd_cells, F_cells⟩ := c.def_ 22 (d := d_cells) rfl
  have B_cells : L2.Binds K fd_cells ["book"] [] := F_cells.bindsN fun _ _ _ _ _ _ us hl => match us, hl with | [_], _ => rfl
  obtain ⟨fd_seen_by, F_seen_by⟩ := c.def_ 23 (d := d_seen_by) rfl
  have B_seen_by : L2.Binds K fd_seen_by ["book", "looks", "setting"] [] := F_seen_by.bindsN fun _ _ _ _ _ _ us hl => match us, hl with | [_, _, _], _ => rfl
  obtain ⟨fd_cell_of, F_cell_of⟩ := c.def_ 24 (d := d_cell_of) rfl
  have B_cell_of : L2.Binds K fd_cell_of ["book", "answer", "setting"] [] := F_cell_of.bindsN fun _ _ _ _ _ _ us hl => match us, hl with | [_, _, _], _ => rfl
  obtain ⟨fd_written_line, F_written_line⟩ := c.def_ 25 (d := d_written_line) rfl
  have B_written_line : L2.Binds K fd_written_line ["parities", "setting", "number"] [] := F_written_line.bindsN fun _ _ _ _ _ _ us hl => match us, hl with | [_, _, _], _ => rfl
  obtain ⟨fd_written_rows, F_written_rows⟩ := c.def_ 26 (d := d_written_rows) rfl
  have B_written_rows : L2.Binds K fd_written_rows ["parities"] [] := F_written_rows.bindsN fun _ _ _ _ _ _ us hl => match us, hl with | [_], _ => rfl
  obtain ⟨fd_Sums_init, F_Sums_init⟩ := c.def_ 27 (d := d_Sums_init) rfl
  have B_Sums_init : L2.Binds K fd_Sums_init ["self", "bare"] [] := F_Sums_init.bindsN fun _ _ _ _ _ _ us hl => match us, hl with | [_, _], _ => rfl
  obtain ⟨fd_Sums_put, F_Sums_put⟩ := c.def_ 28 (d := d_Sums_put) rfl
  have B_Sums_put : L2.Binds K fd_Sums_put ["self", "some", "odd", "rows"] [] := F_Sums_put.bindsN fun _ _ _ _ _ _ us hl => match us, hl with | [_, _, _, _], _ => rfl
  obtain ⟨fd_summed, F_summed⟩ := c.def_ 29 (d := d_summed) rfl
  have B_summed : L2.Binds K fd_summed ["parities"] [] := F_summed.bindsN fun _ _ _ _ _ _ us hl => match us, hl with | [_], _ => rfl
  obtain ⟨fd_plans_of, F_plans_of⟩ := c.def_ 30 (d := d_plans_of) rfl
  have B_plans_of : L2.Binds K fd_plans_of ["parities"] [] := F_plans_of.bindsN fun _ _ _ _ _ _ us hl => match us, hl with | [_], _ => rfl
  obtain ⟨fd__law_pot, F__law_pot⟩ := c.def_ 31 (d := d__law_pot) rfl
  have B__law_pot : L2.Binds K fd__law_pot ["script", "place"] [] := F__law_pot.bindsN fun _ _ _ _ _ _ us hl => match us, hl with | [_, _], _ => rfl
  obtain ⟨fd__law_take, F__law_take⟩ := c.def_ 32 (d := d__law_take) rfl
  have B__law_take : L2.Binds K fd__law_take ["pot", "upto"] [] := F__law_take.bindsN fun _ _ _ _ _ _ us hl => match us, hl with | [_, _], _ => rfl
  obtain ⟨fd__law_of, F__law_of⟩ := c.def_ 33 (d := d__law_of) rfl
  have B__law_of : L2.Binds K fd__law_of ["pot", "some"] [] := F__law_of.bindsN fun _ _ _ _ _ _ us hl => match us, hl with | [_, _], _ => rfl
  obtain ⟨fd__law_some, F__law_some⟩ := c.def_ 34 (d := d__law_some) rfl
  have B__law_some : L2.Binds K fd__law_some ["pot", "pool", "many"] [] := F__law_some.bindsN fun _ _ _ _ _ _ us hl => match us, hl with | [_, _, _], _ => rfl
  obtain ⟨fd__law_cells, F__law_cells⟩ := c.def_ 35 (d := d__law_cells) rfl
  have B__law_cells : L2.Binds K fd__law_cells ["script", "most"] [] := F__law_cells.bindsN fun _ _ _ _ _ _ us hl => match us, hl with | [_, _], _ => rfl
  obtain ⟨fd__law_is_int, F__law_is_int⟩ := c.def_ 36 (d := d__law_is_int) rfl
  have B__law_is_int : L2.Binds K fd__law_is_int ["given", "low", "high"] [] := F__law_is_int.bindsN fun _ _ _ _ _ _ us hl => match us, hl with | [_, _, _], _ => rfl
  obtain ⟨fd__law_book_names, F__law_book_names⟩ := c.def_ 37 (d := d__law_book_names) rfl
  have B__law_book_names : L2.Binds K fd__law_book_names ["own"] [] := F__law_book_names.bindsN fun _ _ _ _ _ _ us hl => match us, hl with | [_], _ => rfl
  obtain ⟨fd__law_book_rows, F__law_book_rows⟩ := c.def_ 38 (d := d__law_book_rows) rfl
  have B__law_book_rows : L2.Binds K fd__law_book_rows ["many"] [] := F__law_book_rows.bindsN fun _ _ _ _ _ _ us hl => match us, hl with | [_], _ => rfl
  obtain ⟨fd__law_book_settings, F__law_book_settings⟩ := c.def_ 39 (d := d__law_book_settings) rfl
  have B__law_book_settings : L2.Binds K fd__law_book_settings ["own"] [] := F__law_book_settings.bindsN fun _ _ _ _ _ _ us hl => match us, hl with | [_], _ => rfl
  obtain ⟨fd__law_book_cells, F__law_book_cells⟩ := c.def_ 40 (d := d__law_book_cells) rfl
  have B__law_book_cells : L2.Binds K fd__law_book_cells ["own"] [] := F__law_book_cells.bindsN fun _ _ _ _ _ _ us hl => match us, hl with | [_], _ => rfl
  obtain ⟨fd__law_book_looks, F__law_book_looks⟩ := c.def_ 41 (d := d__law_book_looks) rfl
  have B__law_book_looks : L2.Binds K fd__law_book_looks ["own", "answer"] [] := F__law_book_looks.bindsN fun _ _ _ _ _ _ us hl => match us, hl with | [_, _], _ => rfl
  obtain ⟨fd__law_book_cell_at, F__law_book_cell_at⟩ := c.def_ 42 (d := d__law_book_cell_at) rfl
  have B__law_book_cell_at : L2.Binds K fd__law_book_cell_at ["own", "answer", "setting"] [] := F__law_book_cell_at.bindsN fun _ _ _ _ _ _ us hl => match us, hl with | [_, _, _], _ => rfl
  obtain ⟨fd__law_par_text, F__law_par_text⟩ := c.def_ 43 (d := d__law_par_text) rfl
  have B__law_par_text : L2.Binds K fd__law_par_text ["own"] [] := F__law_par_text.bindsN fun _ _ _ _ _ _ us hl => match us, hl with | [_], _ => rfl
  obtain ⟨fd__law_par_written, F__law_par_written⟩ := c.def_ 44 (d := d__law_par_written) rfl
  have B__law_par_written : L2.Binds K fd__law_par_written ["own", "setting", "number"] [] := F__law_par_written.bindsN fun _ _ _ _ _ _ us hl => match us, hl with | [_, _, _], _ => rfl
  obtain ⟨fd__law_par_rows, F__law_par_rows⟩ := c.def_ 45 (d := d__law_par_rows) rfl
  have B__law_par_rows : L2.Binds K fd__law_par_rows ["own"] [] := F__law_par_rows.bindsN fun _ _ _ _ _ _ us hl => match us, hl with | [_], _ => rfl
  obtain ⟨fd__law_par_added, F__law_par_added⟩ := c.def_ 46 (d := d__law_par_added) rfl
  have B__law_par_added : L2.Binds K fd__law_par_added ["one", "other"] [] := F__law_par_added.bindsN fun _ _ _ _ _ _ us hl => match us, hl with | [_, _], _ => rfl
  obtain ⟨fd__law_par_many, F__law_par_many⟩ := c.def_ 47 (d := d__law_par_many) rfl
  have B__law_par_many : L2.Binds K fd__law_par_many ["own"] [] := F__law_par_many.bindsN fun _ _ _ _ _ _ us hl => match us, hl with | [_], _ => rfl
  obtain ⟨fd__law_plan_all, F__law_plan_all⟩ := c.def_ 48 (d := d__law_plan_all) rfl
  have B__law_plan_all : L2.Binds K fd__law_plan_all ["own"] [] := F__law_plan_all.bindsN fun _ _ _ _ _ _ us hl => match us, hl with | [_], _ => rfl
  obtain ⟨fd__law_book_drawn, F__law_book_drawn⟩ := c.def_ 49 (d := d__law_book_drawn) rfl
  have B__law_book_drawn : L2.Binds K fd__law_book_drawn ["pot", "foes", "answers", "clauses", "most"] [] := F__law_book_drawn.bindsN fun _ _ _ _ _ _ us hl => match us, hl with | [_, _, _, _, _], _ => rfl
  obtain ⟨fd__law_par_drawn, F__law_par_drawn⟩ := c.def_ 50 (d := d__law_par_drawn) rfl
  have B__law_par_drawn : L2.Binds K fd__law_par_drawn ["pot"] [] := F__law_par_drawn.bindsN fun _ _ _ _ _ _ us hl => match us, hl with | [_], _ => rfl
  obtain ⟨fd__law_is_told_right, F__law_is_told_right⟩ := c.def_ 51 (d := d__law_is_told_right) rfl
  have B__law_is_told_right : L2.Binds K fd__law_is_told_right ["own"] [] := F__law_is_told_right.bindsN fun _ _ _ _ _ _ us hl => match us, hl with | [_], _ => rfl
  obtain ⟨fd__law_right, F__law_right⟩ := c.def_ 52 (d := d__law_right) rfl
  have B__law_right : L2.Binds K fd__law_right ["pot"] [] := F__law_right.bindsN fun _ _ _ _ _ _ us hl => match us, hl with | [_], _ => rfl
  obtain ⟨fd_law, F_law⟩ := c.def_ 53 (d := d_law) rfl
  have B_law : L2.Binds K fd_law ["script"] [] := F_law.bindsN fun _ _ _ _ _ _ us hl => match us, hl with | [_], _ => rfl
  refine ⟨fd_law, fun s v => F_law.bindsA (ps := ["script"]) (fun _ _ _ _ _ _ us hl => match us, hl with | [_], _ => rfl) s [v] rfl, glo_ X G (c.fact 120), fun base => ?_⟩
  have k_is_name : DCal P w K mg base (clF K) 1 "is_name" c_is_name := ok_is_name T F_is_name (glo_ X G (c.fact 67)) B_is_name 
  have k_lines_of : DCal P w K mg base (clF K) 1 "lines_of" c_lines_of := ok_lines_of T F_lines_of (glo_ X G (c.fact 68)) B_lines_of 
  have k_many_cells : DCal P w K mg base (clF K) 1 "many_cells" c_many_cells := ok_many_cells T F_many_cells (glo_ X G (c.fact 69)) B_many_cells 
  have mk_Reading : DMak P w K mg base (clF K) 1 "Reading" 0 c_Reading_init := ok_Reading_init T F_Reading_init (mkr_ (c.fact 70)) T.c_Reading B_Reading_init 
  have m_Reading_all_names : DMet P w K mg base (clF K) 1 0 "all_names" c_Reading_all_names := ok_Reading_all_names T F_Reading_all_names (meth_ (c.fact 71)) B_Reading_all_names 
  have m_Reading_can_name : DMet P w K mg base (clF K) 2 0 "can_name" c_Reading_can_name := ok_Reading_can_name T F_Reading_can_name (meth_ (c.fact 72)) B_Reading_can_name k_is_name m_Reading_all_names
  have m_Reading_put_foe : DMet P w K mg base (clF K) 3 0 "put_foe" c_Reading_put_foe := ok_Reading_put_foe T F_Reading_put_foe (meth_ (c.fact 73)) B_Reading_put_foe m_Reading_can_name
  have m_Reading_put_answer : DMet P w K mg base (clF K) 3 0 "put_answer" c_Reading_put_answer := ok_Reading_put_answer T F_Reading_put_answer (meth_ (c.fact 74)) B_Reading_put_answer m_Reading_can_name k_many_cells
  have m_Reading_put_line : DMet P w K mg base (clF K) 4 0 "put_line" c_Reading_put_line := ok_Reading_put_line T F_Reading_put_line (meth_ (c.fact 75)) B_Reading_put_line m_Reading_put_foe m_Reading_put_answer
  have k_reading_of : DCal P w K mg base (clF K) 5 "reading_of" c_reading_of := ok_reading_of T F_reading_of (glo_ X G (c.fact 76)) B_reading_of mk_Reading k_lines_of m_Reading_put_line
  have mk_Book : DMak P w K mg base (clF K) 6 "Book" 1 c_Book_init := ok_Book_init T F_Book_init (mkr_ (c.fact 77)) T.c_Book B_Book_init k_reading_of
  have p_Book_foes : DPro P w K mg base (clF K) 1 1 "foes" c_Book_foes := ok_Book_foes T F_Book_foes (pr_ (c.fact 78)) B_Book_foes 
  have p_Book_answers : DPro P w K mg base (clF K) 1 1 "answers" c_Book_answers := ok_Book_answers T F_Book_answers (pr_ (c.fact 79)) B_Book_answers 
  have k_head_rows : DCal P w K mg base (clF K) 1 "head_rows" c_head_rows := ok_head_rows T F_head_rows (glo_ X G (c.fact 80)) B_head_rows 
  have k_book_of : DCal P w K mg base (clF K) 8 "book_of" c_book_of := ok_book_of T F_book_of (glo_ X G (c.fact 81)) B_book_of mk_Book k_head_rows
  have k_parity_line_in : DCal P w K mg base (clF K) 1 "parity_line_in" c_parity_line_in := ok_parity_line_in T F_parity_line_in (glo_ X G (c.fact 82)) B_parity_line_in 
  have k_parities_in : DCal P w K mg base (clF K) 5 "parities_in" c_parities_in := ok_parities_in T F_parities_in (glo_ X G (c.fact 83)) B_parities_in mk_Reading k_lines_of m_Reading_put_line k_parity_line_in m_Reading_all_names
  have mk_Parities : DMak P w K mg base (clF K) 9 "Parities" 2 c_Parities_init := ok_Parities_init T F_Parities_init (mkr_ (c.fact 84)) T.c_Parities B_Parities_init k_parities_in k_book_of
  have p_Parities_foes : DPro P w K mg base (clF K) 3 2 "foes" c_Parities_foes := ok_Parities_foes T F_Parities_foes (pr_ (c.fact 85)) B_Parities_foes p_Book_foes
  have p_Parities_answers : DPro P w K mg base (clF K) 3 2 "answers" c_Parities_answers := ok_Parities_answers T F_Parities_answers (pr_ (c.fact 86)) B_Parities_answers p_Book_answers
  have k_all_rows : DCal P w K mg base (clF K) 1 "all_rows" c_all_rows := ok_all_rows T F_all_rows (glo_ X G (c.fact 87)) B_all_rows 
  have k_settings : DCal P w K mg base (clF K) 2 "settings" c_settings := ok_settings T F_settings (glo_ X G (c.fact 88)) B_settings k_all_rows
  have k_cells : DCal P w K mg base (clF K) 2 "cells" c_cells := ok_cells T F_cells (glo_ X G (c.fact 89)) B_cells k_all_rows
  have k_seen_by : DCal P w K mg base (clF K) 3 "seen_by" c_seen_by := ok_seen_by T F_seen_by (glo_ X G (c.fact 90)) B_seen_by p_Book_foes
  have k_cell_of : DCal P w K mg base (clF K) 4 "cell_of" c_cell_of := ok_cell_of T F_cell_of (glo_ X G (c.fact 91)) B_cell_of k_seen_by p_Book_answers
  have k_written_line : DCal P w K mg base (clF K) 5 "written_line" c_written_line := ok_written_line T F_written_line (glo_ X G (c.fact 92)) B_written_line p_Parities_foes p_Parities_answers k_cell_of
  have k_written_rows : DCal P w K mg base (clF K) 3 "written_rows" c_written_rows := ok_written_rows T F_written_rows (glo_ X G (c.fact 93)) B_written_rows k_settings
  have mk_Sums : DMak P w K mg base (clF K) 3 "Sums" 3 (c_Sums_init P w (clF K)) := ok_Sums_init T F_Sums_init (mkr_ (c.fact 94)) T.c_Sums B_Sums_init k_cells
  have m_Sums_put : DMet P w K mg base (clF K) 1 3 "put" (c_Sums_put P w (clF K)) := ok_Sums_put T F_Sums_put (meth_ (c.fact 95)) B_Sums_put 
  have k_summed : DCal P w K mg base (clF K) 6 "summed" (c_summed P w (clF K)) := ok_summed T F_summed (glo_ X G (c.fact 96)) B_summed mk_Sums k_written_rows k_written_line m_Sums_put
  have fk_plans_of : FnOk P w K mg base CX0 7 (ga K "plans_of") fd_plans_of ["parities"] (spD (clF K) c_plans_of) := ok_plans_of T F_plans_of (glo_ X G (c.fact 97)) B_plans_of k_summed
  have k_plans_of : DCal P w K mg base (clF K) 7 "plans_of" c_plans_of := ⟨_, _, _, [], fk_plans_of, glo_ X G (c.fact 97), F_plans_of.kp, B_plans_of, .nil⟩
  have kw_plans_of : DCalK P w K mg base (clF K) 7 "plans_of" "parities" c_plans_of := ⟨_, _, fk_plans_of, glo_ X G (c.fact 97), F_plans_of.kp, kby_of F_plans_of fun _ _ _ _ _ _ _ => rfl⟩
  have k__law_pot : DCal P w K mg base (clF K) 1 "_law_pot" (c__law_pot K (clF K)) := ok__law_pot T F__law_pot (glo_ X G (c.fact 98)) B__law_pot 
  have k__law_take : DCal P w K mg base (clF K) 1 "_law_take" c__law_take := ok__law_take T F__law_take (glo_ X G (c.fact 99)) B__law_take 
  have k__law_of : DCal P w K mg base (clF K) 2 "_law_of" c__law_of := ok__law_of T F__law_of (glo_ X G (c.fact 100)) B__law_of k__law_take
  have k__law_some : DCal P w K mg base (clF K) 2 "_law_some" c__law_some := ok__law_some T F__law_some (glo_ X G (c.fact 101)) B__law_some k__law_take
  have k__law_cells : DCal P w K mg base (clF K) 1 "_law_cells" (c__law_cells K (clF K)) := ok__law_cells T F__law_cells (glo_ X G (c.fact 102)) B__law_cells 
  have k__law_is_int : DCal P w K mg base (clF K) 1 "_law_is_int" c__law_is_int := ok__law_is_int T F__law_is_int (glo_ X G (c.fact 103)) B__law_is_int 
  have k__law_book_names : DCal P w K mg base (clF K) 1 "_law_book_names" c__law_book_names := ok__law_book_names T F__law_book_names (glo_ X G (c.fact 104)) B__law_book_names 
  have k__law_book_rows : DCal P w K mg base (clF K) 1 "_law_book_rows" c__law_book_rows := ok__law_book_rows T F__law_book_rows (glo_ X G (c.fact 105)) B__law_book_rows 
  have k__law_book_settings : DCal P w K mg base (clF K) 2 "_law_book_settings" c__law_book_settings := ok__law_book_settings T F__law_book_settings (glo_ X G (c.fact 106)) B__law_book_settings k__law_book_rows
  have k__law_book_cells : DCal P w K mg base (clF K) 2 "_law_book_cells" c__law_book_cells := ok__law_book_cells T F__law_book_cells (glo_ X G (c.fact 107)) B__law_book_cells k__law_book_rows
  have k__law_book_looks : DCal P w K mg base (clF K) 1 "_law_book_looks" c__law_book_looks := ok__law_book_looks T F__law_book_looks (glo_ X G (c.fact 108)) B__law_book_looks 
  have k__law_book_cell_at : DCal P w K mg base (clF K) 2 "_law_book_cell_at" c__law_book_cell_at := ok__law_book_cell_at T F__law_book_cell_at (glo_ X G (c.fact 109)) B__law_book_cell_at k__law_book_looks
  have k__law_par_text : DCal P w K mg base (clF K) 1 "_law_par_text" c__law_par_text := ok__law_par_text T F__law_par_text (glo_ X G (c.fact 110)) B__law_par_text 
  have k__law_par_written : DCal P w K mg base (clF K) 3 "_law_par_written" c__law_par_written := ok__law_par_written T F__law_par_written (glo_ X G (c.fact 111)) B__law_par_written k__law_book_cells k__law_book_cell_at
  have k__law_par_rows : DCal P w K mg base (clF K) 4 "_law_par_rows" c__law_par_rows := ok__law_par_rows T F__law_par_rows (glo_ X G (c.fact 112)) B__law_par_rows k__law_book_settings k__law_par_written
  have k__law_par_added : DCal P w K mg base (clF K) 1 "_law_par_added" c__law_par_added := ok__law_par_added T F__law_par_added (glo_ X G (c.fact 113)) B__law_par_added 
  have k__law_par_many : DCal P w K mg base (clF K) 5 "_law_par_many" c__law_par_many := ok__law_par_many T F__law_par_many (glo_ X G (c.fact 114)) B__law_par_many k__law_par_rows k__law_par_added k__law_book_cells
  have k__law_plan_all : DCal P w K mg base (clF K) 3 "_law_plan_all" c__law_plan_all := ok__law_plan_all T F__law_plan_all (glo_ X G (c.fact 115)) B__law_plan_all k__law_book_rows k__law_book_cells
  have k__law_book_drawn : DCal P w K mg base (clF K) 3 "_law_book_drawn" c__law_book_drawn := ok__law_book_drawn T F__law_book_drawn (glo_ X G (c.fact 116)) B__law_book_drawn k__law_some k__law_take
  have k__law_par_drawn : DCal P w K mg base (clF K) 4 "_law_par_drawn" c__law_par_drawn := ok__law_par_drawn T F__law_par_drawn (glo_ X G (c.fact 117)) B__law_par_drawn k__law_book_drawn k__law_of k__law_book_names k__law_some k__law_take
  have k__law_is_told_right : DCal P w K mg base (clF K) 11 "_law_is_told_right" c__law_is_told_right := ok__law_is_told_right T F__law_is_told_right (glo_ X G (c.fact 118)) B__law_is_told_right kw_plans_of mk_Parities k__law_par_text k__law_is_int k__law_par_many k__law_book_cells k__law_par_rows k__law_plan_all
  have k__law_right : DCal P w K mg base (clF K) 12 "_law_right" c__law_right := ok__law_right T F__law_right (glo_ X G (c.fact 119)) B__law_right k__law_par_drawn k__law_book_names k__law_some k__law_take k__law_of k__law_is_told_right k_plans_of mk_Parities k__law_par_text k__law_par_many
  have fk_law : FnOk P w K mg base CX0 13 (ga K "law") fd_law ["script"] (spD (clF K) (c_law K (clF K))) := ok_law T F_law (glo_ X G (c.fact 120)) B_law k__law_cells k__law_right k__law_pot
  have k_law : DCal P w K mg base (clF K) 13 "law" (c_law K (clF K)) := ⟨_, _, _, [], fk_law, glo_ X G (c.fact 120), F_law.kp, B_law, .nil⟩
  exact fk_law
end K51
open PySem PySem.W PySem.Calls PyProof.Rows
theorem PySem.Challenge.cw_looksonlythere_k51_whole_numbers_of_plan_holds : PySem.Challenge.rw_looksonlythere_k51_whole_numbers_of_plan.Holds := by
  w_on; o_law
  refine HandSHeadRun.head_any (r := OpenLaw.row PySem.Challenge.rw_looksonlythere_k51_whole_numbers_of_plan) (q := view (OpenLaw.row PySem.Challenge.rw_looksonlythere_k51_whole_numbers_of_plan).prog [88]) (H := K51.hk) (ob := K51.ob) (M := 20000) (loose := K51.nms) (d := HandSHeadRun.topDef (OpenLaw.row PySem.Challenge.rw_looksonlythere_k51_whole_numbers_of_plan).prog 88) (kwd := []) K51.ob_eq
    (by kernel_rfl) (fun s => by kernel_rfl) K51.run (by kernel_rfl) (by kernel_rfl) (by kernel_rfl) (by rfl) (by first | assumption | decide +kernel) (by decide +kernel) ⟨rfl, rfl, rfl, rfl, rfl, by decide +kernel⟩ ?hw ?hc
  case hw => w_witness2
  case hc =>
    refine L2.walk_ofE (l := PySem.Challenge.rw_looksonlythere_k51_whole_numbers_of_plan) (n := 63) (k := 13) (x := "script") (CX := L2.CX0) rfl (by decide) (by kernel_rfl) ⟨rfl, by decide, by decide⟩ ?F (fun _ _ _ _ z => z)
    intro w mg fa h Y G hmg0
    obtain ⟨K, KX, c⟩ := Y
    have hmg : mg ("law" : PySem.Str) = some (.ref fa) := by
      have e : (HandSHeadRun.topDef (OpenLaw.row PySem.Challenge.rw_looksonlythere_k51_whole_numbers_of_plan).prog 88).name = ("law" : PySem.Str) := by kernel_rfl
      rw [← e]
      exact hmg0
    obtain ⟨fd, hb, hm, hF⟩ := K51.facts (P := (PySem.Challenge.rw_looksonlythere_k51_whole_numbers_of_plan).prog) (w := w) KX G c
    have e := hmg.symm.trans hm
    cases e
    exact ⟨K, fd, DL.spD (K51.clF K) (K51.c_law K (K51.clF K)), KX, hb, fun H a ns hl hO hS => DL.scr_start hO hS (fun d hd => ⟨d, ns, rfl, hd, fun _ => rfl⟩) (fun _ => rfl), fun base _ _ => hF base⟩
