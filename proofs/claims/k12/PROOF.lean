import PyProof.Rows.All
import Wide.All
import OpenK.AllK
import Wide.FinOn
import HandS.ForMost
import HandS.ForExc
import HandS.Style
import HandS.TupAny
import HandS.TupMul
import HandS.TupLe
import HandS.More
import HandS.Wide
import HandS.StrMore
import HandS.IsInst
import KE.IntTextLaws
import HandS.Defaults
import HandS.Deep
import HandS.HeadHook1
import KE.LtSeq
import HandS.HeadHook2
import HandS.ExcValue
import HandS.ExcIs
import HandS.RaiseMore
import PySem.Challenge.RW_orderrules_k12_whole_forms
import HandS.Head0
import HandS.Head1
import HandS.Head2
import HandS.HeadEnd
set_option Elab.async false
set_option linter.all false
set_option maxRecDepth 100000
set_option maxHeartbeats 2000000
/-! the meaning layer: data, store, what a piece of syntax computes -/
namespace L3
open PySem PySem.Spec L2

/-- data: immutable, or a place in the store -/
inductive D where
  | non | bl (b : Bool) | int (i : Int) | str (s : List Nat) | lst (ds : List D) | tup (ds : List D) | loc (i : Nat) | scr (ns : List Int)
  | dct (ks : List (List Nat)) (ds : List D)

/-- what stands at a place of the store -/
inductive Cell where
  | lst (ds : List D) | ins (c : Nat) (fs : List (Str × D)) | dct (kvs : List (D × D)) | exn (c : Nat) | dead

abbrev Store := List Cell
abbrev Ev := List (Option D)
inductive Res (α : Type) where
  | ok (a : α) (S : Store) | exc (c : Nat) (S : Store) | stuck

abbrev tx (s : List Nat) : Str := ⟨s.toArray⟩
/-- codes that a text may have -/
abbrev OkT (s : List Nat) : Prop := ∀ c ∈ s, c < 1114112

def Ex (H H' : Hp) : Prop := ∀ a o, H a = some o → H' a = some o
theorem Ex.refl (H : Hp) : Ex H H := fun _ _ h => h
theorem Ex.trans {H H1 H2 : Hp} (a : Ex H H1) (b : Ex H1 H2) : Ex H H2 := fun x o h => b x o (a x o h)
theorem Ex.new {H : Hp} {p : Addr} {o : HO} (h : H p = none) : Ex H (upd H p o) := fun a u e => by
  rw [upd_ne (ne_of_none e h)]
  exact e
theorem ex_rd {H H' : Hp} {a : Addr} {u : HO} (e : Ex H H') (h : Rd H a u) : Rd H' a u := by
  rcases h with h | ⟨o, h⟩
  · exact Or.inl (e a _ h)
  · exact Or.inr ⟨o, e a _ h⟩
theorem ex_l {K : PySem.W.Frag} {H H' : Hp} {a : Addr} {xs : List V} (e : Ex H H') (h : SqL K H a xs) : SqL K H' a xs := by
  rcases h with h | h
  · exact Or.inl (ex_rd e h)
  · exact Or.inr h
theorem ex_t {K : PySem.W.Frag} {H H' : Hp} {a : Addr} {xs : List V} (e : Ex H H') (h : SqT K H a xs) : SqT K H' a xs := by
  rcases h with h | h
  · exact Or.inl (ex_rd e h)
  · exact Or.inr h

/-! ### values and data -/
mutual
inductive RD (K : PySem.W.Frag) (F : Hp) (ρ : List Addr) : V → D → Prop
  | non : RD K F ρ .non .non
  | bl (b : Bool) : RD K F ρ (.bl b) (.bl b)
  | int (i : Int) : RD K F ρ (.int i) (.int i)
  | str (s : List Nat) : OkT s → RD K F ρ (.str (tx s)) (.str s)
  | lst {a : Addr} {xs : List V} {ds : List D} : F a = some (.lst xs) → RDs K F ρ xs ds → RD K F ρ (.ref a) (.lst ds)
  | tup {a : Addr} {xs : List V} {ds : List D} : SqT K F a xs → RDs K F ρ xs ds → RD K F ρ (.ref a) (.tup ds)
  | loc {i : Nat} {a : Addr} : ρ[i]? = some a → RD K F ρ (.ref a) (.loc i)
  | scr {a : Addr} {ns : List Int} : SqL K F a (ns.map V.int) → RD K F ρ (.ref a) (.scr ns)
  | dct {a : Addr} {kvs : List (Key × V)} {ks : List (List Nat)} {ds : List D} : F a = some (.dK kvs) → kvs.map (·.1) = ks.map (fun s => Sum.inr (tx s)) → RDs K F ρ (kvs.map (·.2)) ds → RD K F ρ (.ref a) (.dct ks ds)
inductive RDs (K : PySem.W.Frag) (F : Hp) (ρ : List Addr) : List V → List D → Prop
  | nil : RDs K F ρ [] []
  | cons {v : V} {vs : List V} {d : D} {ds : List D} : RD K F ρ v d → RDs K F ρ vs ds → RDs K F ρ (v :: vs) (d :: ds)
end

section
variable {K : PySem.W.Frag} {F F' : Hp} {ρ ρ' : List Addr}
abbrev Pre (ρ ρ' : List Addr) : Prop := ∀ (i : Nat) (a : Addr), ρ[i]? = some a → ρ'[i]? = some a
mutual
theorem RD.mono (e : Ex F F') (p : Pre ρ ρ') : ∀ {d : D} {v : V}, RD K F ρ v d → RD K F' ρ' v d
  | .non, _, h => by cases h; exact .non
  | .bl _, _, h => by cases h; exact .bl _
  | .int _, _, h => by cases h; exact .int _
  | .str _, _, h => by
    cases h with
    | str _ h1 => exact .str _ h1
  | .lst _, _, h => by
    cases h with
    | lst h1 h2 => exact .lst (e _ _ h1) (RDs.mono e p h2)
  | .tup _, _, h => by
    cases h with
    | tup h1 h2 => exact .tup (ex_t e h1) (RDs.mono e p h2)
  | .loc _, _, h => by
    cases h with
    | loc h1 => exact .loc (p _ _ h1)
  | .scr _, _, h => by
    cases h with
    | scr h1 => exact .scr (ex_l e h1)
  | .dct _ _, _, h => by
    cases h with
    | dct h1 h2 h3 => exact .dct (e _ _ h1) h2 (RDs.mono e p h3)
theorem RDs.mono (e : Ex F F') (p : Pre ρ ρ') : ∀ {ds : List D} {vs : List V}, RDs K F ρ vs ds → RDs K F' ρ' vs ds
  | [], _, h => by cases h; exact .nil
  | _ :: _, _, h => by
    cases h with
    | cons h1 h2 => exact .cons (RD.mono e p h1) (RDs.mono e p h2)
end
theorem RDs.length : ∀ {ds : List D} {vs : List V}, RDs K F ρ vs ds → vs.length = ds.length
  | [], _, h => by cases h; rfl
  | _ :: _, _, h => by
    cases h with
    | cons h1 h2 => simp [RDs.length h2]
theorem RDs.get : ∀ {ds : List D} {vs : List V} {i : Nat} {d : D}, RDs K F ρ vs ds → ds[i]? = some d → ∃ v, vs[i]? = some v ∧ RD K F ρ v d
  | [], _, _, _, _, e => by simp at e
  | d :: ds, _, i, x, h, e => by
    cases h with
    | cons h1 h2 =>
      cases i with
      | zero => simp at e; subst e; exact ⟨_, rfl, h1⟩
      | succ i => simpa using RDs.get (i := i) (d := x) h2 (by simpa using e)
theorem RDs.getV : ∀ {ds : List D} {vs : List V} {i : Nat} {v : V}, RDs K F ρ vs ds → vs[i]? = some v → ∃ d, ds[i]? = some d ∧ RD K F ρ v d
  | [], _, _, _, h, e => by cases h; simp at e
  | d :: ds, _, i, x, h, e => by
    cases h with
    | cons h1 h2 =>
      cases i with
      | zero => simp at e; subst e; exact ⟨_, rfl, h1⟩
      | succ i => simpa using RDs.getV (i := i) (v := x) h2 (by simpa using e)
theorem RDs.append : ∀ {ds es : List D} {vs us : List V}, RDs K F ρ vs ds → RDs K F ρ us es → RDs K F ρ (vs ++ us) (ds ++ es)
  | [], _, _, _, h, k => by cases h; exact k
  | _ :: _, _, _, _, h, k => by
    cases h with
    | cons h1 h2 => exact .cons h1 (RDs.append h2 k)
theorem RDs.set : ∀ {ds : List D} {vs : List V} (i : Nat) {v : V} {d : D}, RDs K F ρ vs ds → RD K F ρ v d → RDs K F ρ (vs.set i v) (ds.set i d)
  | [], _, _, _, _, h, _ => by cases h; exact .nil
  | _ :: _, _, i, _, _, h, k => by
    cases h with
    | cons h1 h2 =>
      cases i with
      | zero => exact .cons k h2
      | succ i => exact .cons h1 (RDs.set i h2 k)
theorem RDs.take : ∀ {ds : List D} {vs : List V} (n : Nat), RDs K F ρ vs ds → RDs K F ρ (vs.take n) (ds.take n)
  | _, _, 0, _ => by simp; exact .nil
  | [], _, _ + 1, h => by cases h; exact .nil
  | _ :: _, _, n + 1, h => by
    cases h with
    | cons h1 h2 => exact .cons h1 (RDs.take n h2)
theorem RDs.drop : ∀ {ds : List D} {vs : List V} (n : Nat), RDs K F ρ vs ds → RDs K F ρ (vs.drop n) (ds.drop n)
  | _, _, 0, h => h
  | [], _, _ + 1, h => by cases h; exact .nil
  | _ :: _, _, n + 1, h => by
    cases h with
    | cons h1 h2 => exact RDs.drop n h2
theorem RDs.snoc {ds : List D} {vs : List V} {v : V} {d : D} (h : RDs K F ρ vs ds) (k : RD K F ρ v d) : RDs K F ρ (vs ++ [v]) (ds ++ [d]) := h.append (.cons k .nil)
theorem RDs.eraseIdx : ∀ {ds : List D} {vs : List V} (i : Nat), RDs K F ρ vs ds → RDs K F ρ (vs.eraseIdx i) (ds.eraseIdx i)
  | [], _, _, h => by cases h; exact .nil
  | _ :: _, _, i, h => by
    cases h with
    | cons h1 h2 =>
      cases i with
      | zero => exact h2
      | succ i => exact .cons h1 (RDs.eraseIdx i h2)
theorem RDs.reverse {ds : List D} {vs : List V} (h : RDs K F ρ vs ds) : RDs K F ρ vs.reverse ds.reverse := by
  induction ds generalizing vs with
  | nil => cases h; exact .nil
  | cons d ds ih =>
    cases h with
    | cons h1 h2 => simp only [List.reverse_cons]; exact (ih h2).snoc h1
theorem RDs.rep {ds : List D} {vs : List V} (h : RDs K F ρ vs ds) : ∀ k : Nat, RDs K F ρ (List.replicate k vs).flatten (List.replicate k ds).flatten
  | 0 => .nil
  | k + 1 => by simp only [List.replicate_succ, List.flatten_cons]; exact h.append (RDs.rep h k)

/-! ### the state -/
/-- what is fixed: the addresses of own classes by number, of own exceptions by number -/
structure Pc where
  cl : Nat → Addr
  xc : Nat → Addr

/-- an exception of the class cls that was caught and is kept -/
def ExK (cls : Value) (a : Addr) : HO := .ext fun h => ∃ (oe : Obj) (vs : Array Value), h.get? a = some oe ∧ Zc cls none oe ∧ oe.data = .fields vs
def CellOk (K : PySem.W.Frag) (Y : Pc) (F : Hp) (ρ : List Addr) (H : Hp) (a : Addr) : Cell → Prop
  | .dead => True
  | .lst ds => F a = none ∧ ∃ xs, H a = some (.lst xs) ∧ RDs K F ρ xs ds
  | .ins c fs => F a = none ∧ ∃ dx vs, H a = some (.ins (Y.cl c) dx ((fs.map (·.1)).zip vs)) ∧ RDs K F ρ vs (fs.map (·.2))
  | .dct kvs => False
  | .exn c => F a = none ∧ H a = some (ExK (.ref (Y.xc c)) a)

end

structure SR (K : PySem.W.Frag) (Y : Pc) (F : Hp) (ρ : List Addr) (S : Store) (H : Hp) : Prop where
  ex : Ex F H
  len : ρ.length = S.length
  nd : ρ.Nodup
  there : ∀ a ∈ ρ, H a ≠ none
  cell : ∀ (i : Nat) (a : Addr) (c : Cell), ρ[i]? = some a → S[i]? = some c → CellOk K Y F ρ H a c

structure Nx (F : Hp) (ρ : List Addr) (H F' : Hp) (ρ' : List Addr) (H' : Hp) : Prop where
  ex : Ex F F'
  pre : Pre ρ ρ'
  fr : ∀ a o, H a = some o → a ∉ ρ → H' a = some o
  fh : ∀ a, F' a ≠ none → F a ≠ none ∨ H a = none ∨ a ∈ ρ
  rh : ∀ a ∈ ρ', a ∈ ρ ∨ H a = none
  hn : ∀ a, H a ≠ none → H' a ≠ none

theorem Nx.refl (F : Hp) (ρ : List Addr) (H : Hp) : Nx F ρ H F ρ H := ⟨Ex.refl _, fun _ _ h => h, fun _ _ h _ => h, fun _ h => .inl h, fun _ h => .inl h, fun _ h => h⟩
theorem Nx.trans {F F1 F2 : Hp} {ρ ρ1 ρ2 : List Addr} {H H1 H2 : Hp} (a : Nx F ρ H F1 ρ1 H1) (b : Nx F1 ρ1 H1 F2 ρ2 H2) : Nx F ρ H F2 ρ2 H2 where
  ex := a.ex.trans b.ex
  pre := fun i x h => b.pre i x (a.pre i x h)
  fr := fun x o h n => b.fr x o (a.fr x o h n) fun m => (a.rh x m).elim n fun z => by rw [h] at z; cases z
  fh := fun x h => by
    rcases b.fh x h with h1 | h1 | h1
    · exact a.fh x h1
    · refine .inr (.inl ?_)
      cases e : H x with
      | none => rfl
      | some o => exact absurd h1 (a.hn x (by rw [e]; simp))
    · rcases a.rh x h1 with h2 | h2
      · exact .inr (.inr h2)
      · exact .inr (.inl h2)
  rh := fun x h => by
    rcases b.rh x h with h1 | h1
    · exact a.rh x h1
    · refine .inr ?_
      cases e : H x with
      | none => rfl
      | some o => exact absurd h1 (a.hn x (by rw [e]; simp))
  hn := fun x h => b.hn x (a.hn x h)

section
variable {K : PySem.W.Frag} {Y : Pc} {F F' H : Hp} {ρ : List Addr} {S : Store}
/-- a new thing that will stay as it is -/
theorem SR.new (R : SR K Y F ρ S H) {p : Addr} {o : HO} (hp : H p = none) : SR K Y (upd F p o) ρ S (upd H p o) ∧ Nx F ρ H (upd F p o) ρ (upd H p o) ∧ (upd F p o) p = some o := by
  have fp : F p = none := by
    cases e : F p with
    | none => rfl
    | some u => rw [R.ex p u e] at hp; cases hp
  have np : ∀ a, H a ≠ none → a ≠ p := fun a h e => h (by rw [e]; exact hp)
  have e1 : Ex F (upd F p o) := Ex.new fp
  refine ⟨⟨fun a u h => ?_, R.len, R.nd, fun a h => ?_, fun i a c h1 h2 => ?_⟩, ⟨e1, fun _ _ h => h, fun a u h _ => ?_, fun a h => ?_, fun _ h => .inl h, fun a h => ?_⟩, upd_same⟩
  · by_cases e : a = p
    · subst e; rw [upd_same] at h ⊢; exact h
    · rw [upd_ne e] at h ⊢; exact R.ex a u h
  · rw [upd_ne (np a (R.there a h))]; exact R.there a h
  · have ha : a ≠ p := np a (R.there a (List.mem_of_getElem? h1))
    have k := R.cell i a c h1 h2
    cases c with
    | dead => trivial
    | lst ds =>
      obtain ⟨k1, xs, k2, k3⟩ := k
      exact ⟨by rw [upd_ne ha]; exact k1, xs, by rw [upd_ne ha]; exact k2, k3.mono e1 fun _ _ h => h⟩
    | ins c fs =>
      obtain ⟨k1, dx, vs, k2, k3⟩ := k
      exact ⟨by rw [upd_ne ha]; exact k1, dx, vs, by rw [upd_ne ha]; exact k2, k3.mono e1 fun _ _ h => h⟩
    | dct kvs => exact k.elim
    | exn c => exact ⟨by rw [upd_ne ha]; exact k.1, by rw [upd_ne ha]; exact k.2⟩
  · rw [upd_ne (ne_of_none h hp)]; exact h
  · by_cases e : a = p
    · subst e; exact .inr (.inl hp)
    · rw [upd_ne e] at h; exact .inl h
  · by_cases e : a = p
    · subst e; rw [upd_same]; simp
    · rw [upd_ne e]; exact h
/-- the heap grew by something that is not told (a temporary object) -/
theorem SR.grown (R : SR K Y F ρ S H) {p : Addr} {o : HO} (hp : H p = none) : SR K Y F ρ S (upd H p o) ∧ Nx F ρ H F ρ (upd H p o) := by
  have np : ∀ a, H a ≠ none → a ≠ p := fun a h e => h (by rw [e]; exact hp)
  refine ⟨⟨fun a u h => ?_, R.len, R.nd, fun a h => ?_, fun i a c h1 h2 => ?_⟩, ⟨Ex.refl _, fun _ _ h => h, fun a u h _ => ?_, fun a h => .inl h, fun _ h => .inl h, fun a h => ?_⟩⟩
  · have := R.ex a u h
    rw [upd_ne (ne_of_none this hp)]; exact this
  · rw [upd_ne (np a (R.there a h))]; exact R.there a h
  · have ha : a ≠ p := np a (R.there a (List.mem_of_getElem? h1))
    have k := R.cell i a c h1 h2
    cases c with
    | dead => trivial
    | lst ds =>
      obtain ⟨k1, xs, k2, k3⟩ := k
      exact ⟨k1, xs, by rw [upd_ne ha]; exact k2, k3⟩
    | ins c fs =>
      obtain ⟨k1, dx, vs, k2, k3⟩ := k
      exact ⟨k1, dx, vs, by rw [upd_ne ha]; exact k2, k3⟩
    | dct kvs => exact k.elim
    | exn c => exact ⟨k.1, by rw [upd_ne ha]; exact k.2⟩
  · rw [upd_ne (ne_of_none h hp)]; exact h
  · by_cases e : a = p
    · subst e; rw [upd_same]; simp
    · rw [upd_ne e]; exact h
theorem nodup_snoc {l : List Addr} {a : Addr} (h : l.Nodup) (n : a ∉ l) : (l ++ [a]).Nodup := by
  rw [List.nodup_append]
  exact ⟨h, by simp, fun x hx y hy => by simp at hy; subst hy; exact fun e => n (e ▸ hx)⟩
theorem pre_snoc (ρ : List Addr) (a : Addr) : Pre ρ (ρ ++ [a]) := fun i x h => by
  rw [List.getElem?_append_left (List.getElem?_eq_some_iff.mp h).1]; exact h
/-- a place that will be written: c says what stands there -/
theorem SR.cellNew (R : SR K Y F ρ S H) {p : Addr} {c : Cell} (hp : H p ≠ none) (fp : F p = none) (pr : p ∉ ρ) (k : CellOk K Y F (ρ ++ [p]) H p c) :
    SR K Y F (ρ ++ [p]) (S ++ [c]) H := by
  have pre := pre_snoc ρ p
  refine ⟨R.ex, by simp [R.len], nodup_snoc R.nd pr, fun a h => ?_, fun i a c' h1 h2 => ?_⟩
  · rcases List.mem_append.mp h with h | h
    · exact R.there a h
    · simp at h; subst h; exact hp
  · by_cases hi : i < ρ.length
    · rw [List.getElem?_append_left hi] at h1
      rw [List.getElem?_append_left (by rw [← R.len]; exact hi)] at h2
      have k := R.cell i a c' h1 h2
      cases c' with
      | dead => trivial
      | lst ds =>
        obtain ⟨k1, xs, k2, k3⟩ := k
        exact ⟨k1, xs, k2, k3.mono (Ex.refl _) pre⟩
      | ins c fs =>
        obtain ⟨k1, dx, vs, k2, k3⟩ := k
        exact ⟨k1, dx, vs, k2, k3.mono (Ex.refl _) pre⟩
      | dct kvs => exact k.elim
      | exn c => exact k
    · have e : i = ρ.length := by
        have := (List.getElem?_eq_some_iff.mp h1).1
        simp at this; omega
      subst e
      rw [List.getElem?_append_right (Nat.le_refl _)] at h1
      rw [List.getElem?_append_right (by rw [R.len]; exact Nat.le_refl _)] at h2
      simp at h1
      rw [R.len] at h2
      simp at h2
      subst h1; subst h2
      exact k
/-- a place is written anew -/
theorem SR.write (R : SR K Y F ρ S H) {i : Nat} {a : Addr} {c : Cell} {o : HO} (hi : ρ[i]? = some a) (fa : F a = none) (k : CellOk K Y F ρ (upd H a o) a c) :
    SR K Y F ρ (S.set i c) (upd H a o) ∧ Nx F ρ H F ρ (upd H a o) := by
  have hm : a ∈ ρ := List.mem_of_getElem? hi
  refine ⟨⟨fun b u h => ?_, by simp [R.len], R.nd, fun b h => ?_, fun j b c' h1 h2 => ?_⟩, ⟨Ex.refl _, fun _ _ h => h, fun b u h n => ?_, fun b h => .inl h, fun _ h => .inl h, fun b h => ?_⟩⟩
  · have hb : b ≠ a := fun e => by rw [e, fa] at h; cases h
    rw [upd_ne hb]; exact R.ex b u h
  · by_cases e : b = a
    · subst e; rw [upd_same]; simp
    · rw [upd_ne e]; exact R.there b h
  · by_cases hj : j = i
    · subst hj
      rw [hi] at h1; cases h1
      rw [List.getElem?_set_self (by rw [← R.len]; exact (List.getElem?_eq_some_iff.mp hi).1)] at h2
      cases h2
      exact k
    · rw [List.getElem?_set_ne (Ne.symm hj)] at h2
      have hb : b ≠ a := fun e => by
        subst e
        obtain ⟨l1, e1⟩ := List.getElem?_eq_some_iff.mp hi
        obtain ⟨l2, e2⟩ := List.getElem?_eq_some_iff.mp h1
        exact hj ((List.getElem_inj R.nd).mp (e2.trans e1.symm))
      have k := R.cell j b c' h1 h2
      cases c' with
      | dead => trivial
      | lst ds =>
        obtain ⟨k1, xs, k2, k3⟩ := k
        exact ⟨k1, xs, by rw [upd_ne hb]; exact k2, k3⟩
      | ins c fs =>
        obtain ⟨k1, dx, vs, k2, k3⟩ := k
        exact ⟨k1, dx, vs, by rw [upd_ne hb]; exact k2, k3⟩
      | dct kvs => exact k.elim
      | exn c => exact ⟨k.1, by rw [upd_ne hb]; exact k.2⟩
  · have hb : b ≠ a := fun e => n (e ▸ hm)
    rw [upd_ne hb]; exact h
  · by_cases e : b = a
    · subst e; rw [upd_same]; simp
    · rw [upd_ne e]; exact h
/-- a list of the store stays as it is from now on -/
theorem SR.freeze (R : SR K Y F ρ S H) {i : Nat} {a : Addr} {ds : List D} (hi : ρ[i]? = some a) (hs : S[i]? = some (.lst ds)) :
    ∃ F', SR K Y F' ρ (S.set i .dead) H ∧ Nx F ρ H F' ρ H ∧ RD K F' ρ (.ref a) (.lst ds) := by
  obtain ⟨fa, xs, ha, hx⟩ := R.cell i a _ hi hs
  have hm : a ∈ ρ := List.mem_of_getElem? hi
  have e1 : Ex F (upd F a (.lst xs)) := Ex.new fa
  refine ⟨upd F a (.lst xs), ⟨fun b u h => ?_, by simp [R.len], R.nd, R.there, fun j b c' h1 h2 => ?_⟩, ⟨e1, fun _ _ h => h, fun b u h n => h, fun b h => ?_, fun _ h => .inl h, fun b h => h⟩, .lst upd_same (hx.mono e1 fun _ _ h => h)⟩
  · by_cases e : b = a
    · subst e; rw [upd_same] at h; cases h; exact ha
    · rw [upd_ne e] at h; exact R.ex b u h
  · by_cases hj : j = i
    · subst hj
      rw [List.getElem?_set_self (by rw [← R.len]; exact (List.getElem?_eq_some_iff.mp hi).1)] at h2
      cases h2
      trivial
    · rw [List.getElem?_set_ne (Ne.symm hj)] at h2
      have hb : b ≠ a := fun e => by
        subst e
        obtain ⟨l1, e1⟩ := List.getElem?_eq_some_iff.mp hi
        obtain ⟨l2, e2⟩ := List.getElem?_eq_some_iff.mp h1
        exact hj ((List.getElem_inj R.nd).mp (e2.trans e1.symm))
      have k := R.cell j b c' h1 h2
      cases c' with
      | dead => trivial
      | lst ds =>
        obtain ⟨k1, xs, k2, k3⟩ := k
        exact ⟨by rw [upd_ne hb]; exact k1, xs, k2, k3.mono e1 fun _ _ h => h⟩
      | ins c fs =>
        obtain ⟨k1, dx, vs, k2, k3⟩ := k
        exact ⟨by rw [upd_ne hb]; exact k1, dx, vs, k2, k3.mono e1 fun _ _ h => h⟩
      | dct kvs => exact k.elim
      | exn c => exact ⟨by rw [upd_ne hb]; exact k.1, k.2⟩
  · by_cases e : b = a
    · subst e; exact .inr (.inr hm)
    · rw [upd_ne e] at h; exact .inl h
end

/-! ### slots -/
def ER (K : PySem.W.Frag) (F : Hp) (ρ : List Addr) (σ : St) (env : Ev) : Prop := σ.length = env.length ∧ ∀ (i : Nat) (d : D), env[i]? = some (some d) → ∃ v, σ[i]? = some (some v) ∧ RD K F ρ v d
section
variable {K : PySem.W.Frag} {F F' H H' : Hp} {ρ ρ' : List Addr} {σ : St} {env : Ev}
theorem ER.mono (h : ER K F ρ σ env) (e : Ex F F') (p : Pre ρ ρ') : ER K F' ρ' σ env := ⟨h.1, fun i d k => by
  obtain ⟨v, k1, k2⟩ := h.2 i d k
  exact ⟨v, k1, k2.mono e p⟩⟩
theorem ER.nx (h : ER K F ρ σ env) (n : Nx F ρ H F' ρ' H') : ER K F' ρ' σ env := h.mono n.ex n.pre
theorem ER.set (h : ER K F ρ σ env) (i : Nat) {v : V} {d : D} (k : RD K F ρ v d) : ER K F ρ (σ.set i (some v)) (env.set i (some d)) := ⟨by simp [h.1], fun j e q => by
  by_cases hj : j = i
  · subst hj
    have hl : j < env.length := by
      have := (List.getElem?_eq_some_iff.mp q).1
      simpa using this
    rw [List.getElem?_set_self hl] at q
    cases q
    exact ⟨v, List.getElem?_set_self (by rw [h.1]; exact hl), k⟩
  · rw [List.getElem?_set_ne (Ne.symm hj)] at q ⊢
    exact h.2 j e q⟩
theorem ER.setN (h : ER K F ρ σ env) (i : Nat) : ER K F ρ (σ.set i none) (env.set i none) := ⟨by simp [h.1], fun j e q => by
  by_cases hj : j = i
  · subst hj
    by_cases hl : j < env.length
    · rw [List.getElem?_set_self hl] at q; cases q
    · rw [List.getElem?_eq_none (by simpa using hl)] at q; cases q
  · rw [List.getElem?_set_ne (Ne.symm hj)] at q ⊢
    exact h.2 j e q⟩
/-- a slot's datum is forgotten, or told otherwise -/
theorem ER.tell (h : ER K F ρ σ env) (i : Nat) {v : V} {d : D} (hi : σ[i]? = some (some v)) (k : RD K F ρ v d) : ER K F ρ σ (env.set i (some d)) := ⟨by simp [h.1], fun j e q => by
  by_cases hj : j = i
  · subst hj
    have hl : j < env.length := by
      have := (List.getElem?_eq_some_iff.mp q).1
      simpa using this
    rw [List.getElem?_set_self hl] at q
    cases q
    exact ⟨v, hi, k⟩
  · rw [List.getElem?_set_ne (Ne.symm hj)] at q
    exact h.2 j e q⟩
def wipeE (env : Ev) : List Nat → Ev
  | [] => env
  | v :: vs => (wipeE env vs).set v none
theorem ER.wipe (h : ER K F ρ σ env) : ∀ vs : List Nat, ER K F ρ (wipe σ vs) (wipeE env vs)
  | [] => h
  | v :: vs => (ER.wipe h vs).setN v
end
end L3
set_option Elab.async false
set_option linter.all false
set_option maxRecDepth 100000
set_option maxHeartbeats 2000000
/-! what expressions, tests, statements compute -/
namespace L3
open PySem PySem.Spec L2

def Res.bind {α β : Type} (r : Res α) (f : α → Store → Res β) : Res β := match r with
  | .ok a S => f a S
  | .exc c S => .exc c S
  | .stuck => .stuck
def Out {α : Type} (K : PySem.W.Frag) (Y : Pc) (F : Hp) (ρ : List Addr) (H : Hp) (r : Res α) (ok : α → Store → Hp → List Addr → Hp → Prop) (ex : Value → Hp → Prop) : Prop := match r with
  | .ok a S' => ∀ (F' : Hp) (ρ' : List Addr) (H' : Hp), SR K Y F' ρ' S' H' → Nx F ρ H F' ρ' H' → ok a S' F' ρ' H'
  | .exc c S' => ∀ (F' : Hp) (ρ' : List Addr) (H' : Hp), SR K Y F' ρ' S' H' → Nx F ρ H F' ρ' H' → ex (.ref (Y.xc c)) H'
  | .stuck => False
section
variable {α β : Type} {K : PySem.W.Frag} {Y : Pc} {F : Hp} {ρ : List Addr} {H : Hp} {r : Res α} {f : α → Store → Res β}
theorem Out.imp {ok ok' : α → Store → Hp → List Addr → Hp → Prop} {ex ex' : Value → Hp → Prop} (h : Out K Y F ρ H r ok ex)
    (ho : ∀ a S' F' ρ' H', SR K Y F' ρ' S' H' → Nx F ρ H F' ρ' H' → ok a S' F' ρ' H' → ok' a S' F' ρ' H') (he : ∀ c H', ex c H' → ex' c H') : Out K Y F ρ H r ok' ex' := by
  cases r with
  | ok a S => exact fun F' ρ' H' R n => ho a S F' ρ' H' R n (h F' ρ' H' R n)
  | exc c S => exact fun F' ρ' H' R n => he _ _ (h F' ρ' H' R n)
  | stuck => exact h
theorem Out.bind {ok : β → Store → Hp → List Addr → Hp → Prop} {ex : Value → Hp → Prop} (h : Out K Y F ρ H (r.bind f) ok ex) : Out K Y F ρ H r (fun a S' F' ρ' H' => Out K Y F' ρ' H' (f a S') ok ex) ex := by
  cases r with
  | ok a S =>
    intro F' ρ' H' R n
    have h : Out K Y F ρ H (f a S) ok ex := h
    cases e : f a S with
    | ok b S2 =>
      rw [e] at h
      exact fun F2 ρ2 H2 R2 n2 => h F2 ρ2 H2 R2 (n.trans n2)
    | exc c S2 =>
      rw [e] at h
      exact fun F2 ρ2 H2 R2 n2 => h F2 ρ2 H2 R2 (n.trans n2)
    | stuck =>
      rw [e] at h
      exact h
  | exc c S => exact h
  | stuck => exact h
end

/-! ### the judgements -/
def EvE (K : PySem.W.Frag) (Y : Pc) (W : WX) (te : TE) (r : Ev → Store → Res D) : Prop := ∀ (F : Hp) (ρ : List Addr) (S : Store) (H : Hp) (σ : L2.St) (env : Ev) (Q : VK), SR K Y F ρ S H → ER K F ρ σ env →
  Out K Y F ρ H (r env S) (fun d _ F' ρ' H' => ∀ u, RD K F' ρ' u d → Q u H') (fun c H' => W c none σ H') → te σ H Q
def EvT (K : PySem.W.Frag) (Y : Pc) (W : WX) (tt : TT) (r : Ev → Store → Res Bool) : Prop := ∀ (F : Hp) (ρ : List Addr) (S : Store) (H : Hp) (σ : L2.St) (env : Ev) (Q : Bool → Hp → Prop), SR K Y F ρ S H → ER K F ρ σ env →
  Out K Y F ρ H (r env S) (fun b _ _ _ H' => Q b H') (fun c H' => W c none σ H') → tt σ H Q
def EvA (K : PySem.W.Frag) (Y : Pc) (W : WX) (ta : TA) (r : Ev → Store → Res (List D)) : Prop := ∀ (F : Hp) (ρ : List Addr) (S : Store) (H : Hp) (σ : L2.St) (env : Ev) (Q : List V → Hp → Prop), SR K Y F ρ S H → ER K F ρ σ env →
  Out K Y F ρ H (r env S) (fun ds _ F' ρ' H' => ∀ us, RDs K F' ρ' us ds → Q us H') (fun c H' => W c none σ H') → ta σ H Q
inductive Flow where
  | nx (env : Ev) | rt (d : D) | bk (env : Ev) | ct (env : Ev) | ex (c : Nat) (env : Ev)
abbrev SM := Ev → Store → Option (Flow × Store)
def FlowOk (K : PySem.W.Frag) (Y : Pc) (W : WX) (E : Ends) (fl : Flow) (F : Hp) (ρ : List Addr) (H : Hp) : Prop := match fl with
  | .nx env => ∀ σ, ER K F ρ σ env → E.nx σ H
  | .rt d => ∀ u, RD K F ρ u d → E.rt u H
  | .bk env => ∀ σ, ER K F ρ σ env → E.bk σ H
  | .ct env => ∀ σ, ER K F ρ σ env → E.ct σ H
  | .ex c env => ∀ σ, ER K F ρ σ env → W (.ref (Y.xc c)) none σ H
def OutS (K : PySem.W.Frag) (Y : Pc) (F : Hp) (ρ : List Addr) (H : Hp) (r : Option (Flow × Store)) (P : Flow → Store → Hp → List Addr → Hp → Prop) : Prop := match r with
  | some (fl, S') => ∀ (F' : Hp) (ρ' : List Addr) (H' : Hp), SR K Y F' ρ' S' H' → Nx F ρ H F' ρ' H' → P fl S' F' ρ' H'
  | none => False
def EvS (K : PySem.W.Frag) (Y : Pc) (W : WX) (ts : TS) (r : SM) : Prop := ∀ (F : Hp) (ρ : List Addr) (S : Store) (H : Hp) (σ : L2.St) (env : Ev) (E : Ends), SR K Y F ρ S H → ER K F ρ σ env →
  OutS K Y F ρ H (r env S) (fun fl _ F' ρ' H' => FlowOk K Y W E fl F' ρ' H') → ts E σ H
/-- an expression's result, then on; an exception leaves with the slots as they are -/
def Res.st {α : Type} (r : Res α) (env : Ev) (f : α → Store → Option (Flow × Store)) : Option (Flow × Store) := match r with
  | .ok a S => f a S
  | .exc c S => some (.ex c env, S)
  | .stuck => none
section
variable {α : Type} {K : PySem.W.Frag} {Y : Pc} {W : WX} {E : Ends} {F : Hp} {ρ : List Addr} {H : Hp} {r : Res α}
theorem OutS.imp {r : Option (Flow × Store)} {P P' : Flow → Store → Hp → List Addr → Hp → Prop} (h : OutS K Y F ρ H r P) (hp : ∀ fl S' F' ρ' H', SR K Y F' ρ' S' H' → Nx F ρ H F' ρ' H' → P fl S' F' ρ' H' → P' fl S' F' ρ' H') : OutS K Y F ρ H r P' := by
  cases r with
  | none => exact h
  | some x => exact fun F' ρ' H' R n => hp _ _ _ _ _ R n (h F' ρ' H' R n)
theorem OutS.st {f : α → Store → Option (Flow × Store)} {env : Ev} {P : Flow → Store → Hp → List Addr → Hp → Prop} {ex : Value → Hp → Prop} (h : OutS K Y F ρ H (r.st env f) P) (he : ∀ c S' F' ρ' H', Nx F ρ H F' ρ' H' → P (.ex c env) S' F' ρ' H' → ex (.ref (Y.xc c)) H') :
    Out K Y F ρ H r (fun a S' F' ρ' H' => OutS K Y F' ρ' H' (f a S') P) ex := by
  cases r with
  | ok a S =>
    intro F' ρ' H' R n
    have h : OutS K Y F ρ H (f a S) P := h
    cases e : f a S with
    | none =>
      rw [e] at h
      exact h
    | some x =>
      rw [e] at h
      exact fun F2 ρ2 H2 R2 n2 => h F2 ρ2 H2 R2 (n.trans n2)
  | exc c S =>
    have h : OutS K Y F ρ H (some (.ex c env, S)) P := h
    exact fun F' ρ' H' R n => he _ _ _ _ _ n (h F' ρ' H' R n)
  | stuck => exact h
/-- one result, the heap as it is -/
theorem Out.now {a : α} {S : Store} {ok : α → Store → Hp → List Addr → Hp → Prop} {ex : Value → Hp → Prop} (h : Out K Y F ρ H (.ok a S) ok ex) (R : SR K Y F ρ S H) : ok a S F ρ H := h F ρ H R (Nx.refl F ρ H)
end

/-! syntax that computes -/
structure SE (Y : Pc) (X : Cx) (W : WX) (e : Expr) (r : Ev → Store → Res D) : Prop where
  ex : ∃ te, PE X e te ∧ EvE X.K Y W te r
structure SB (Y : Pc) (X : Cx) (W : WX) (e : Expr) (r : Ev → Store → Res Bool) : Prop where
  ex : ∃ te, PT X e te ∧ EvT X.K Y W te r
structure SW (Y : Pc) (X : Cx) (W : WX) (e : Expr) (r : Ev → Store → Res Bool) : Prop where
  ex : ∃ te, PW X e te ∧ EvT X.K Y W te r
structure SA (Y : Pc) (X : Cx) (W : WX) (es : List Expr) (r : Ev → Store → Res (List D)) : Prop where
  ex : ∃ te, PA X es te ∧ EvA X.K Y W te r
structure SS (Y : Pc) (X : Cx) (W : WX) (st : Stmt) (r : SM) : Prop where
  ex : ∃ ts, PS X st ts ∧ EvS X.K Y W ts r
structure SSs (Y : Pc) (X : Cx) (W : WX) (st : List Stmt) (r : SM) : Prop where
  ex : ∃ ts, PSs X st ts ∧ EvS X.K Y W ts r

/-! ### expressions -/
def rVar (i : Nat) : Ev → Store → Res D := fun env S => match env[i]? with
  | some (some d) => .ok d S
  | _ => .stuck
def rC (d : D) : Ev → Store → Res D := fun _ S => .ok d S
abbrev Op2 := Store → D → D → Option D
abbrev Op1 := Store → D → Option D
def lift {α : Type} (o : Option α) (S : Store) : Res α := match o with
  | some a => .ok a S
  | none => .stuck
def r2 (g : Op2) (ra rb : Ev → Store → Res D) : Ev → Store → Res D := fun env S => (ra env S).bind fun x S1 => (rb env S1).bind fun y S2 => lift (g S2 x y) S2
def r1 (g : Op1) (ra : Ev → Store → Res D) : Ev → Store → Res D := fun env S => (ra env S).bind fun x S1 => lift (g S1 x) S1
def rNil : Ev → Store → Res (List D) := fun _ S => .ok [] S
def rCons (ra : Ev → Store → Res D) (rs : Ev → Store → Res (List D)) : Ev → Store → Res (List D) := fun env S => (ra env S).bind fun x S1 => (rs env S1).bind fun xs S2 => .ok (x :: xs) S2
def rTup (rs : Ev → Store → Res (List D)) : Ev → Store → Res D := fun env S => (rs env S).bind fun xs S1 => if xs.length ≤ 100000 then .ok (.tup xs) S1 else .stuck
def rLst (rs : Ev → Store → Res (List D)) : Ev → Store → Res D := fun env S => (rs env S).bind fun xs S1 => if xs.length ≤ 100000 then .ok (.lst xs) S1 else .stuck
/-- a new list that will be written -/
def rLstM (rs : Ev → Store → Res (List D)) : Ev → Store → Res D := fun env S => (rs env S).bind fun xs S1 => if xs.length ≤ 100000 then .ok (.loc S1.length) (S1 ++ [.lst xs]) else .stuck
def rIf (rt : Ev → Store → Res Bool) (ra rb : Ev → Store → Res D) : Ev → Store → Res D := fun env S => (rt env S).bind fun b S1 => if b = true then ra env S1 else rb env S1
def tOf (ra : Ev → Store → Res D) : Ev → Store → Res Bool := fun env S => (ra env S).bind fun x S1 => match x with
  | .bl b => .ok b S1
  | _ => .stuck
def tAndR (ra rb : Ev → Store → Res Bool) : Ev → Store → Res Bool := fun env S => (ra env S).bind fun b S1 => if b = true then rb env S1 else .ok false S1
def tOrR (ra rb : Ev → Store → Res Bool) : Ev → Store → Res Bool := fun env S => (ra env S).bind fun b S1 => if b = true then .ok true S1 else rb env S1
def tNotR (ra : Ev → Store → Res Bool) : Ev → Store → Res Bool := fun env S => (ra env S).bind fun b S1 => .ok (!b) S1
def vAnd (ra rb : Ev → Store → Res D) : Ev → Store → Res D := fun env S => (ra env S).bind fun x S1 => match x with
  | .bl true => rb env S1
  | .bl false => .ok (.bl false) S1
  | _ => .stuck
def vOr (ra rb : Ev → Store → Res D) : Ev → Store → Res D := fun env S => (ra env S).bind fun x S1 => match x with
  | .bl false => rb env S1
  | .bl true => .ok (.bl true) S1
  | _ => .stuck
def vNot (ra : Ev → Store → Res D) : Ev → Store → Res D := fun env S => (ra env S).bind fun x S1 => match x with
  | .bl b => .ok (.bl (!b)) S1
  | _ => .stuck
def rChain (g g' : Op2) (ra rb rc : Ev → Store → Res D) : Ev → Store → Res D := fun env S => (ra env S).bind fun x S1 => (rb env S1).bind fun y S2 => (lift (g S2 x y) S2).bind fun z S3 => match z with
  | .bl true => (rc env S3).bind fun w S4 => lift (g' S4 y w) S4
  | .bl false => .ok (.bl false) S3
  | _ => .stuck

/-- an operator by values -/
def OpOk (K : PySem.W.Frag) (Y : Pc) (g : Op2) (r : R2) : Prop := ∀ (F : Hp) (ρ : List Addr) (S : Store) (H : Hp) (x y : V) (dx dy d : D) (Q : VK), SR K Y F ρ S H → RD K F ρ x dx → RD K F ρ y dy → g S dx dy = some d →
  (∀ F' H' u, SR K Y F' ρ S H' → Nx F ρ H F' ρ H' → RD K F' ρ u d → Q u H') → r x y H Q
def Op1Ok (K : PySem.W.Frag) (Y : Pc) (g : Op1) (r : V → Hp → VK → Prop) : Prop := ∀ (F : Hp) (ρ : List Addr) (S : Store) (H : Hp) (x : V) (dx d : D) (Q : VK), SR K Y F ρ S H → RD K F ρ x dx → g S dx = some d →
  (∀ F' H' u, SR K Y F' ρ S H' → Nx F ρ H F' ρ H' → RD K F' ρ u d → Q u H') → r x H Q
structure SOp (Y : Pc) (X : Cx) (f : Value → Value → Sem Value) (g : Op2) : Prop where
  ex : ∃ r, OpR X f r ∧ OpOk X.K Y g r
theorem SOp.or {Y : Pc} {X : Cx} {f : Value → Value → Sem Value} {g g' : Op2} (h : SOp Y X f g) (h' : SOp Y X f g') : SOp Y X f (fun S x y => (g S x y).or (g' S x y)) := by
  obtain ⟨r, h1, h2⟩ := h.ex
  obtain ⟨r', h1', h2'⟩ := h'.ex
  refine ⟨_, h1.or h1', fun F ρ S H x y dx dy d Q R rx ry e k => ?_⟩
  have e : (g S dx dy).or (g' S dx dy) = some d := e
  cases e1 : g S dx dy with
  | some z =>
    rw [e1] at e
    exact .inl (h2 F ρ S H x y dx dy d Q R rx ry (by rw [e1]; exact e) k)
  | none =>
    rw [e1] at e
    exact .inr (h2' F ρ S H x y dx dy d Q R rx ry e k)

section
variable {Y : Pc} {X : Cx} {W : WX} {a b c e : Expr} {es : List Expr} {ra rb rc : Ev → Store → Res D} {rs : Ev → Store → Res (List D)} {rt : Ev → Store → Res Bool} {pos : Pos} {K : PySem.W.Frag}

theorem lift_out {α : Type} {F : Hp} {ρ : List Addr} {H : Hp} {S : Store} {o : Option α} {ok : α → Store → Hp → List Addr → Hp → Prop} {ex : Value → Hp → Prop} (h : Out K Y F ρ H (lift o S) ok ex) :
    ∃ d, o = some d ∧ ∀ F' ρ' H', SR K Y F' ρ' S H' → Nx F ρ H F' ρ' H' → ok d S F' ρ' H' := by
  cases o with
  | none => exact False.elim h
  | some d => exact ⟨d, rfl, h⟩

/-- the reading of an operand, then on -/
theorem EvE.then {te : TE} {β : Type} {F : Hp} {ρ : List Addr} {S : Store} {H : Hp} {σ : L2.St} {env : Ev} {f : D → Store → Res β} {ok : β → Store → Hp → List Addr → Hp → Prop} {Q : VK} (h : EvE K Y W te ra) (R : SR K Y F ρ S H) (E : ER K F ρ σ env)
    (o : Out K Y F ρ H ((ra env S).bind f) ok (fun c H' => W c none σ H'))
    (k : ∀ d u S1 F1 ρ1 H1, SR K Y F1 ρ1 S1 H1 → Nx F ρ H F1 ρ1 H1 → ER K F1 ρ1 σ env → RD K F1 ρ1 u d → Out K Y F1 ρ1 H1 (f d S1) ok (fun c H' => W c none σ H') → Q u H1) : te σ H Q :=
  h F ρ S H σ env Q R E (o.bind.imp (fun d S1 F1 ρ1 H1 R1 n1 o1 u ru => k d u S1 F1 ρ1 H1 R1 n1 (E.nx n1) ru o1) fun _ _ z => z)
theorem EvT.then {te : TT} {β : Type} {F : Hp} {ρ : List Addr} {S : Store} {H : Hp} {σ : L2.St} {env : Ev} {f : Bool → Store → Res β} {ok : β → Store → Hp → List Addr → Hp → Prop} {Q : Bool → Hp → Prop} (h : EvT K Y W te rt) (R : SR K Y F ρ S H) (E : ER K F ρ σ env)
    (o : Out K Y F ρ H ((rt env S).bind f) ok (fun c H' => W c none σ H'))
    (k : ∀ b S1 F1 ρ1 H1, SR K Y F1 ρ1 S1 H1 → Nx F ρ H F1 ρ1 H1 → ER K F1 ρ1 σ env → Out K Y F1 ρ1 H1 (f b S1) ok (fun c H' => W c none σ H') → Q b H1) : te σ H Q :=
  h F ρ S H σ env Q R E (o.bind.imp (fun d S1 F1 ρ1 H1 R1 n1 o1 => k d S1 F1 ρ1 H1 R1 n1 (E.nx n1) o1) fun _ _ z => z)
theorem EvA.then {te : TA} {β : Type} {F : Hp} {ρ : List Addr} {S : Store} {H : Hp} {σ : L2.St} {env : Ev} {f : List D → Store → Res β} {ok : β → Store → Hp → List Addr → Hp → Prop} {Q : List V → Hp → Prop} (h : EvA K Y W te rs) (R : SR K Y F ρ S H) (E : ER K F ρ σ env)
    (o : Out K Y F ρ H ((rs env S).bind f) ok (fun c H' => W c none σ H'))
    (k : ∀ ds us S1 F1 ρ1 H1, SR K Y F1 ρ1 S1 H1 → Nx F ρ H F1 ρ1 H1 → ER K F1 ρ1 σ env → RDs K F1 ρ1 us ds → Out K Y F1 ρ1 H1 (f ds S1) ok (fun c H' => W c none σ H') → Q us H1) : te σ H Q :=
  h F ρ S H σ env Q R E (o.bind.imp (fun d S1 F1 ρ1 H1 R1 n1 o1 u ru => k d u S1 F1 ρ1 H1 R1 n1 (E.nx n1) ru o1) fun _ _ z => z)

theorem ev_var (i : Nat) : EvE K Y W (tVar i) (rVar i) := fun F ρ S H σ env Q R E h => by
  unfold rVar at h
  cases e : env[i]? with
  | none => rw [e] at h; exact False.elim h
  | some o =>
    cases o with
    | none => rw [e] at h; exact False.elim h
    | some d =>
      rw [e] at h
      obtain ⟨v, h1, h2⟩ := E.2 i d e
      exact ⟨v, h1, Out.now h R v h2⟩
theorem se_var (i : Nat) {x : Str} (hN : X.N[i]? = some x := by rfl) (hv : Vis X.env.scope x := by first | exact Or.inl rfl | exact Or.inr (Or.inl rfl) | exact Or.inr (Or.inr rfl)) (hd : (x == ("__debug__" : Str)) = false := by decide)
    (hcd : (x == ("__classdict__" : Str)) = false := by decide) : SE Y X W (.Name x pos) (rVar i) := ⟨tVar i, pe_var hN hv hd hcd, ev_var i⟩
theorem ev_c {v : V} {d : D} (h : ∀ F ρ, RD K F ρ v d) : EvE K Y W (tC v) (rC d) := fun F ρ S H σ env Q R E o => Out.now o R v (h F ρ)
theorem se_int {i : Int} {j : Nat} : SE Y X W (.Constant (.int i) j pos) (rC (.int i)) := ⟨_, pe_int, ev_c fun _ _ => .int i⟩
theorem se_bl {b : Bool} {j : Nat} : SE Y X W (.Constant (.bool b) j pos) (rC (.bl b)) := ⟨_, pe_bl, ev_c fun _ _ => .bl b⟩
theorem se_non {j : Nat} : SE Y X W (.Constant .none j pos) (rC .non) := ⟨_, pe_non, ev_c fun _ _ => .non⟩
theorem tx_of {x : Str} {l : List Nat} (h : x.cps.toList = l) : x = tx l := by
  subst h
  rfl
theorem se_str {x : Str} {l : List Nat} {j : Nat} (h : x.cps.toList = l := by decide +kernel) (ho : l.all (fun c => decide (c < 1114112)) = true := by decide +kernel) : SE Y X W (.Constant (.str x) j pos) (rC (.str l)) := ⟨_, pe_str, ev_c fun _ _ => by
  rw [tx_of h]
  exact .str l (fun c hc => of_decide_eq_true (List.all_eq_true.mp ho c hc))⟩
/-- a module's constant -/
theorem se_glob {x : Str} {v : V} {u : Value} {d : D} (hg : Gl X x) (hm : X.mg x = some u) (r : RelV v u) (h : ∀ F ρ, RD X.K F ρ v d) (hd : (x == ("__debug__" : Str)) = false := by decide) : SE Y X W (.Name x pos) (rC d) := ⟨_, pe_glob hg hm r hd, ev_c h⟩

theorem ev_op {g : Op2} {r : R2} {ta tb : TE} (ho : OpOk K Y g r) (ha : EvE K Y W ta ra) (hb : EvE K Y W tb rb) : EvE K Y W (tOp r ta tb) (r2 g ra rb) := fun F ρ S H σ env Q R E h =>
  ha.then R E h fun d u S1 F1 ρ1 H1 R1 n1 E1 ru o1 => hb.then R1 E1 o1 fun d' u' S2 F2 ρ2 H2 R2 n2 E2 ru' o2 => by
    obtain ⟨z, hz, k⟩ := lift_out o2
    exact ho F2 ρ2 S2 H2 u u' d d' z Q R2 (ru.mono n2.ex n2.pre) ru' hz fun F' H' u R' n' r' => k F' ρ2 H' R' n' u r'
theorem ev_op1 {g : Op1} {r : V → Hp → VK → Prop} {ta : TE} (ho : Op1Ok K Y g r) (ha : EvE K Y W ta ra) : EvE K Y W (tUn r ta) (r1 g ra) := fun F ρ S H σ env Q R E h =>
  ha.then R E h fun d u S1 F1 ρ1 H1 R1 n1 E1 ru o1 => by
    obtain ⟨z, hz, k⟩ := lift_out o1
    exact ho F1 ρ1 S1 H1 u d z Q R1 ru hz fun F' H' u R' n' r' => k F' ρ1 H' R' n' u r'
theorem se_bin {op : Operator} {g : Op2} (ho : SOp Y X (binaryOp op) g) (ha : SE Y X W a ra) (hb : SE Y X W b rb) : SE Y X W (.BinOp a op b pos) (r2 g ra rb) := by
  obtain ⟨r, h1, h2⟩ := ho.ex
  obtain ⟨ta, a1, a2⟩ := ha.ex
  obtain ⟨tb, b1, b2⟩ := hb.ex
  exact ⟨_, pe_op h1 a1 b1, ev_op h2 a2 b2⟩
theorem se_cmp {op : CmpOp} {g : Op2} (ho : SOp Y X (compareOp op) g) (ha : SE Y X W a ra) (hb : SE Y X W b rb) (hm : behindInMarks op b = false := by rfl) : SE Y X W (.Compare a [op] [b] pos) (r2 g ra rb) := by
  obtain ⟨r, h1, h2⟩ := ho.ex
  obtain ⟨ta, a1, a2⟩ := ha.ex
  obtain ⟨tb, b1, b2⟩ := hb.ex
  exact ⟨_, pe_cmpR h1 a1 b1 hm, ev_op h2 a2 b2⟩
theorem se_un {op : UnaryOp} {g : Op1} {r : V → Hp → VK → Prop} (ho : UnR X (unaryOp op) r) (hg : Op1Ok X.K Y g r) (ha : SE Y X W a ra) : SE Y X W (.UnaryOp op a pos) (r1 g ra) := by
  obtain ⟨ta, a1, a2⟩ := ha.ex
  exact ⟨_, pe_un ho a1, ev_op1 hg a2⟩
theorem se_chain {op op' : CmpOp} {g g' : Op2} (ho : SOp Y X (compareOp op) g) (ho' : SOp Y X (compareOp op') g') (ha : SE Y X W a ra) (hb : SE Y X W b rb) (hc : SE Y X W c rc)
    (hm : lastMarks [op, op'] [b, c] = false := by with_unfolding_all rfl) : SE Y X W (.Compare a [op, op'] [b, c] pos) (rChain g g' ra rb rc) := by
  obtain ⟨r, h1, h2⟩ := ho.ex
  obtain ⟨r', h1', h2'⟩ := ho'.ex
  obtain ⟨ta, a1, a2⟩ := ha.ex
  obtain ⟨tb, b1, b2⟩ := hb.ex
  obtain ⟨tc, c1, c2⟩ := hc.ex
  refine ⟨_, pe_chain h1 h1' a1 b1 c1 hm, fun F ρ S H σ env Q R E h => ?_⟩
  refine a2.then R E h fun d u S1 F1 ρ1 H1 R1 n1 E1 ru o1 => b2.then R1 E1 o1 fun d' u' S2 F2 ρ2 H2 R2 n2 E2 ru' o2 => ?_
  have o2 := o2.bind
  obtain ⟨z, hz, k⟩ := lift_out o2
  refine h2 F2 ρ2 S2 H2 u u' d d' z _ R2 (ru.mono n2.ex n2.pre) ru' hz fun F' H' w R' n' r' => ?_
  have o3 := k F' ρ2 H' R' n'
  cases r' with
  | bl kk =>
    refine ⟨kk, rfl, ?_⟩
    cases kk with
    | true =>
      refine c2.then R' (E2.nx n') o3 fun d3 u3 S4 F4 ρ4 H4 R4 n4 E4 ru3 o4 => ?_
      obtain ⟨z, hz, k⟩ := lift_out o4
      exact h2' F4 ρ4 S4 H4 u' u3 d' d3 z Q R4 ((ru'.mono n'.ex n'.pre).mono n4.ex n4.pre) ru3 hz fun F' H' u R' n' r' => k F' ρ4 H' R' n' u r'
    | false => exact Out.now o3 R' _ (.bl false)
  | _ => exact False.elim o3

theorem sa_nil : SA Y X W [] rNil := ⟨_, pa_nil, fun F ρ S H σ env Q R E h => Out.now h R [] .nil⟩
theorem sa_cons (ha : SE Y X W e ra) (hr : SA Y X W es rs) (hs : starEach (e :: es) X.env = (false, eval e X.env) :: starEach es X.env := by rfl) : SA Y X W (e :: es) (rCons ra rs) := by
  obtain ⟨ta, a1, a2⟩ := ha.ex
  obtain ⟨tb, b1, b2⟩ := hr.ex
  exact ⟨_, pa_cons a1 b1 hs, fun F ρ S H σ env Q R E h => a2.then R E h fun d u S1 F1 ρ1 H1 R1 n1 E1 ru o1 => b2.then R1 E1 o1 fun ds us S2 F2 ρ2 H2 R2 n2 E2 rus o2 => Out.now o2 R2 _ (.cons (ru.mono n2.ex n2.pre) rus)⟩
theorem small (n : Nat) (h : n ≤ 100000) : n ≤ sizeLine := Nat.le_trans h (by decide)
theorem se_tup {k : Nat} (h : SA Y X W es rs) : SE Y X W (.Tuple es k pos) (rTup rs) := by
  obtain ⟨ta, a1, a2⟩ := h.ex
  refine ⟨_, pe_tup a1, fun F ρ S H σ env Q R E h => a2.then R E h fun ds us S1 F1 ρ1 H1 R1 n1 E1 ru o1 => ?_⟩
  by_cases hl : ds.length ≤ 100000
  · rw [if_pos hl] at o1
    refine ⟨small _ (by rw [ru.length]; exact hl), fun p hp => ?_⟩
    obtain ⟨R2, n2, e2⟩ := R1.new (o := .tup us) hp
    exact o1 _ _ _ R2 n2 _ (.tup (Or.inl (Or.inl e2)) (ru.mono n2.ex n2.pre))
  · rw [if_neg hl] at o1
    exact False.elim o1
theorem se_lst (h : SA Y X W es rs) : SE Y X W (.List es pos) (rLst rs) := by
  obtain ⟨ta, a1, a2⟩ := h.ex
  refine ⟨_, pe_lst a1, fun F ρ S H σ env Q R E h => a2.then R E h fun ds us S1 F1 ρ1 H1 R1 n1 E1 ru o1 => ?_⟩
  by_cases hl : ds.length ≤ 100000
  · rw [if_pos hl] at o1
    refine ⟨small _ (by rw [ru.length]; exact hl), fun p hp => ?_⟩
    obtain ⟨R2, n2, e2⟩ := R1.new (o := .lst us) hp
    exact o1 _ _ _ R2 n2 _ (.lst e2 (ru.mono n2.ex n2.pre))
  · rw [if_neg hl] at o1
    exact False.elim o1
/-- a new place -/
theorem SR.alloc {F H : Hp} {ρ : List Addr} {S : Store} (R : SR K Y F ρ S H) {p : Addr} {o : HO} {cc : Cell} (hp : H p = none) (k : CellOk K Y F (ρ ++ [p]) (upd H p o) p cc) :
    SR K Y F (ρ ++ [p]) (S ++ [cc]) (upd H p o) ∧ Nx F ρ H F (ρ ++ [p]) (upd H p o) ∧ (ρ ++ [p])[S.length]? = some p := by
  obtain ⟨R2, n2⟩ := R.grown (o := o) hp
  have fp : F p = none := by
    cases e : F p with
    | none => rfl
    | some u => rw [R.ex p u e] at hp; cases hp
  have pr : p ∉ ρ := fun m => R.there p m hp
  refine ⟨R2.cellNew (by rw [upd_same]; simp) fp pr k, ⟨Ex.refl _, pre_snoc ρ p, n2.fr, n2.fh, fun a m => ?_, n2.hn⟩, by rw [← R.len]; simp⟩
  rcases List.mem_append.mp m with m | m
  · exact .inl m
  · simp at m; subst m; exact .inr hp
theorem se_lstM (h : SA Y X W es rs) : SE Y X W (.List es pos) (rLstM rs) := by
  obtain ⟨ta, a1, a2⟩ := h.ex
  refine ⟨_, pe_lst a1, fun F ρ S H σ env Q R E h => a2.then R E h fun ds us S1 F1 ρ1 H1 R1 n1 E1 ru o1 => ?_⟩
  by_cases hl : ds.length ≤ 100000
  · rw [if_pos hl] at o1
    refine ⟨small _ (by rw [ru.length]; exact hl), fun p hp => ?_⟩
    have fp : F1 p = none := by
      cases e : F1 p with
      | none => rfl
      | some u => rw [R1.ex p u e] at hp; cases hp
    obtain ⟨R2, n2, e2⟩ := R1.alloc (o := .lst us) (cc := .lst ds) hp ⟨fp, us, upd_same, ru.mono (Ex.refl _) (pre_snoc _ _)⟩
    exact o1 _ _ _ R2 n2 _ (.loc e2)
  · rw [if_neg hl] at o1
    exact False.elim o1

/-! tests -/
theorem sb_val (ha : SE Y X W e ra) (he : ∀ whole, isTrue e X.env whole = (do let v ← whole; standAt e.pos; holding [v] (truthy v)) := by intro _; rfl) : SB Y X W e (tOf ra) := by
  obtain ⟨ta, a1, a2⟩ := ha.ex
  refine ⟨_, pt_truth a1 he, fun F ρ S H σ env Q R E h => a2.then R E h fun d u S1 F1 ρ1 H1 R1 n1 E1 ru o1 => ?_⟩
  cases ru with
  | bl b => exact ⟨b, rfl, Out.now o1 R1⟩
  | _ => exact False.elim o1
theorem sb_cmp {op : CmpOp} {g : Op2} (ho : SOp Y X (compareOp op) g) (ha : SE Y X W a ra) (hb : SE Y X W b rb) (hm : behindInMarks op b = false := by rfl) : SB Y X W (.Compare a [op] [b] pos) (tOf (r2 g ra rb)) := by
  obtain ⟨r, h1, h2⟩ := ho.ex
  obtain ⟨ta, a1, a2⟩ := ha.ex
  obtain ⟨tb, b1, b2⟩ := hb.ex
  refine ⟨_, pt_cmpR h1 a1 b1 hm, fun F ρ S H σ env Q R E h => ?_⟩
  refine (ev_op h2 a2 b2).then R E h fun d u S1 F1 ρ1 H1 R1 n1 E1 ru o1 => ?_
  cases ru with
  | bl b => exact ⟨b, rfl, Out.now o1 R1⟩
  | _ => exact False.elim o1
theorem SW.sb (h : SW Y X W e rt) : SB Y X W e rt := by
  obtain ⟨t, h1, h2⟩ := h.ex
  exact ⟨t, h1.pt, h2⟩
variable {rta rtb : Ev → Store → Res Bool} {rest : List Expr}
theorem sw_and1 (ha : SB Y X W a rta) : SW Y X W (.BoolOp .And [a] pos) rta := by
  obtain ⟨t, h1, h2⟩ := ha.ex
  exact ⟨t, pw_and1 h1, h2⟩
theorem sw_or1 (ha : SB Y X W a rta) : SW Y X W (.BoolOp .Or [a] pos) rta := by
  obtain ⟨t, h1, h2⟩ := ha.ex
  exact ⟨t, pw_or1 h1, h2⟩
theorem sw_and (ha : SB Y X W a rta) (hb : SW Y X W (.BoolOp .And (b :: rest) pos) rtb) : SW Y X W (.BoolOp .And (a :: b :: rest) pos) (tAndR rta rtb) := by
  obtain ⟨t, a1, a2⟩ := ha.ex
  obtain ⟨u, b1, b2⟩ := hb.ex
  refine ⟨_, pw_and a1 b1, fun F ρ S H σ env Q R E h => a2.then R E h fun k S1 F1 ρ1 H1 R1 n1 E1 o1 => ?_⟩
  cases k with
  | true => exact b2 F1 ρ1 S1 H1 σ env Q R1 E1 o1
  | false => exact Out.now o1 R1
theorem sw_or (ha : SB Y X W a rta) (hb : SW Y X W (.BoolOp .Or (b :: rest) pos) rtb) : SW Y X W (.BoolOp .Or (a :: b :: rest) pos) (tOrR rta rtb) := by
  obtain ⟨t, a1, a2⟩ := ha.ex
  obtain ⟨u, b1, b2⟩ := hb.ex
  refine ⟨_, pw_or a1 b1, fun F ρ S H σ env Q R E h => a2.then R E h fun k S1 F1 ρ1 H1 R1 n1 E1 o1 => ?_⟩
  cases k with
  | false => exact b2 F1 ρ1 S1 H1 σ env Q R1 E1 o1
  | true => exact Out.now o1 R1
theorem sb_not (ha : SB Y X W a rta) : SB Y X W (.UnaryOp .Not a pos) (tNotR rta) := by
  obtain ⟨t, a1, a2⟩ := ha.ex
  exact ⟨_, pt_not a1, fun F ρ S H σ env Q R E h => a2.then R E h fun k S1 F1 ρ1 H1 R1 n1 E1 o1 => Out.now o1 R1⟩
/-! and, or, not as values -/
theorem se_one {op : BoolOp} (h : SE Y X W a ra) : SE Y X W (.BoolOp op [a] pos) ra := by
  obtain ⟨t, h1, h2⟩ := h.ex
  exact ⟨t, pe_one h1, h2⟩
theorem se_and (ha : SE Y X W a ra) (hb : SE Y X W (.BoolOp .And (b :: rest) pos) rb) : SE Y X W (.BoolOp .And (a :: b :: rest) pos) (vAnd ra rb) := by
  obtain ⟨t, a1, a2⟩ := ha.ex
  obtain ⟨u, b1, b2⟩ := hb.ex
  refine ⟨_, pe_and a1 b1, fun F ρ S H σ env Q R E h => a2.then R E h fun d v S1 F1 ρ1 H1 R1 n1 E1 ru o1 => ?_⟩
  cases ru with
  | bl k =>
    refine ⟨k, rfl, ?_⟩
    cases k with
    | true => exact b2 F1 ρ1 S1 H1 σ env Q R1 E1 o1
    | false => exact Out.now o1 R1 _ (.bl false)
  | _ => exact False.elim o1
theorem se_or (ha : SE Y X W a ra) (hb : SE Y X W (.BoolOp .Or (b :: rest) pos) rb) : SE Y X W (.BoolOp .Or (a :: b :: rest) pos) (vOr ra rb) := by
  obtain ⟨t, a1, a2⟩ := ha.ex
  obtain ⟨u, b1, b2⟩ := hb.ex
  refine ⟨_, pe_or a1 b1, fun F ρ S H σ env Q R E h => a2.then R E h fun d v S1 F1 ρ1 H1 R1 n1 E1 ru o1 => ?_⟩
  cases ru with
  | bl k =>
    refine ⟨k, rfl, ?_⟩
    cases k with
    | false => exact b2 F1 ρ1 S1 H1 σ env Q R1 E1 o1
    | true => exact Out.now o1 R1 _ (.bl true)
  | _ => exact False.elim o1
theorem se_not (ha : SE Y X W a ra) : SE Y X W (.UnaryOp .Not a pos) (vNot ra) := by
  obtain ⟨t, a1, a2⟩ := ha.ex
  refine ⟨_, pe_not a1, fun F ρ S H σ env Q R E h => a2.then R E h fun d v S1 F1 ρ1 H1 R1 n1 E1 ru o1 => ?_⟩
  cases ru with
  | bl k => exact ⟨k, rfl, Out.now o1 R1 _ (.bl _)⟩
  | _ => exact False.elim o1
theorem se_ifExp (hc : SB Y X W c rt) (ha : SE Y X W a ra) (hb : SE Y X W b rb) : SE Y X W (.IfExp c a b pos) (rIf rt ra rb) := by
  obtain ⟨t, c1, c2⟩ := hc.ex
  obtain ⟨u, a1, a2⟩ := ha.ex
  obtain ⟨v, b1, b2⟩ := hb.ex
  refine ⟨_, pe_ifExp c1 a1 b1, fun F ρ S H σ env Q R E h => c2.then R E h fun k S1 F1 ρ1 H1 R1 n1 E1 o1 => ?_⟩
  cases k with
  | true => exact a2 F1 ρ1 S1 H1 σ env Q R1 E1 o1
  | false => exact b2 F1 ρ1 S1 H1 σ env Q R1 E1 o1
end
end L3
set_option Elab.async false
set_option linter.all false
set_option maxRecDepth 100000
set_option maxHeartbeats 2000000
/-! calls, statements, loops, comprehensions -/
namespace L3
open PySem PySem.Spec L2

/-! ### defs -/
abbrev FSem := Store → List D → Res D
def spOf (K : PySem.W.Frag) (Y : Pc) (s : FSem) (n : Nat) : Sp := fun vs H Q E => vs.length = n ∧ ∃ (F : Hp) (ρ : List Addr) (S : Store) (ds : List D), SR K Y F ρ S H ∧ RDs K F ρ vs ds ∧
  Out K Y F ρ H (s S ds) (fun d _ F' ρ' H' => ∀ u, RD K F' ρ' u d → Q u H') (fun c H' => E c none H')
def rCall (s : FSem) (rs : Ev → Store → Res (List D)) : Ev → Store → Res D := fun env S => (rs env S).bind fun ds S1 => s S1 ds
section
variable {Y : Pc} {X : Cx} {W : WX} {a b c e : Expr} {es : List Expr} {ra rb rc : Ev → Store → Res D} {rs : Ev → Store → Res (List D)} {rt : Ev → Store → Res Bool} {pos : Pos} {K : PySem.W.Frag}

/-- what surrounds a body: exceptions are taken, nothing is handled, room, no name twice -/
structure Ok (X : Cx) (W : WX) (k : Nat) : Prop where
  tk : ∀ σ, PassesAt (L2.CX X.prog X.w) X σ (WE W σ)
  calm : X.calm = true
  room : Room k X.A
  nd : X.N.Nodup

theorem ev_call {n : Nat} {s : FSem} {ta : TA} (ha : EvA K Y W ta rs) (hl : ∀ env S ds S', rs env S = .ok ds S' → ds.length = n) : EvE K Y W (tCallS (spOf K Y s n) (WE W) ta) (rCall s rs) := fun F ρ S H σ env Q R E h => by
  refine ha F ρ S H σ env _ R E ?_
  have h' := h.bind
  cases e : rs env S with
  | ok ds S1 =>
    rw [e] at h'
    intro F1 ρ1 H1 R1 n1 us ru
    exact ⟨by rw [ru.length]; exact hl _ _ _ _ e, F1, ρ1, S1, ds, R1, ru, h' F1 ρ1 H1 R1 n1⟩
  | exc c S1 => rw [e] at h'; exact h'
  | stuck => rw [e] at h'; exact h'
theorem ev_nil : EvA K Y W tNil rNil := fun F ρ S H σ env Q R E h => Out.now h R [] .nil
/-- the number of arguments -/
structure Len (n : Nat) (rs : Ev → Store → Res (List D)) : Prop where
  eq : ∀ env S ds S', rs env S = .ok ds S' → ds.length = n
theorem len_nil : Len 0 rNil := ⟨fun env S ds S' h => by cases h; rfl⟩
theorem len_cons {n : Nat} {r : Ev → Store → Res D} (h : Len n rs) : Len (n + 1) (rCons r rs) := ⟨fun env S ds S' e => by
  unfold rCons at e
  cases e1 : r env S with
  | ok d S1 =>
    rw [e1] at e
    have e : (rs env S1).bind (fun xs S2 => .ok (d :: xs) S2) = .ok ds S' := e
    cases e2 : rs env S1 with
    | ok xs S2 =>
      rw [e2] at e
      cases e
      simp [h.eq _ _ _ _ e2]
    | exc c S1 => rw [e2] at e; cases e
    | stuck => rw [e2] at e; cases e
  | exc c S1 => rw [e1] at e; cases e
  | stuck => rw [e1] at e; cases e⟩
theorem se_call {k j n : Nat} {f : Addr} {fd : FuncData} {ps : List Str} {s : FSem} {x : Str} {p : Pos} (C : Ok X W k) (Fo : FnOk X.prog X.w X.K X.mg X.base (L2.CX X.prog X.w) j f fd ps (spOf X.K Y s n)) (hj : j ≤ k)
    (hm : X.mg x = some (.ref f)) (hk : PySem.W.keepIn X.K (.ref f) = true) (hb : Binds X.K fd ps []) (ha : SA Y X W (e :: es) rs) (hl : Len n rs) (hg : Gl X x := by rfl)
    (hdb : (x == ("__debug__" : Str)) = false := by decide) (he : starEach (e :: es) X.env = (false, eval e X.env) :: starEach es X.env := by rfl) (hpl : (backTo pos (starEach es X.env)).any (·.1) = false := by rfl) :
    SE Y X W (.Call (.Name x p) (e :: es) [] pos) (rCall s rs) := by
  obtain ⟨ta, a1, a2⟩ := ha.ex
  exact ⟨_, pe_callS Fo (C.room.mono hj) hg hm hk hb C.tk a1 hdb he hpl, ev_call a2 hl.eq⟩
theorem pe_callS0 {CX : CXT} {k : Nat} {f : Addr} {fd : FuncData} {ps : List Str} {sp : Sp} {E : L2.St → XK} {x : Str} {p : Pos} (F : FnOk X.prog X.w X.K X.mg X.base CX k f fd ps sp) (hr : Room k X.A) (hg : Gl X x) (hm : X.mg x = some (.ref f)) (hk : PySem.W.keepIn X.K (.ref f) = true) (hb : Binds X.K fd ps []) (hx : ∀ σ, PassesAt CX X σ (E σ))
    (hdb : (x == ("__debug__" : Str)) = false := by decide) : PE X (.Call (.Name x p) [] [] pos) (tCallS sp E tNil) := by
  refine ⟨fun pins s σ H Q I h => ?_⟩
  refine wpAny_Call_Name_kw (ld_glob I hg hm ?_ hdb)
  exact PySem.W.callWith_K0 I.kIn hk (run_fnS (us := []) F hr hb (hx σ) I .nil h)
theorem se_call0 {k j : Nat} {f : Addr} {fd : FuncData} {ps : List Str} {s : FSem} {x : Str} {p : Pos} (C : Ok X W k) (Fo : FnOk X.prog X.w X.K X.mg X.base (L2.CX X.prog X.w) j f fd ps (spOf X.K Y s 0)) (hj : j ≤ k)
    (hm : X.mg x = some (.ref f)) (hk : PySem.W.keepIn X.K (.ref f) = true) (hb : Binds X.K fd ps []) (hg : Gl X x := by rfl)
    (hdb : (x == ("__debug__" : Str)) = false := by decide) : SE Y X W (.Call (.Name x p) [] [] pos) (rCall s rNil) := by
  exact ⟨_, pe_callS0 Fo (C.room.mono hj) hg hm hk hb C.tk hdb, ev_call ev_nil len_nil.eq⟩

/-- a built-in by its name -/
abbrev OpN := Store → List D → Option D
def CallOk (K : PySem.W.Frag) (Y : Pc) (g : OpN) (r : List V → Hp → VK → Prop) : Prop := ∀ (F : Hp) (ρ : List Addr) (S : Store) (H : Hp) (xs : List V) (ds : List D) (d : D) (Q : VK), SR K Y F ρ S H → RDs K F ρ xs ds → g S ds = some d →
  (∀ F' H' u, SR K Y F' ρ S H' → Nx F ρ H F' ρ H' → RD K F' ρ u d → Q u H') → r xs H Q
structure SCall (Y : Pc) (X : Cx) (f : Value) (g : OpN) : Prop where
  ex : ∃ r, CallR X f r ∧ CallOk X.K Y g r
def rCB (g : OpN) (rs : Ev → Store → Res (List D)) : Ev → Store → Res D := fun env S => (rs env S).bind fun ds S1 => lift (g S1 ds) S1
theorem SCall.or {f : Value} {g g' : OpN} (h : SCall Y X f g) (h' : SCall Y X f g') : SCall Y X f (fun S xs => (g S xs).or (g' S xs)) := by
  obtain ⟨r, h1, h2⟩ := h.ex
  obtain ⟨r', h1', h2'⟩ := h'.ex
  refine ⟨_, h1.or h1', fun F ρ S H xs ds d Q R rx e k => ?_⟩
  have e : (g S ds).or (g' S ds) = some d := e
  cases e1 : g S ds with
  | some z =>
    rw [e1] at e
    exact .inl (h2 F ρ S H xs ds d Q R rx (by rw [e1]; exact e) k)
  | none =>
    rw [e1] at e
    exact .inr (h2' F ρ S H xs ds d Q R rx e k)
theorem ev_cb {g : OpN} {r : List V → Hp → VK → Prop} {ta : TA} (h : CallOk K Y g r) (ha : EvA K Y W ta rs) : EvE K Y W (tCB r ta) (rCB g rs) := fun F ρ S H σ env Q R E o =>
  ha.then R E o fun ds us S1 F1 ρ1 H1 R1 n1 E1 ru o1 => by
    obtain ⟨z, hz, k⟩ := lift_out o1
    exact h F1 ρ1 S1 H1 us ds z Q R1 ru hz fun F' H' u R' n' r' => k F' ρ1 H' R' n' u r'
theorem se_callB {g : OpN} {id : String} {x : Str} {p : Pos} (hc : SCall Y X (.builtin id) g) (hm : X.mg x = none) (hv : bootBuiltins x = some (.builtin id)) (ha : SA Y X W (e :: es) rs) (hg : Gl X x := by rfl) (hn : x ≠ "__name__" := by decide) (hdb : (x == ("__debug__" : Str)) = false := by decide)
    (he : starEach (e :: es) X.env = (false, eval e X.env) :: starEach es X.env := by rfl) (hpl : (backTo pos (starEach es X.env)).any (·.1) = false := by rfl) : SE Y X W (.Call (.Name x p) (e :: es) [] pos) (rCB g rs) := by
  obtain ⟨r, h1, h2⟩ := hc.ex
  obtain ⟨ta, a1, a2⟩ := ha.ex
  exact ⟨_, pe_callB h1 hg hm hv a1 hn hdb he hpl, ev_cb h2 a2⟩
theorem se_callTy {g : OpN} {T : String} {x : Str} {p : Pos} (hc : SCall Y X (.type T) g) (hm : X.mg x = none) (hv : bootBuiltins x = some (.type T)) (ha : SA Y X W (e :: es) rs) (hg : Gl X x := by rfl) (hn : x ≠ "__name__" := by decide) (hdb : (x == ("__debug__" : Str)) = false := by decide)
    (he : starEach (e :: es) X.env = (false, eval e X.env) :: starEach es X.env := by rfl) (hpl : (backTo pos (starEach es X.env)).any (·.1) = false := by rfl) : SE Y X W (.Call (.Name x p) (e :: es) [] pos) (rCB g rs) := by
  obtain ⟨r, h1, h2⟩ := hc.ex
  obtain ⟨ta, a1, a2⟩ := ha.ex
  exact ⟨_, pe_callTy h1 hg hm hv a1 hn hdb he hpl, ev_cb h2 a2⟩

/-! ### subscripts, slices -/
structure SIx (Y : Pc) (X : Cx) (g : Op2) : Prop where
  ex : ∃ r, IxR X r ∧ OpOk X.K Y g r
theorem se_ix {g : Op2} (hr : SIx Y X g) (ha : SE Y X W a ra) (hb : SE Y X W b rb) (hs : PlainIx b := by exact fun _ _ => rfl) : SE Y X W (.Subscript a b pos) (r2 g ra rb) := by
  obtain ⟨r, h1, h2⟩ := hr.ex
  obtain ⟨ta, a1, a2⟩ := ha.ex
  obtain ⟨tb, b1, b2⟩ := hb.ex
  exact ⟨_, pe_ix h1 a1 b1 hs, ev_op h2 a2 b2⟩
abbrev OpSl := Store → D → Option Int → Option Int → Option D
def SlOk (K : PySem.W.Frag) (Y : Pc) (g : OpSl) (r : V → Option Int → Option Int → Hp → VK → Prop) : Prop := ∀ (F : Hp) (ρ : List Addr) (S : Store) (H : Hp) (x : V) (dx d : D) (lo hi : Option Int) (Q : VK), SR K Y F ρ S H → RD K F ρ x dx → g S dx lo hi = some d →
  (∀ F' H' u, SR K Y F' ρ S H' → Nx F ρ H F' ρ H' → RD K F' ρ u d → Q u H') → r x lo hi H Q
structure SSl (Y : Pc) (X : Cx) (g : OpSl) : Prop where
  ex : ∃ r, SlR X r ∧ SlOk X.K Y g r
theorem SSl.or {g g' : OpSl} (h : SSl Y X g) (h' : SSl Y X g') : SSl Y X (fun S x lo hi => (g S x lo hi).or (g' S x lo hi)) := by
  obtain ⟨r, h1, h2⟩ := h.ex
  obtain ⟨r', h1', h2'⟩ := h'.ex
  refine ⟨_, h1.or h1', fun F ρ S H x dx d lo hi Q R rx e k => ?_⟩
  have e : (g S dx lo hi).or (g' S dx lo hi) = some d := e
  cases e1 : g S dx lo hi with
  | some z =>
    rw [e1] at e
    exact .inl (h2 F ρ S H x dx d lo hi Q R rx (by rw [e1]; exact e) k)
  | none =>
    rw [e1] at e
    exact .inr (h2' F ρ S H x dx d lo hi Q R rx e k)
def EvO (K : PySem.W.Frag) (Y : Pc) (W : WX) (to : TO) (r : Ev → Store → Res (Option Int)) : Prop := ∀ (F : Hp) (ρ : List Addr) (S : Store) (H : Hp) (σ : L2.St) (env : Ev) (Q : Option Int → Hp → Prop), SR K Y F ρ S H → ER K F ρ σ env →
  Out K Y F ρ H (r env S) (fun o _ _ _ H' => Q o H') (fun c H' => W c none σ H') → to σ H Q
structure SPO (Y : Pc) (X : Cx) (W : WX) (e : Option Expr) (r : Ev → Store → Res (Option Int)) : Prop where
  ex : ∃ t, PO X e t ∧ EvO X.K Y W t r
def oNone : Ev → Store → Res (Option Int) := fun _ S => .ok none S
def oSome (ra : Ev → Store → Res D) : Ev → Store → Res (Option Int) := fun env S => (ra env S).bind fun d S1 => match d with
  | .int i => .ok (some i) S1
  | _ => .stuck
theorem so_none : SPO Y X W none oNone := ⟨_, po_none, fun F ρ S H σ env Q R E h => Out.now h R⟩
theorem so_some (h : SE Y X W e ra) : SPO Y X W (some e) (oSome ra) := by
  obtain ⟨ta, a1, a2⟩ := h.ex
  refine ⟨_, po_some a1, fun F ρ S H σ env Q R E h => a2.then R E h fun d u S1 F1 ρ1 H1 R1 n1 E1 ru o1 => ?_⟩
  cases ru with
  | int i => exact ⟨i, rfl, Out.now o1 R1⟩
  | _ => exact False.elim o1
def rSl (g : OpSl) (ra : Ev → Store → Res D) (rl rh : Ev → Store → Res (Option Int)) : Ev → Store → Res D := fun env S => (ra env S).bind fun x S1 => (rl env S1).bind fun l S2 => (rh env S2).bind fun h S3 => lift (g S3 x l h) S3
theorem se_slice {g : OpSl} {lo hi : Option Expr} {rl rh : Ev → Store → Res (Option Int)} {p2 : Pos} (hr : SSl Y X g) (ha : SE Y X W e ra) (hl : SPO Y X W lo rl) (hu : SPO Y X W hi rh) : SE Y X W (.Subscript e (.Slice lo hi none p2) pos) (rSl g ra rl rh) := by
  obtain ⟨r, h1, h2⟩ := hr.ex
  obtain ⟨ta, a1, a2⟩ := ha.ex
  obtain ⟨tl, l1, l2⟩ := hl.ex
  obtain ⟨th, u1, u2⟩ := hu.ex
  refine ⟨_, pe_slice h1 a1 l1 u1, fun F ρ S H σ env Q R E h => a2.then R E h fun d u S1 F1 ρ1 H1 R1 n1 E1 ru o1 => ?_⟩
  refine l2 F1 ρ1 S1 H1 σ env _ R1 E1 (o1.bind.imp (fun o S2 F2 ρ2 H2 R2 n2 o2 => ?_) fun _ _ z => z)
  refine u2 F2 ρ2 S2 H2 σ env _ R2 (E1.nx n2) (o2.bind.imp (fun o' S3 F3 ρ3 H3 R3 n3 o3 => ?_) fun _ _ z => z)
  obtain ⟨z, hz, k⟩ := lift_out o3
  exact h2 F3 ρ3 S3 H3 u d z o o' Q R3 ((ru.mono n2.ex n2.pre).mono n3.ex n3.pre) hz fun F' H' u R' n' r' => k F' ρ3 H' R' n' u r'

/-! ### methods of built-in types -/
abbrev OpM := Store → D → List D → Option (D × Store)
def MtOk (K : PySem.W.Frag) (Y : Pc) (g : OpM) (r : V → List V → Hp → VK → Prop) : Prop := ∀ (F : Hp) (ρ : List Addr) (S S' : Store) (H : Hp) (x : V) (dx d : D) (xs : List V) (ds : List D) (Q : VK), SR K Y F ρ S H → RD K F ρ x dx → RDs K F ρ xs ds → g S dx ds = some (d, S') →
  (∀ F' H' u, SR K Y F' ρ S' H' → Nx F ρ H F' ρ H' → RD K F' ρ u d → Q u H') → r x xs H Q
def TyOk (K : PySem.W.Frag) (Y : Pc) (T : String) (tb : Store → D → Bool) : Prop := ∀ (F : Hp) (ρ : List Addr) (S : Store) (H : Hp) (x : V) (dx : D), SR K Y F ρ S H → RD K F ρ x dx → tb S dx = true → tyV K T x H
def liftP (o : Option (D × Store)) : Res D := match o with
  | some (d, S) => .ok d S
  | none => .stuck
def rMt (tb : Store → D → Bool) (g : OpM) (ra : Ev → Store → Res D) (rs : Ev → Store → Res (List D)) : Ev → Store → Res D := fun env S => (ra env S).bind fun x S1 => if tb S1 x = true then (rs env S1).bind fun xs S2 => liftP (g S2 x xs) else .stuck
theorem liftP_out {F : Hp} {ρ : List Addr} {H : Hp} {o : Option (D × Store)} {ok : D → Store → Hp → List Addr → Hp → Prop} {ex : Value → Hp → Prop} (h : Out K Y F ρ H (liftP o) ok ex) :
    ∃ d S, o = some (d, S) ∧ ∀ F' ρ' H', SR K Y F' ρ' S H' → Nx F ρ H F' ρ' H' → ok d S F' ρ' H' := by
  cases o with
  | none => exact False.elim h
  | some p => exact ⟨p.1, p.2, rfl, h⟩
structure SMt (Y : Pc) (X : Cx) (T id : String) (tb : Store → D → Bool) (g : OpM) : Prop where
  ex : ∃ r, MtR X id r ∧ MtOk X.K Y g r
  ty : TyOk X.K Y T tb
theorem se_bm {tb : Store → D → Bool} {g : OpM} {T id : String} {name : Str} {o : Expr} {apos cpos : Pos} (hm : SMt Y X T id tb g) (pa : PlainAttrs T) (slot : Slot T name id) (hty : typeOf (.builtin id) = pure (.type "method_descriptor")) (ho : SE Y X W o ra) (ha : SA Y X W (e :: es) rs)
    (hbase : attributeBase o name X.env (eval o X.env) = eval o X.env := by rfl)
    (hfew : ((backTo cpos (starEach (e :: es) X.env)).all (fun x => !x.1) && (backToKw cpos (keywordEach [] X.env)).all (fun x => x.1.isSome)
      && decide ((e :: es).length + ([] : List Keyword).length + (if ([] : List Keyword).isEmpty then 0 else 1) < 30)) = true := by rfl)
    (hline : (apos.endLine == cpos.line) = true := by rfl) (hs : starEach (e :: es) X.env = (false, eval e X.env) :: starEach es X.env := by rfl) (hplain : (backTo cpos (starEach es X.env)).any (·.1) = false := by rfl) :
    SE Y X W (.Call (.Attribute o name apos) (e :: es) [] cpos) (rMt tb g ra rs) := by
  obtain ⟨r, h1, h2⟩ := hm.ex
  obtain ⟨to, o1, o2⟩ := ho.ex
  obtain ⟨ta, a1, a2⟩ := ha.ex
  refine ⟨_, pe_bm pa slot hty h1 o1 a1 hbase hfew hline hs hplain, fun F ρ S H σ env Q R E h => o2.then R E h fun d u S1 F1 ρ1 H1 R1 n1 E1 ru q1 => ?_⟩
  by_cases ht : tb S1 d = true
  · rw [if_pos ht] at q1
    refine ⟨hm.ty _ _ _ _ _ _ R1 ru ht, a2.then R1 E1 q1 fun ds us S2 F2 ρ2 H2 R2 n2 E2 rus q2 => ?_⟩
    obtain ⟨z, S3, hz, k⟩ := liftP_out q2
    exact h2 F2 ρ2 S2 S3 H2 u d z us ds Q R2 (ru.mono n2.ex n2.pre) rus hz fun F' H' u R' n' r' => k F' ρ2 H' R' n' u r'
  · rw [if_neg ht] at q1
    exact False.elim q1
theorem se_bm0 {tb : Store → D → Bool} {g : OpM} {T id : String} {name : Str} {o : Expr} {apos cpos : Pos} (hm : SMt Y X T id tb g) (pa : PlainAttrs T) (slot : Slot T name id) (hty : typeOf (.builtin id) = pure (.type "method_descriptor")) (ho : SE Y X W o ra)
    (hbase : attributeBase o name X.env (eval o X.env) = eval o X.env := by rfl) (hline : (apos.endLine == cpos.line) = true := by rfl) :
    SE Y X W (.Call (.Attribute o name apos) [] [] cpos) (rMt tb g ra rNil) := by
  obtain ⟨r, h1, h2⟩ := hm.ex
  obtain ⟨to, o1, o2⟩ := ho.ex
  refine ⟨_, pe_bm0 pa slot hty h1 o1 hbase hline, fun F ρ S H σ env Q R E h => o2.then R E h fun d u S1 F1 ρ1 H1 R1 n1 E1 ru q1 => ?_⟩
  by_cases ht : tb S1 d = true
  · rw [if_pos ht] at q1
    refine ⟨hm.ty _ _ _ _ _ _ R1 ru ht, ?_⟩
    obtain ⟨z, S3, hz, k⟩ := liftP_out q1
    exact h2 F1 ρ1 S1 S3 H1 u d z [] [] Q R1 ru .nil hz fun F' H' u R' n' r' => k F' ρ1 H' R' n' u r'
  · rw [if_neg ht] at q1
    exact False.elim q1

/-! ### statements -/
def sNext : SM := fun env S => some (.nx env, S)
def sSeq (s t : SM) : SM := fun env S => match s env S with
  | some (.nx env', S') => t env' S'
  | r => r
def sExpr (ra : Ev → Store → Res D) : SM := fun env S => (ra env S).st env fun _ S' => some (.nx env, S')
def sRet (ra : Ev → Store → Res D) : SM := fun env S => (ra env S).st env fun d S' => some (.rt d, S')
def sSet (i : Nat) (ra : Ev → Store → Res D) : SM := fun env S => (ra env S).st env fun d S' => some (.nx (env.set i (some d)), S')
def sIf (rt : Ev → Store → Res Bool) (s t : SM) : SM := fun env S => (rt env S).st env fun b S' => if b = true then s env S' else t env S'
def sBreak : SM := fun env S => some (.bk env, S)
def sCont : SM := fun env S => some (.ct env, S)
def sPar (i j : Nat) (rs : Ev → Store → Res (List D)) : SM := fun env S => (rs env S).st env fun ds S' => match ds with
  | [x, y] => some (.nx ((env.set i (some x)).set j (some y)), S')
  | _ => none
variable {st : Stmt} {sts : List Stmt} {m m' : SM} {Z : Ends}

theorem EvE.thenS {te : TE} {F : Hp} {ρ : List Addr} {S : Store} {H : Hp} {σ : L2.St} {env : Ev} {f : D → Store → Option (Flow × Store)} {Q : VK} (h : EvE K Y W te ra) (R : SR K Y F ρ S H) (E : ER K F ρ σ env)
    (o : OutS K Y F ρ H ((ra env S).st env f) (fun fl _ F' ρ' H' => FlowOk K Y W Z fl F' ρ' H'))
    (k : ∀ d u S1 F1 ρ1 H1, SR K Y F1 ρ1 S1 H1 → Nx F ρ H F1 ρ1 H1 → ER K F1 ρ1 σ env → RD K F1 ρ1 u d → OutS K Y F1 ρ1 H1 (f d S1) (fun fl _ F' ρ' H' => FlowOk K Y W Z fl F' ρ' H') → Q u H1) : te σ H Q :=
  h F ρ S H σ env Q R E ((OutS.st (ex := fun c H' => W c none σ H') o fun c S' F' ρ' H' n q => q σ (E.nx n)).imp (fun d S1 F1 ρ1 H1 R1 n1 o1 u ru => k d u S1 F1 ρ1 H1 R1 n1 (E.nx n1) ru o1) fun _ _ z => z)
theorem EvT.thenS {te : TT} {F : Hp} {ρ : List Addr} {S : Store} {H : Hp} {σ : L2.St} {env : Ev} {f : Bool → Store → Option (Flow × Store)} {Q : Bool → Hp → Prop} (h : EvT K Y W te rt) (R : SR K Y F ρ S H) (E : ER K F ρ σ env)
    (o : OutS K Y F ρ H ((rt env S).st env f) (fun fl _ F' ρ' H' => FlowOk K Y W Z fl F' ρ' H'))
    (k : ∀ b S1 F1 ρ1 H1, SR K Y F1 ρ1 S1 H1 → Nx F ρ H F1 ρ1 H1 → ER K F1 ρ1 σ env → OutS K Y F1 ρ1 H1 (f b S1) (fun fl _ F' ρ' H' => FlowOk K Y W Z fl F' ρ' H') → Q b H1) : te σ H Q :=
  h F ρ S H σ env Q R E ((OutS.st (ex := fun c H' => W c none σ H') o fun c S' F' ρ' H' n q => q σ (E.nx n)).imp (fun d S1 F1 ρ1 H1 R1 n1 o1 => k d S1 F1 ρ1 H1 R1 n1 (E.nx n1) o1) fun _ _ z => z)
theorem EvA.thenS {te : TA} {F : Hp} {ρ : List Addr} {S : Store} {H : Hp} {σ : L2.St} {env : Ev} {f : List D → Store → Option (Flow × Store)} {Q : List V → Hp → Prop} (h : EvA K Y W te rs) (R : SR K Y F ρ S H) (E : ER K F ρ σ env)
    (o : OutS K Y F ρ H ((rs env S).st env f) (fun fl _ F' ρ' H' => FlowOk K Y W Z fl F' ρ' H'))
    (k : ∀ ds us S1 F1 ρ1 H1, SR K Y F1 ρ1 S1 H1 → Nx F ρ H F1 ρ1 H1 → ER K F1 ρ1 σ env → RDs K F1 ρ1 us ds → OutS K Y F1 ρ1 H1 (f ds S1) (fun fl _ F' ρ' H' => FlowOk K Y W Z fl F' ρ' H') → Q us H1) : te σ H Q :=
  h F ρ S H σ env Q R E ((OutS.st (ex := fun c H' => W c none σ H') o fun c S' F' ρ' H' n q => q σ (E.nx n)).imp (fun d S1 F1 ρ1 H1 R1 n1 o1 u ru => k d u S1 F1 ρ1 H1 R1 n1 (E.nx n1) ru o1) fun _ _ z => z)
theorem OutS.now {fl : Flow} {F : Hp} {ρ : List Addr} {S : Store} {H : Hp} {P : Flow → Store → Hp → List Addr → Hp → Prop} (h : OutS K Y F ρ H (some (fl, S)) P) (R : SR K Y F ρ S H) : P fl S F ρ H := h F ρ H R (Nx.refl F ρ H)

theorem ss_nil : SSs Y X W [] sNext := ⟨_, pss_nil, fun F ρ S H σ env Z R E h => OutS.now h R σ E⟩
theorem ss_pass : SS Y X W (.Pass pos) sNext := ⟨_, ps_pass, fun F ρ S H σ env Z R E h => OutS.now h R σ E⟩
theorem ss_break : SS Y X W (.Break pos) sBreak := ⟨_, ps_break, fun F ρ S H σ env Z R E h => OutS.now h R σ E⟩
theorem ss_continue : SS Y X W (.Continue pos) sCont := ⟨_, ps_continue, fun F ρ S H σ env Z R E h => OutS.now h R σ E⟩
theorem ss_one (h : SS Y X W st m) : SSs Y X W [st] m := by
  obtain ⟨t, h1, h2⟩ := h.ex
  exact ⟨t, pss_one h1, h2⟩
theorem ev_seq {t u : TS} (h : EvS K Y W t m) (h' : EvS K Y W u m') : EvS K Y W (tSeq t u) (sSeq m m') := fun F ρ S H σ env Z R E o => by
  refine h F ρ S H σ env { Z with nx := u Z } R E ?_
  unfold sSeq at o
  cases e : m env S with
  | none => rw [e] at o; exact o
  | some p =>
    obtain ⟨fl, S1⟩ := p
    rw [e] at o
    cases fl with
    | nx env1 =>
      intro F1 ρ1 H1 R1 n1 σ1 E1
      have o : OutS K Y F ρ H (m' env1 S1) (fun fl _ F' ρ' H' => FlowOk K Y W Z fl F' ρ' H') := o
      refine h' F1 ρ1 S1 H1 σ1 env1 Z R1 E1 ?_
      cases e2 : m' env1 S1 with
      | none => rw [e2] at o; exact o
      | some p2 => rw [e2] at o; exact fun F2 ρ2 H2 R2 n2 => o F2 ρ2 H2 R2 (n1.trans n2)
    | rt d => exact o
    | bk env1 => exact o
    | ct env1 => exact o
    | ex c env1 => exact o
theorem ss_cons (h : SS Y X W st m) (h' : SSs Y X W sts m') : SSs Y X W (st :: sts) (sSeq m m') := by
  obtain ⟨t, h1, h2⟩ := h.ex
  obtain ⟨u, k1, k2⟩ := h'.ex
  exact ⟨_, pss_cons h1 k1, ev_seq h2 k2⟩
theorem ss_expr (he : SE Y X W e ra) (hs : swapsWith e none pos.line X.env = pure false := by rfl) : SS Y X W (.Expr e pos) (sExpr ra) := by
  obtain ⟨t, h1, h2⟩ := he.ex
  exact ⟨_, ps_expr h1 hs, fun F ρ S H σ env Z R E h => h2.thenS R E h fun d u S1 F1 ρ1 H1 R1 n1 E1 ru o1 => OutS.now o1 R1 σ E1⟩
theorem ss_ret (he : SE Y X W e ra) : SS Y X W (.Return (some e) pos) (sRet ra) := by
  obtain ⟨t, h1, h2⟩ := he.ex
  exact ⟨_, ps_ret h1, fun F ρ S H σ env Z R E h => h2.thenS R E h fun d u S1 F1 ρ1 H1 R1 n1 E1 ru o1 => OutS.now o1 R1 u ru⟩
theorem ev_set {te : TE} {i : Nat} (h2 : EvE K Y W te ra) : EvS K Y W (tAsg te (gName i)) (sSet i ra) := fun F ρ S H σ env Z R E h => h2.thenS R E h fun d u S1 F1 ρ1 H1 R1 n1 E1 ru o1 => OutS.now o1 R1 _ (E1.set i ru)
theorem ss_set (i : Nat) {x : Str} {pos' : Pos} (he : SE Y X W e ra) (hN : X.N.Nodup) (hi : X.N[i]? = some x := by rfl) (hx : Loc X.env.scope x := by first | exact Or.inl rfl | exact Or.inr rfl) (hs : swapsWith e (some (.Name x pos')) pos.line X.env = pure false := by rfl) (hf : X.fn x = true ∨ X.env.scope.names.lookup x = some .local := by first | exact .inl rfl | exact .inr rfl) :
    SS Y X W (.Assign [.Name x pos'] e pos) (sSet i ra) := by
  obtain ⟨t, h1, h2⟩ := he.ex
  exact ⟨_, ps_set hN hi hx h1 hs hf, ev_set h2⟩
theorem ss_if {ps qs : List Stmt} (hc : SB Y X W c rt) (ha : SSs Y X W ps m) (hb : SSs Y X W qs m') : SS Y X W (.If c ps qs pos) (sIf rt m m') := by
  obtain ⟨t, h1, h2⟩ := hc.ex
  obtain ⟨u, a1, a2⟩ := ha.ex
  obtain ⟨v, b1, b2⟩ := hb.ex
  refine ⟨_, ps_if h1 a1 b1, fun F ρ S H σ env Z R E h => h2.thenS R E h fun k S1 F1 ρ1 H1 R1 n1 E1 o1 => ?_⟩
  cases k with
  | true => exact a2 F1 ρ1 S1 H1 σ env Z R1 E1 o1
  | false => exact b2 F1 ρ1 S1 H1 σ env Z R1 E1 o1
theorem ss_par (i j : Nat) {x y : Str} {px py pt : Pos} {kt k2 pt2} (hc : X.calm = true) (ha : SA Y X W [a, b] rs) (hN : X.N.Nodup) (hij : i ≠ j := by decide) (hi : X.N[i]? = some x := by rfl) (hj : X.N[j]? = some y := by rfl)
    (hx : X.env.scope.names.lookup x = some .local := by rfl) (hy : X.env.scope.names.lookup y = some .local := by rfl)
    (hw : swappedStores [.Tuple [.Name x px, .Name y py] kt pt] (.Tuple [a, b] k2 pt2) X.env = pure (some [x, y]) := by rfl)
    (hs : swapsWithSole [.Tuple [.Name x px, .Name y py] kt pt] (.Tuple [a, b] k2 pt2) pos.line X.env = pure false := by rfl) :
    SS Y X W (.Assign [.Tuple [.Name x px, .Name y py] kt pt] (.Tuple [a, b] k2 pt2) pos) (sPar i j rs) := by
  obtain ⟨t, h1, h2⟩ := ha.ex
  refine ⟨_, ps_par hc hN hi hj hij hx hy h1 hw hs, fun F ρ S H σ env Z R E h => h2.thenS R E h fun ds us S1 F1 ρ1 H1 R1 n1 E1 ru o1 => ?_⟩
  cases ru with
  | nil => exact False.elim o1
  | cons r1 rr =>
    cases rr with
    | nil => exact False.elim o1
    | cons r2 rr =>
      cases rr with
      | cons _ _ => exact False.elim o1
      | nil => exact ⟨_, _, rfl, OutS.now o1 R1 _ ((E1.set i r1).set j r2)⟩

/-! ### targets -/
inductive Tg where
  | one (i : Nat) | tup (is : List Nat)
def setAll : Ev → List Nat → List D → Option Ev
  | env, [], [] => some env
  | env, i :: is, d :: ds => setAll (env.set i (some d)) is ds
  | _, _, _ => none
def Tg.set (t : Tg) (env : Ev) (d : D) : Option Ev := match t with
  | .one i => some (env.set i (some d))
  | .tup is => match d with
    | .tup ds => setAll env is ds
    | _ => none
def Tg.slots : Tg → List Nat
  | .one i => [i]
  | .tup is => is
/-- what a store may change: the slots of a list alone -/
def Only (vs : List Nat) (σ σ' : L2.St) : Prop := σ'.length = σ.length ∧ ∀ i, i ∉ vs → σ'[i]? = σ[i]?
theorem Only.refl (vs : List Nat) (σ : L2.St) : Only vs σ σ := ⟨rfl, fun _ _ => rfl⟩
theorem Only.set {vs : List Nat} {σ σ' : L2.St} (h : Only vs σ σ') {i : Nat} (hi : i ∈ vs) (v : Option V) : Only vs σ (σ'.set i v) := ⟨by simp [h.1], fun j hj => by
  rw [List.getElem?_set_ne (fun (e : i = j) => hj (e ▸ hi))]; exact h.2 j hj⟩
theorem wipe_get {σ : L2.St} {i : Nat} : ∀ {vs : List Nat}, i ∈ vs → i < σ.length → (wipe σ vs)[i]? = some none
  | v :: vs, h, hl => by
    unfold wipe
    by_cases e : v = i
    · subst e
      exact List.getElem?_set_self (by rw [wipe_length]; exact hl)
    · rw [List.getElem?_set_ne e]
      exact wipe_get ((List.mem_cons.mp h).resolve_left fun q => e q.symm) hl
theorem Only.same {vs : List Nat} {σ σ' : L2.St} (h : Only vs σ σ') : wipe σ' vs = wipe σ vs := by
  apply List.ext_getElem?
  intro i
  by_cases hi : i ∈ vs
  · by_cases hl : i < σ.length
    · rw [wipe_get hi hl, wipe_get hi (by rw [h.1]; exact hl)]
    · have hz := h.1
      rw [List.getElem?_eq_none (l := wipe σ' vs) (by rw [wipe_length]; omega), List.getElem?_eq_none (l := wipe σ vs) (by rw [wipe_length]; omega)]
  · rw [wipe_out hi, wipe_out hi]
    exact h.2 i hi
theorem wipe_wipe (σ : L2.St) (vs : List Nat) : wipe (wipe σ vs) vs = wipe σ vs := by
  apply List.ext_getElem?
  intro i
  by_cases hi : i ∈ vs
  · by_cases hl : i < σ.length
    · rw [wipe_get hi hl, wipe_get hi (by rw [wipe_length]; exact hl)]
    · rw [List.getElem?_eq_none (by rw [wipe_length, wipe_length]; omega), List.getElem?_eq_none (by rw [wipe_length]; omega)]
  · rw [wipe_out hi]
def TgOk (K : PySem.W.Frag) (t : Tg) (g : TG) : Prop := ∀ (F : Hp) (ρ : List Addr) (H H0 : Hp) (σ : L2.St) (env env' : Ev) (u : V) (d : D) (Q : L2.St → Hp → Prop), Ex F H → ER K F ρ σ env → RD K F ρ u d → t.set env d = some env' →
  (∀ σ', ER K F ρ σ' env' → Only t.slots σ σ' → Q σ' H) → g u σ H Q
structure STg (X : Cx) (e : Expr) (t : Tg) : Prop where
  ex : ∃ g, PG X e g ∧ TgOk X.K t g
theorem tg_one (i : Nat) {x : Str} (hN : X.N.Nodup) (hi : X.N[i]? = some x := by rfl) (hx : Loc X.env.scope x := by first | exact Or.inl rfl | exact Or.inr rfl) (hf : X.fn x = true ∨ X.env.scope.names.lookup x = some .local := by first | exact .inl rfl | exact .inr rfl) : STg X (.Name x pos) (.one i) :=
  ⟨_, pg_name hN hi hx hf, fun F ρ H H0 σ env env' u d Q ex E r h k => by
    cases h
    exact k _ (E.set i r) ((Only.refl _ _).set (List.mem_singleton.mpr rfl) _)⟩
def TgsOk (K : PySem.W.Frag) (is : List Nat) (g : TGs) : Prop := ∀ (F : Hp) (ρ : List Addr) (H : Hp) (σ : L2.St) (env env' : Ev) (us : List V) (ds : List D) (Q : L2.St → Hp → Prop), ER K F ρ σ env → RDs K F ρ us ds → setAll env is ds = some env' →
  (∀ σ', ER K F ρ σ' env' → Only is σ σ' → Q σ' H) → g us σ H Q
structure STgs (X : Cx) (es : List Expr) (is : List Nat) : Prop where
  ex : ∃ g, PGs X es g ∧ TgsOk X.K is g
theorem tgs_nil : STgs X [] [] := ⟨_, pgs_nil, fun F ρ H σ env env' us ds Q E r h k => by
  cases r with
  | nil =>
    cases h
    exact ⟨rfl, k _ E (Only.refl _ _)⟩
  | cons _ _ => cases h⟩
theorem tgs_cons (i : Nat) {is : List Nat} {x : Str} {p : Pos} (h : STgs X es is) (hN : X.N.Nodup) (hi : X.N[i]? = some x := by rfl) (hx : Loc X.env.scope x := by first | exact Or.inl rfl | exact Or.inr rfl) (hf : X.fn x = true ∨ X.env.scope.names.lookup x = some .local := by first | exact .inl rfl | exact .inr rfl)
    (hs : (assignEach (.Name x p :: es) X.env).map (·.2) = assign (.Name x p) X.env :: (assignEach es X.env).map (·.2) := by rfl) : STgs X (.Name x p :: es) (i :: is) := by
  obtain ⟨g, h1, h2⟩ := h.ex
  refine ⟨_, pgs_cons (pg_name hN hi hx hf) h1 hs, fun F ρ H σ env env' us ds Q E r h k => ?_⟩
  cases r with
  | nil => cases h
  | cons r1 rr =>
    refine ⟨_, _, rfl, ?_⟩
    refine h2 F ρ H _ _ env' _ _ Q (E.set i r1) rr h fun σ' E' o => k σ' E' ⟨by rw [o.1]; simp, fun j hj => ?_⟩
    rw [o.2 j fun m => hj (List.mem_cons_of_mem _ m), List.getElem?_set_ne (fun e => hj (by rw [e]; exact List.mem_cons_self))]
theorem tg_tup {k : Nat} {is : List Nat} (hc : X.calm = true) (h : STgs X es is) (hn : (assignEach es X.env).length = is.length := by rfl) (hst : (assignEach es X.env).findIdx? (·.1) = none := by rfl) : STg X (.Tuple es k pos) (.tup is) := by
  obtain ⟨g, h1, h2⟩ := h.ex
  refine ⟨_, pg_tup hc h1 hn hst, fun F ρ H H0 σ env env' u d Q ex E r h k => ?_⟩
  cases r with
  | tup h3 h4 =>
    refine ⟨_, _, rfl, ex_t ex h3, ?_, h2 F ρ H σ env env' _ _ Q E h4 h k⟩
    have h : setAll env is _ = some env' := h
    rw [h4.length]
    have sl : ∀ {is : List Nat} {ds : List D} {env env' : Ev}, setAll env is ds = some env' → ds.length = is.length := fun {is} => by
      induction is with
      | nil => intro ds env env' h; cases ds with
        | nil => rfl
        | cons _ _ => cases h
      | cons i is ih => intro ds env env' h; cases ds with
        | nil => cases h
        | cons d ds => simp [ih h]
    exact sl h
  | _ => cases h
def sAsg (t : Tg) (ra : Ev → Store → Res D) : SM := fun env S => (ra env S).st env fun d S' => match t.set env d with
  | some env' => some (.nx env', S')
  | none => none
theorem ss_asg {tg : Expr} {t : Tg} (he : SE Y X W e ra) (hg : STg X tg t) (hs : swapsWithSole [tg] e pos.line X.env = pure false := by rfl) (hw : swappedStores [tg] e X.env = pure none := by rfl)
    (h1 : (assignEach [tg] X.env).map (·.2) = [assign tg X.env] := by rfl) : SS Y X W (.Assign [tg] e pos) (sAsg t ra) := by
  obtain ⟨te, a1, a2⟩ := he.ex
  obtain ⟨g, g1, g2⟩ := hg.ex
  refine ⟨_, ps_asg a1 g1 hs hw h1, fun F ρ S H σ env Z R E h => a2.thenS R E h fun d u S1 F1 ρ1 H1 R1 n1 E1 ru o1 => ?_⟩
  cases e : t.set env d with
  | none => rw [e] at o1; exact False.elim o1
  | some env' =>
    rw [e] at o1
    exact g2 F1 ρ1 H1 H1 σ env env' u d _ R1.ex E1 ru e fun σ' E' _ => OutS.now o1 R1 σ' E'
end
end L3
set_option Elab.async false
set_option linter.all false
set_option maxRecDepth 100000
set_option maxHeartbeats 2000000
/-! loops, comprehensions -/
namespace L3
open PySem PySem.Spec L2

section
variable {α β : Type} {K : PySem.W.Frag} {Y : Pc} {F F1 : Hp} {ρ ρ1 : List Addr} {H H1 : Hp} {r : Res α} {f : α → Store → Res β}
theorem Out.later {ok : α → Store → Hp → List Addr → Hp → Prop} {ex : Value → Hp → Prop} (h : Out K Y F ρ H r ok ex) (n : Nx F ρ H F1 ρ1 H1) : Out K Y F1 ρ1 H1 r ok ex := by
  cases r with
  | ok a S => exact fun F' ρ' H' R n' => h F' ρ' H' R (n.trans n')
  | exc c S => exact fun F' ρ' H' R n' => h F' ρ' H' R (n.trans n')
  | stuck => exact h
theorem OutS.later {r : Option (Flow × Store)} {P : Flow → Store → Hp → List Addr → Hp → Prop} (h : OutS K Y F ρ H r P) (n : Nx F ρ H F1 ρ1 H1) : OutS K Y F1 ρ1 H1 r P := by
  cases r with
  | none => exact h
  | some x => exact fun F' ρ' H' R n' => h F' ρ' H' R (n.trans n')
theorem Out.bindB {ok : β → Store → Hp → List Addr → Hp → Prop} {ex : Value → Hp → Prop} (h : Out K Y F ρ H (r.bind f) ok ex) : Out K Y F ρ H r (fun a S' _ _ _ => Out K Y F ρ H (f a S') ok ex) ex := by
  cases r with
  | ok a S => exact fun F' ρ' H' R n => h
  | exc c S => exact h
  | stuck => exact h
def Res.noex (r : Res α) : Res α := match r with
  | .exc _ _ => .stuck
  | r => r
theorem Out.noex {ok : α → Store → Hp → List Addr → Hp → Prop} {ex ex' : Value → Hp → Prop} (h : Out K Y F ρ H r.noex ok ex) : Out K Y F ρ H r ok ex' := by
  cases r with
  | ok a S => exact h
  | exc c S => exact False.elim h
  | stuck => exact h
end

/-! ### what is walked -/
def WalksJ (K : PySem.W.Frag) (Y : Pc) (J : It) (F0 : Hp) (ρ0 : List Addr) (items : List D) : Prop := ∀ (F : Hp) (ρ : List Addr) (S : Store) (H : Hp), Ex F0 F → Pre ρ0 ρ → SR K Y F ρ S H → ∀ i : Nat,
  (∀ d, items[i]? = some d → J.go i H ∧ ∀ x H', J.yld i H x H' → ∃ F', SR K Y F' ρ S H' ∧ Nx F ρ H F' ρ H' ∧ RD K F' ρ x d) ∧ (items.length ≤ i → J.stop i H)
def EvI (K : PySem.W.Frag) (Y : Pc) (W : WX) (wi : TI) (r : Ev → Store → Res (List D)) : Prop := ∀ (F : Hp) (ρ : List Addr) (S : Store) (H : Hp) (σ : L2.St) (env : Ev) (Q : It → Hp → Prop), SR K Y F ρ S H → ER K F ρ σ env →
  Out K Y F ρ H (r env S) (fun items _ F' ρ' H' => ∀ J, WalksJ K Y J F' ρ' items → Q J H') (fun c H' => W c none σ H') → wi σ H Q
structure SI (Y : Pc) (X : Cx) (W : WX) (tg iter : Expr) (r : Ev → Store → Res (List D)) : Prop where
  ex : ∃ wi, PI X tg iter wi ∧ EvI X.K Y W wi r
theorem OpR.imp {X : Cx} {f : Value → Value → Sem Value} {r r' : R2} (h : OpR X f r) (k : ∀ x y H Q, r' x y H Q → r x y H Q) : OpR X f r' := fun pins s σ H x y v u Q I rx ry q => h pins s σ H x y v u Q I rx ry (k _ _ _ _ q)
theorem PI.imp {X : Cx} {tg iter : Expr} {wi wi' : TI} (h : PI X tg iter wi) (k : ∀ σ H R, wi' σ H R → wi σ H R) : PI X tg iter wi' := ⟨fun pins s σ H R I q => h.run pins s σ H R I (k _ _ _ q)⟩
theorem PE.imp {X : Cx} {e : Expr} {t t' : TE} (h : PE X e t) (k : ∀ σ H Q, t' σ H Q → t σ H Q) : PE X e t' := ⟨fun pins s σ H Q I q => h.run pins s σ H Q I (k _ _ _ q)⟩
theorem PT.imp {X : Cx} {e : Expr} {t t' : TT} (h : PT X e t) (k : ∀ σ H Q, t' σ H Q → t σ H Q) : PT X e t' := ⟨fun pins s σ H Q I q => h.run pins s σ H Q I (k _ _ _ q)⟩
theorem PTs.imp {X : Cx} {e : List Expr} {t t' : TT} (h : PTs X e t) (k : ∀ σ H Q, t' σ H Q → t σ H Q) : PTs X e t' := ⟨fun pins s σ H Q I q => h.run pins s σ H Q I (k _ _ _ q)⟩
theorem PG.imp {X : Cx} {e : Expr} {t t' : TG} (h : PG X e t) (k : ∀ v σ H Q, t' v σ H Q → t v σ H Q) : PG X e t' := ⟨fun pins s σ H v u Q I r q => h.run pins s σ H v u Q I r (k _ _ _ _ q)⟩
/-- the reading that only tells what is computed -/
def canE (K : PySem.W.Frag) (Y : Pc) (W : WX) (r : Ev → Store → Res D) : TE := fun σ H Q => ∃ F ρ S env, SR K Y F ρ S H ∧ ER K F ρ σ env ∧ Out K Y F ρ H (r env S) (fun d _ F' ρ' H' => ∀ u, RD K F' ρ' u d → Q u H') (fun c H' => W c none σ H')
def canT (K : PySem.W.Frag) (Y : Pc) (W : WX) (r : Ev → Store → Res Bool) : TT := fun σ H Q => ∃ F ρ S env, SR K Y F ρ S H ∧ ER K F ρ σ env ∧ Out K Y F ρ H (r env S) (fun b _ F' ρ' H' => Q b H') (fun c H' => W c none σ H')
def canG (K : PySem.W.Frag) (t : Tg) : TG := fun u σ H Q => ∃ F ρ env env' d, Ex F H ∧ ER K F ρ σ env ∧ RD K F ρ u d ∧ t.set env d = some env' ∧ ∀ σ', ER K F ρ σ' env' → Only t.slots σ σ' → Q σ' H
theorem SE.can {Y : Pc} {X : Cx} {W : WX} {e : Expr} {r : Ev → Store → Res D} (h : SE Y X W e r) : PE X e (canE X.K Y W r) := by
  obtain ⟨t, h1, h2⟩ := h.ex
  exact PE.imp h1 fun σ H Q ⟨F, ρ, S, env, R, E, o⟩ => h2 F ρ S H σ env Q R E o
theorem SB.can {Y : Pc} {X : Cx} {W : WX} {e : Expr} {r : Ev → Store → Res Bool} (h : SB Y X W e r) : PT X e (canT X.K Y W r) := by
  obtain ⟨t, h1, h2⟩ := h.ex
  exact PT.imp h1 fun σ H Q ⟨F, ρ, S, env, R, E, o⟩ => h2 F ρ S H σ env Q R E o
theorem STg.can {X : Cx} {e : Expr} {t : Tg} (h : STg X e t) : PG X e (canG X.K t) := by
  obtain ⟨g, h1, h2⟩ := h.ex
  exact PG.imp h1 fun u σ H Q ⟨F, ρ, env, env', d, ex, E, r, e, k⟩ => h2 F ρ H H σ env env' u d Q ex E r e k

section
variable {Y : Pc} {X : Cx} {W : WX} {a b c e tg iter : Expr} {es : List Expr} {ra rb rc : Ev → Store → Res D} {rs ri : Ev → Store → Res (List D)} {rt : Ev → Store → Res Bool} {pos : Pos} {K : PySem.W.Frag}

/-- the items of a list, of a tuple (both stand still) -/
def iSeq (ra : Ev → Store → Res D) : Ev → Store → Res (List D) := fun env S => (ra env S).bind fun d S1 => match d with
  | .lst ds => .ok ds S1
  | _ => .stuck
def iTupS (ra : Ev → Store → Res D) : Ev → Store → Res (List D) := fun env S => (ra env S).bind fun d S1 => match d with
  | .tup ds => .ok ds S1
  | _ => .stuck
theorem walks_list {F : Hp} {ρ : List Addr} {l : Addr} {xs : List V} {ds : List D} (h : SqL K F l xs) (r : RDs K F ρ xs ds) : WalksJ K Y (Itl K l) F ρ ds := fun F1 ρ1 S1 H1 e p R i => by
  have q : SqL K H1 l xs := ex_l (e.trans R.ex) h
  refine ⟨fun d hd => ?_, fun hi => ⟨xs, q, by rw [r.length]; exact hi⟩⟩
  obtain ⟨v, hv, rv⟩ := r.get hd
  refine ⟨⟨xs, v, q, hv⟩, fun x H' y => ?_⟩
  obtain ⟨rfl, y⟩ := y
  have := y xs q
  rw [hv] at this; cases this
  exact ⟨F1, R, Nx.refl _ _ _, rv.mono e p⟩
theorem walks_tup {F : Hp} {ρ : List Addr} {l : Addr} {xs : List V} {ds : List D} (h : SqT K F l xs) (r : RDs K F ρ xs ds) : WalksJ K Y (Itt K l) F ρ ds := fun F1 ρ1 S1 H1 e p R i => by
  have q : SqT K H1 l xs := ex_t (e.trans R.ex) h
  refine ⟨fun d hd => ?_, fun hi => ⟨xs, q, by rw [r.length]; exact hi⟩⟩
  obtain ⟨v, hv, rv⟩ := r.get hd
  refine ⟨⟨xs, v, q, hv⟩, fun x H' y => ?_⟩
  obtain ⟨rfl, y⟩ := y
  have := y xs q
  rw [hv] at this; cases this
  exact ⟨F1, R, Nx.refl _ _ _, rv.mono e p⟩
theorem si_list (ha : SE Y X W iter ra) : SI Y X W tg iter (iSeq ra) := by
  obtain ⟨ta, a1, a2⟩ := ha.ex
  refine ⟨_, pi_list a1, fun F ρ S H σ env Q R E h => a2.then R E h fun d u S1 F1 ρ1 H1 R1 n1 E1 ru o1 => ?_⟩
  cases ru with
  | lst h1 h2 => exact ⟨_, rfl, ⟨_, SqL.of (R1.ex _ _ h1)⟩, Out.now o1 R1 _ (walks_list (SqL.of h1) h2)⟩
  | _ => exact False.elim o1
theorem si_tup (ha : SE Y X W iter ra) : SI Y X W tg iter (iTupS ra) := by
  obtain ⟨ta, a1, a2⟩ := ha.ex
  refine ⟨_, pi_tup a1, fun F ρ S H σ env Q R E h => a2.then R E h fun d u S1 F1 ρ1 H1 R1 n1 E1 ru o1 => ?_⟩
  cases ru with
  | tup h1 h2 => exact ⟨_, rfl, ⟨_, ex_t R1.ex h1⟩, Out.now o1 R1 _ (walks_tup h1 h2)⟩
  | _ => exact False.elim o1
def iStrS (ra : Ev → Store → Res D) : Ev → Store → Res (List D) := fun env S => (ra env S).bind fun d S1 => match d with
  | .str s => .ok (s.map fun c => .str [c]) S1
  | _ => .stuck
theorem si_str (ha : SE Y X W iter ra) : SI Y X W tg iter (iStrS ra) := by
  obtain ⟨ta, a1, a2⟩ := ha.ex
  refine ⟨_, pi_str a1, fun F ρ S H σ env Q R E h => a2.then R E h fun d u S1 F1 ρ1 H1 R1 n1 E1 ru o1 => ?_⟩
  cases ru with
  | str s hs =>
    refine ⟨_, rfl, Out.now o1 R1 _ fun F2 ρ2 S2 H2 e p R2 i => ⟨fun d hd => ?_, fun hi => ?_⟩⟩
    · rw [List.getElem?_map] at hd
      cases q : s[i]? with
      | none => rw [q] at hd; cases hd
      | some c =>
        rw [q] at hd; cases hd
        have hl := (List.getElem?_eq_some_iff.mp q).1
        refine ⟨by show i < s.toArray.size; simpa using hl, fun x H' y => ?_⟩
        obtain ⟨rfl, c', e1, rfl⟩ := y
        have e1 : s.toArray[i]? = some c' := e1
        simp only [List.getElem?_toArray] at e1
        rw [q] at e1; cases e1
        exact ⟨F2, R2, Nx.refl _ _ _, .str [c] (fun c' h => by rw [List.mem_singleton.mp h]; exact hs _ (List.mem_of_getElem? q))⟩
    · show s.toArray.size ≤ i
      simpa using hi
  | _ => exact False.elim o1
def intsFrom (lo : Int) (n : Nat) : List D := (List.range n).map fun (k : Nat) => .int (lo + (k : Int))
theorem walks_range {F : Hp} {ρ : List Addr} (lo : Int) (n : Nat) : WalksJ K Y (Itr lo n) F ρ (intsFrom lo n) := fun F2 ρ2 S2 H2 e p R2 i => by
  refine ⟨fun d hd => ?_, fun hi => ?_⟩
  · unfold intsFrom at hd
    rw [List.getElem?_map] at hd
    by_cases hl : i < n
    · rw [List.getElem?_range hl] at hd; cases hd
      refine ⟨hl, fun x H' y => ?_⟩
      obtain ⟨rfl, rfl⟩ := y
      exact ⟨F2, R2, Nx.refl _ _ _, .int _⟩
    · rw [List.getElem?_eq_none (by simpa using hl)] at hd; cases hd
  · show n ≤ i
    unfold intsFrom at hi
    simpa using hi
def iRng1S (rs : Ev → Store → Res (List D)) : Ev → Store → Res (List D) := fun env S => (rs env S).bind fun ds S1 => match ds with
  | [.int n] => if n < 100000 ∧ -100000 < n then .ok (intsFrom 0 n.toNat) S1 else .stuck
  | _ => .stuck
def iRng2S (rs : Ev → Store → Res (List D)) : Ev → Store → Res (List D) := fun env S => (rs env S).bind fun ds S1 => match ds with
  | [.int i, .int n] => if (n < 100000 ∧ -100000 < n) ∧ (i < 100000 ∧ -100000 < i) then .ok (intsFrom i (n - i).toNat) S1 else .stuck
  | _ => .stuck
theorem si_range1 {p : Pos} (hm : X.mg "range" = none) (ha : SA Y X W [a] rs) (hg : Gl X "range" := by rfl) (hs : starEach [a] X.env = [(false, eval a X.env)] := by rfl) : SI Y X W tg (.Call (.Name "range" p) [a] [] pos) (iRng1S rs) := by
  obtain ⟨ta, a1, a2⟩ := ha.ex
  refine ⟨_, pi_range1 hg hm a1 hs, fun F ρ S H σ env Q R E h => a2.then R E h fun ds us S1 F1 ρ1 H1 R1 n1 E1 ru o1 => ?_⟩
  cases ru with
  | nil => exact False.elim o1
  | cons r1 rr =>
    cases rr with
    | cons _ _ => cases r1 <;> exact False.elim o1
    | nil =>
      cases r1 with
      | int n =>
        have o1 : Out X.K Y F1 ρ1 H1 (if n < 100000 ∧ -100000 < n then .ok (intsFrom 0 n.toNat) S1 else .stuck) _ _ := o1
        by_cases hn : n < 100000 ∧ -100000 < n
        · rw [if_pos hn] at o1
          exact ⟨n, rfl, by omega, by omega, Out.now o1 R1 _ (walks_range 0 n.toNat)⟩
        · rw [if_neg hn] at o1
          exact False.elim o1
      | _ => exact False.elim o1
theorem si_range2 {p : Pos} (hm : X.mg "range" = none) (ha : SA Y X W [a, b] rs) (hg : Gl X "range" := by rfl) (hs : starEach [a, b] X.env = [(false, eval a X.env), (false, eval b X.env)] := by rfl) (hs2 : starEach [b] X.env = [(false, eval b X.env)] := by rfl) : SI Y X W tg (.Call (.Name "range" p) [a, b] [] pos) (iRng2S rs) := by
  obtain ⟨ta, a1, a2⟩ := ha.ex
  refine ⟨_, pi_range2 hg hm a1 hs hs2, fun F ρ S H σ env Q R E h => a2.then R E h fun ds us S1 F1 ρ1 H1 R1 n1 E1 ru o1 => ?_⟩
  cases ru with
  | nil => exact False.elim o1
  | cons r1 rr =>
    cases rr with
    | nil => cases r1 <;> exact False.elim o1
    | cons r2 rr =>
      cases rr with
      | cons _ _ => cases r1 <;> cases r2 <;> exact False.elim o1
      | nil =>
        cases r1 with
        | int i =>
          cases r2 with
          | int n =>
            have o1 : Out X.K Y F1 ρ1 H1 (if (n < 100000 ∧ -100000 < n) ∧ (i < 100000 ∧ -100000 < i) then .ok (intsFrom i (n - i).toNat) S1 else .stuck) _ _ := o1
            by_cases hn : (n < 100000 ∧ -100000 < n) ∧ (i < 100000 ∧ -100000 < i)
            · rw [if_pos hn] at o1
              exact ⟨i, n, rfl, by omega, Out.now o1 R1 _ (walks_range i (n - i).toNat)⟩
            · rw [if_neg hn] at o1
              exact False.elim o1
          | _ => exact False.elim o1
        | _ => exact False.elim o1

/-! ### for -/
def forGo (t : Tg) (body : SM) : List D → SM
  | [], env, S => some (.nx env, S)
  | d :: ds, env, S => match t.set env d with
    | none => none
    | some env1 => match body env1 S with
      | some (.nx e, S') => forGo t body ds e S'
      | some (.ct e, S') => forGo t body ds e S'
      | some (.bk e, S') => some (.nx e, S')
      | r => r
def sFor (t : Tg) (ri : Ev → Store → Res (List D)) (body : SM) : SM := fun env S => (ri env S).st env fun items S' => forGo t body items env S'
theorem ev_for {wi : TI} {g : TG} {t : Tg} {tb : TS} {body : SM} (hi : EvI K Y W wi ri) (hg : TgOk K t g) (hb : EvS K Y W tb body) : EvS K Y W (tFor wi g tb) (sFor t ri body) := fun F0 ρ0 S0 H0 σ0 env0 Z R0 E0 h => by
  refine hi F0 ρ0 S0 H0 σ0 env0 _ R0 E0 ((OutS.st (ex := fun c H' => W c none σ0 H') h fun c S' F' ρ' H' n q => q σ0 (E0.nx n)).imp (fun items S1 F1 ρ1 H1 R1 n1 o1 J wk => ?_) fun _ _ z => z)
  refine ⟨fun i m σ H => i ≤ items.length ∧ m = items.length - i ∧ ∃ F ρ S env, Ex F1 F ∧ Pre ρ1 ρ ∧ SR K Y F ρ S H ∧ ER K F ρ σ env ∧ OutS K Y F ρ H (forGo t body (items.drop i) env S) (fun fl _ F' ρ' H' => FlowOk K Y W Z fl F' ρ' H'),
    ⟨items.length, Nat.zero_le _, rfl, F1, ρ1, S1, env0, Ex.refl _, fun _ _ h => h, R1, E0.nx n1, by simpa using o1⟩, ?_⟩
  rintro i m σ H ⟨hil, rfl, F, ρ, S, env, ex, pr, R, E, o⟩
  have w := wk F ρ S H ex pr R i
  by_cases hl : i < items.length
  · rw [List.drop_eq_getElem_cons hl] at o
    obtain ⟨go, yl⟩ := w.1 items[i] (List.getElem?_eq_getElem hl)
    refine .inr ⟨go, fun σ' H' => i + 1 ≤ items.length ∧ ∃ F ρ S env, Ex F1 F ∧ Pre ρ1 ρ ∧ SR K Y F ρ S H' ∧ ER K F ρ σ' env ∧ OutS K Y F ρ H' (forGo t body (items.drop (i + 1)) env S) (fun fl _ F' ρ' H' => FlowOk K Y W Z fl F' ρ' H'), fun σ' H' ⟨q1, q2⟩ => ⟨items.length - (i + 1), by omega, q1, rfl, q2⟩, fun x H' y => ?_⟩
    obtain ⟨F', R', n', rx⟩ := yl x H' y
    have o : OutS K Y F ρ H (match t.set env items[i] with
      | none => none
      | some env1 => match body env1 S with
        | some (.nx e, S') => forGo t body (items.drop (i + 1)) e S'
        | some (.ct e, S') => forGo t body (items.drop (i + 1)) e S'
        | some (.bk e, S') => some (.nx e, S')
        | r => r) (fun fl _ F' ρ' H' => FlowOk K Y W Z fl F' ρ' H') := o
    cases et : t.set env items[i] with
    | none => rw [et] at o; exact False.elim o
    | some env1 =>
      rw [et] at o
      refine hg F' ρ H' H' σ env env1 x items[i] _ R'.ex (E.nx n') rx et fun σ2 E2 _ => ?_
      refine hb F' ρ S H' σ2 env1 _ R' E2 ?_
      dsimp only at o
      have o := o.later n'
      cases eb : body env1 S with
      | none => rw [eb] at o; exact False.elim o
      | some p =>
        obtain ⟨fl, S3⟩ := p
        rw [eb] at o
        intro F3 ρ3 H3 R3 n3
        cases fl with
        | nx e3 => exact fun σ3 E3 => ⟨hl, F3, ρ3, S3, e3, (ex.trans n'.ex).trans n3.ex, fun i a h => n3.pre i a (n'.pre i a (pr i a h)), R3, E3, OutS.later o n3⟩
        | ct e3 => exact fun σ3 E3 => ⟨hl, F3, ρ3, S3, e3, (ex.trans n'.ex).trans n3.ex, fun i a h => n3.pre i a (n'.pre i a (pr i a h)), R3, E3, OutS.later o n3⟩
        | bk e3 => exact fun σ3 E3 => o F3 ρ3 H3 R3 n3 σ3 E3
        | rt d => exact fun u ru => o F3 ρ3 H3 R3 n3 u ru
        | ex c e3 => exact fun σ3 E3 => o F3 ρ3 H3 R3 n3 σ3 E3
  · have hi : i = items.length := by omega
    subst hi
    rw [List.drop_length] at o
    exact .inl ⟨w.2 (Nat.le_refl _), OutS.now o R σ E⟩
theorem ss_for {k : Nat} {body : List Stmt} {t : Tg} {m : SM} (P : PassesOwn (model X.prog X.w) X.A X.env X.xe) (C : Ok X W k) (hi : SI Y X W tg iter ri) (hg : STg X tg t) (hb : SSs Y X W body m) (hs : ∀ x, foldedSetIterable iter X.env x = pure x := by intro _; rfl) :
    SS Y X W (.For tg iter body [] pos) (sFor t ri m) := by
  obtain ⟨wi, i1, i2⟩ := hi.ex
  obtain ⟨g, g1, g2⟩ := hg.ex
  obtain ⟨tb, b1, b2⟩ := hb.ex
  exact ⟨_, ps_for P C.calm i1 g1 b1 hs, ev_for i2 g2 b2⟩

/-! ### while -/
def whileGo (rt : Ev → Store → Res Bool) (body : SM) : Nat → SM
  | 0, _, _ => none
  | n + 1, env, S => (rt env S).st env fun b S1 => if b = true then (match body env S1 with
      | some (.nx e, S') => whileGo rt body n e S'
      | some (.ct e, S') => whileGo rt body n e S'
      | some (.bk e, S') => some (.nx e, S')
      | r => r) else some (.nx env, S1)
def sWhile (fuel : Nat) (rt : Ev → Store → Res Bool) (body : SM) : SM := whileGo rt body fuel
theorem ev_while {fuel : Nat} {tc : TT} {tb : TS} {body : SM} (hc : EvT K Y W tc rt) (hb : EvS K Y W tb body) : EvS K Y W (tWhile tc tb) (sWhile fuel rt body) := fun F0 ρ0 S0 H0 σ0 env0 Z R0 E0 h => by
  refine ⟨fun n σ H => ∃ F ρ S env, SR K Y F ρ S H ∧ ER K F ρ σ env ∧ OutS K Y F ρ H (whileGo rt body n env S) (fun fl _ F' ρ' H' => FlowOk K Y W Z fl F' ρ' H'), ⟨fuel, F0, ρ0, S0, env0, R0, E0, h⟩, ?_⟩
  rintro n σ H ⟨F, ρ, S, env, R, E, o⟩
  cases n with
  | zero => exact False.elim o
  | succ n =>
    refine hc.thenS R E (Z := Z) o fun b S1 F1 ρ1 H1 R1 n1 E1 o1 => ?_
    cases b with
    | false => exact OutS.now o1 R1 σ E1
    | true =>
      refine ⟨fun σ H => ∃ F ρ S env, SR K Y F ρ S H ∧ ER K F ρ σ env ∧ OutS K Y F ρ H (whileGo rt body n env S) (fun fl _ F' ρ' H' => FlowOk K Y W Z fl F' ρ' H'), fun σ' H' q => ⟨n, Nat.lt_succ_self n, q⟩, ?_⟩
      refine hb F1 ρ1 S1 H1 σ env _ R1 E1 ?_
      have o : OutS K Y F1 ρ1 H1 (match body env S1 with
        | some (.nx e, S') => whileGo rt body n e S'
        | some (.ct e, S') => whileGo rt body n e S'
        | some (.bk e, S') => some (.nx e, S')
        | r => r) (fun fl _ F' ρ' H' => FlowOk K Y W Z fl F' ρ' H') := o1
      cases eb : body env S1 with
      | none => rw [eb] at o; exact False.elim o
      | some p =>
        obtain ⟨fl, S3⟩ := p
        rw [eb] at o
        intro F3 ρ3 H3 R3 n3
        cases fl with
        | nx e3 => exact fun σ3 E3 => ⟨F3, ρ3, S3, e3, R3, E3, OutS.later o n3⟩
        | ct e3 => exact fun σ3 E3 => ⟨F3, ρ3, S3, e3, R3, E3, OutS.later o n3⟩
        | bk e3 => exact fun σ3 E3 => o F3 ρ3 H3 R3 n3 σ3 E3
        | rt d => exact fun u ru => o F3 ρ3 H3 R3 n3 u ru
        | ex c e3 => exact fun σ3 E3 => o F3 ρ3 H3 R3 n3 σ3 E3
theorem ss_while (fuel : Nat) {body : List Stmt} {m : SM} (P : PassesOwn (model X.prog X.w) X.A X.env X.xe) (hc : SB Y X W c rt) (hb : SSs Y X W body m) : SS Y X W (.While c body [] pos) (sWhile fuel rt m) := by
  obtain ⟨tc, c1, c2⟩ := hc.ex
  obtain ⟨tb, b1, b2⟩ := hb.ex
  exact ⟨_, ps_while P c1 b1, ev_while c2 b2⟩

/-! ### comprehensions -/
abbrev W0 : WX := fun _ _ _ _ => False
def lcGo (t : Tg) (rt : Ev → Store → Res Bool) (re : Ev → Store → Res D) (env : Ev) : List D → Store → Res (List D)
  | [], S => .ok [] S
  | d :: ds, S => match t.set env d with
    | none => .stuck
    | some env1 => (rt env1 S).noex.bind fun b S1 => if b = true then (re env1 S1).noex.bind fun v S2 => (lcGo t rt re env ds S2).bind fun l S3 => .ok (v :: l) S3 else lcGo t rt re env ds S1
def rLc (t : Tg) (ri : Ev → Store → Res (List D)) (rt : Ev → Store → Res Bool) (re : Ev → Store → Res D) (vs : List Nat) : Ev → Store → Res D := fun env S => (ri env S).bind fun items S1 => if items.length ≤ 100000 then (lcGo t rt re (wipeE env vs) items S1).bind fun l S2 => .ok (.lst l) S2 else .stuck
def rLcM (t : Tg) (ri : Ev → Store → Res (List D)) (rt : Ev → Store → Res Bool) (re : Ev → Store → Res D) (vs : List Nat) : Ev → Store → Res D := fun env S => (ri env S).bind fun items S1 => if items.length ≤ 100000 then (lcGo t rt re (wipeE env vs) items S1).bind fun l S2 => .ok (.loc S2.length) (S2 ++ [.lst l]) else .stuck
theorem Res.bind_bind {α β γ : Type} (r : Res α) (f : α → Store → Res β) (g : β → Store → Res γ) : (r.bind f).bind g = r.bind fun a S => (f a S).bind g := by
  cases r <;> rfl
/-- the heart: fin says what follows from the finished list -/
theorem ev_lc {wi : TI} {t : Tg} {re : Ev → Store → Res D} {vs : List Nat} {fin : List D → Store → Res D} (hi : EvI K Y W wi ri) (hv : ∀ i ∈ t.slots, i ∈ vs)
    (hfin : ∀ (F0 : Hp) (ρ0 : List Addr) (H0 : Hp) (F : Hp) (ρ : List Addr) (S : Store) (H : Hp) (DA : Addr) (us : List V) (ds : List D) (Q : VK) (ex : Value → Hp → Prop), SR K Y F ρ S H → Nx F0 ρ0 H0 F ρ H → H0 DA = none → H DA = some (.lst us) → F DA = none → DA ∉ ρ → RDs K F ρ us ds → Out K Y F0 ρ0 H0 (fin ds S) (fun d _ F' ρ' H' => ∀ u, RD K F' ρ' u d → Q u H') ex → Q (.ref DA) H) :
    EvE K Y W (tLc wi (canG K t) (canT K Y W0 rt) (canE K Y W0 re) vs) (fun env S => (ri env S).bind fun items S1 => if items.length ≤ 100000 then (lcGo t rt re (wipeE env vs) items S1).bind fin else .stuck) := fun F0 ρ0 S0 H0 σ0 env0 Q R0 E0 h => by
  refine hi F0 ρ0 S0 H0 σ0 env0 _ R0 E0 (h.bind.imp (fun items S1 F1 ρ1 H1 R1 n1 o1 J wk DA hD => ?_) fun _ _ z => z)
  have E1 := E0.nx n1
  by_cases hlen : items.length ≤ 100000
  · rw [if_pos hlen] at o1
    have FD : F1 DA = none := by
      cases e : F1 DA with
      | none => rfl
      | some u => rw [R1.ex DA u e] at hD; cases hD
    have rD : DA ∉ ρ1 := fun m => R1.there DA m hD
    obtain ⟨Rg, ng⟩ := R1.grown (o := .lst []) hD
    refine ⟨fun i m H => i ≤ items.length ∧ m = items.length - i ∧ ∃ F ρ S us ds, Nx F1 ρ1 H1 F ρ H ∧ SR K Y F ρ S H ∧ H DA = some (.lst us) ∧ F DA = none ∧ DA ∉ ρ ∧ RDs K F ρ us ds ∧ us.length ≤ i ∧
        Out K Y F1 ρ1 H1 ((lcGo t rt re (wipeE env0 vs) (items.drop i) S).bind fun l S2 => fin (ds ++ l) S2) (fun d _ F' ρ' H' => ∀ u, RD K F' ρ' u d → Q u H') (fun c H' => W c none σ0 H'),
      ⟨items.length, Nat.zero_le _, rfl, F1, ρ1, S1, [], [], ng, Rg, upd_same, FD, rD, .nil, Nat.le_refl _, by simpa using o1⟩, ?_⟩
    rintro i m H ⟨hil, rfl, F, ρ, S, us, ds, n, R, hH, hF, hρ, ru, hu, o⟩
    have w := wk F ρ S H n.ex n.pre R i
    by_cases hl : i < items.length
    · rw [List.drop_eq_getElem_cons hl] at o
      obtain ⟨go, yl⟩ := w.1 items[i] (List.getElem?_eq_getElem hl)
      refine .inr ⟨go, fun H => i + 1 ≤ items.length ∧ ∃ F ρ S us ds, Nx F1 ρ1 H1 F ρ H ∧ SR K Y F ρ S H ∧ H DA = some (.lst us) ∧ F DA = none ∧ DA ∉ ρ ∧ RDs K F ρ us ds ∧ us.length ≤ i + 1 ∧
        Out K Y F1 ρ1 H1 ((lcGo t rt re (wipeE env0 vs) (items.drop (i + 1)) S).bind fun l S2 => fin (ds ++ l) S2) (fun d _ F' ρ' H' => ∀ u, RD K F' ρ' u d → Q u H') (fun c H' => W c none σ0 H'), fun H' ⟨q1, q2⟩ => ⟨items.length - (i + 1), by omega, q1, rfl, q2⟩, fun x H' y => ?_⟩
      obtain ⟨F', R', n', rx⟩ := yl x H' y
      have keepD : ∀ {F2 : Hp} {ρ2 : List Addr} {H2 F3 : Hp} {ρ3 : List Addr} {H3 : Hp} {us2 : List V}, H2 DA = some (.lst us2) → F2 DA = none → DA ∉ ρ2 → Nx F2 ρ2 H2 F3 ρ3 H3 → H3 DA = some (.lst us2) ∧ F3 DA = none ∧ DA ∉ ρ3 := fun {F2 ρ2 H2 F3 ρ3 H3 us2} q1 q2 q3 nn => by
        refine ⟨nn.fr DA _ q1 q3, ?_, fun m => ?_⟩
        · cases e : F3 DA with
          | none => rfl
          | some u =>
            rcases nn.fh DA (by rw [e]; simp) with z | z | z
            · exact absurd q2 z
            · rw [q1] at z; cases z
            · exact absurd z q3
        · rcases nn.rh DA m with z | z
          · exact q3 z
          · rw [q1] at z; cases z
      obtain ⟨hH', hF', hρ'⟩ := keepD hH hF hρ n'
      have Ew : ER K F' ρ (wipe σ0 vs) (wipeE env0 vs) := ((E1.mono (n.trans n').ex (n.trans n').pre)).wipe vs
      have o : Out K Y F1 ρ1 H1 ((match t.set (wipeE env0 vs) items[i] with
        | none => (.stuck : Res (List D))
        | some env1 => (rt env1 S).noex.bind fun b S1 => if b = true then (re env1 S1).noex.bind fun v S2 => (lcGo t rt re (wipeE env0 vs) (items.drop (i + 1)) S2).bind fun l S3 => .ok (v :: l) S3 else lcGo t rt re (wipeE env0 vs) (items.drop (i + 1)) S1).bind fun l S2 => fin (ds ++ l) S2)
          (fun d _ F' ρ' H' => ∀ u, RD K F' ρ' u d → Q u H') (fun c H' => W c none σ0 H') := o
      cases et : t.set (wipeE env0 vs) items[i] with
      | none => rw [et] at o; exact False.elim o
      | some env1 =>
        rw [et] at o
        refine ⟨F', ρ, wipeE env0 vs, env1, items[i], R'.ex, Ew, rx, et, fun σ2 E2 on => ⟨?_, ?_⟩⟩
        · have on' : Only vs (wipe σ0 vs) σ2 := ⟨on.1, fun j hj => on.2 j fun m => hj (hv j m)⟩
          rw [on'.same, wipe_wipe]
        · dsimp only at o
          rw [Res.bind_bind] at o
          refine ⟨F', ρ, S, env1, R', E2, ?_⟩
          refine Out.noex (ex := fun c H' => W c none σ0 H') ((o.bindB.later (n.trans n')).imp (fun b S2 F2 ρ2 H2 R2 n2 o2 => ?_) fun _ _ z => z)
          obtain ⟨hH2, hF2, hρ2⟩ := keepD hH' hF' hρ' n2
          cases b with
          | true =>
            have o2 : Out K Y F1 ρ1 H1 (((re env1 S2).noex.bind fun v S2 => (lcGo t rt re (wipeE env0 vs) (items.drop (i + 1)) S2).bind fun l S3 => .ok (v :: l) S3).bind fun l S2 => fin (ds ++ l) S2)
              (fun d _ F' ρ' H' => ∀ u, RD K F' ρ' u d → Q u H') (fun c H' => W c none σ0 H') := o2
            rw [Res.bind_bind] at o2
            show canE K Y W0 re σ2 H2 _
            refine ⟨F2, ρ2, S2, env1, R2, E2.nx n2, ?_⟩
            refine Out.noex (ex := fun c H' => W c none σ0 H') ((o2.bindB.later ((n.trans n').trans n2)).imp (fun v S3 F3 ρ3 H3 R3 n3 o3 u ru3 => ?_) fun _ _ z => z)
            obtain ⟨hH3, hF3, hρ3⟩ := keepD hH2 hF2 hρ2 n3
            rw [Res.bind_bind] at o3
            refine ⟨us, hH3, ?_, hl, F3, ρ3, S3, us ++ [u], ds ++ [v], ?_, ?_, upd_same, hF3, hρ3, ?_, by simp; omega, ?_⟩
            · have : (100000 : Nat) < sizeLine := by decide
              omega
            · have nn := ((n.trans n').trans n2).trans n3
              refine ⟨nn.ex, nn.pre, fun a o h hn => ?_, nn.fh, nn.rh, fun a h => ?_⟩
              · have ha : a ≠ DA := fun e => by rw [e, hD] at h; cases h
                rw [upd_ne ha]; exact nn.fr a o h hn
              · by_cases e : a = DA
                · subst e; rw [upd_same]; simp
                · rw [upd_ne e]; exact nn.hn a h
            · refine ⟨fun a u h => ?_, R3.len, R3.nd, fun a h => ?_, fun j a c' h1 h2 => ?_⟩
              · have ha : a ≠ DA := fun e => by rw [e, hF3] at h; cases h
                rw [upd_ne ha]; exact R3.ex a u h
              · by_cases e : a = DA
                · subst e; exact absurd h hρ3
                · rw [upd_ne e]; exact R3.there a h
              · have ha : a ≠ DA := fun e => hρ3 (e ▸ List.mem_of_getElem? h1)
                have k := R3.cell j a c' h1 h2
                cases c' with
                | dead => trivial
                | lst ds =>
                  obtain ⟨k1, xs, k2, k3⟩ := k
                  exact ⟨k1, xs, by rw [upd_ne ha]; exact k2, k3⟩
                | ins c fs =>
                  obtain ⟨k1, dx, vs, k2, k3⟩ := k
                  exact ⟨k1, dx, vs, by rw [upd_ne ha]; exact k2, k3⟩
                | dct kvs => exact k.elim
                | exn c => exact ⟨k.1, by rw [upd_ne ha]; exact k.2⟩
            · have nn := (n'.trans n2).trans n3
              exact (ru.mono nn.ex nn.pre).snoc ru3
            · have e : ∀ l, ds ++ v :: l = (ds ++ [v]) ++ l := fun l => by simp
              have e2 : (fun (l : List D) (S2 : Store) => fin (ds ++ v :: l) S2) = (fun l S2 => fin ((ds ++ [v]) ++ l) S2) := by
                funext l S2
                rw [e l]
              have o3 : Out K Y F1 ρ1 H1 ((lcGo t rt re (wipeE env0 vs) (items.drop (i + 1)) S3).bind fun l S2 => fin (ds ++ v :: l) S2) (fun d _ F' ρ' H' => ∀ u, RD K F' ρ' u d → Q u H') (fun c H' => W c none σ0 H') := o3
              rw [e2] at o3
              exact o3
          | false =>
            have nn := (n.trans n').trans n2
            exact ⟨hl, F2, ρ2, S2, us, ds, nn, R2, hH2, hF2, hρ2, ru.mono (n'.trans n2).ex (n'.trans n2).pre, by omega, o2⟩
    · have hi : i = items.length := by omega
      subst hi
      rw [List.drop_length] at o
      have o : Out K Y F1 ρ1 H1 (fin (ds ++ []) S) (fun d _ F' ρ' H' => ∀ u, RD K F' ρ' u d → Q u H') (fun c H' => W c none σ0 H') := o
      rw [List.append_nil] at o
      exact .inl ⟨w.2 (Nat.le_refl _), hfin F1 ρ1 H1 F ρ S H DA us ds Q _ R n hD hH hF hρ ru o⟩
  · rw [if_neg hlen] at o1
    exact False.elim o1
end
end L3
set_option Elab.async false
set_option linter.all false
set_option maxRecDepth 100000
set_option maxHeartbeats 2000000
/-! enumerate of a text; zip; enumerate of a list -/
namespace L2
open PySem PySem.Spec PyProof.Rows
/-- enumerate(text): each sign in a new pair -/
def IteS (x : Str) : It :=
  ⟨fun i _ => i < x.cps.size, fun i H v H' => ∃ T c, v = .ref T ∧ H T = none ∧ x.cps[i]? = some c ∧ H' = upd H T (.tup [.int (i : Nat), .str ⟨#[c]⟩]), fun i _ => x.cps.size ≤ i⟩
theorem turn_enumS {P : Program} {w : World} {K : PySem.W.Frag} {elts : List Expr} {kk : Nat} {tpos : Pos} (x : Str) (t : Tok) (e it : Addr) :
    Turn P w K (.Tuple elts kk tpos) (IteS x) [e, it] e (fun i h => (∃ old, IsEnum h e it ((i : Nat) : Int) old) ∧ h.IsStrIter it (strIterType x) x t i ∧ e ≠ it ∧ i ≤ x.cps.size) where
  mem := by simp
  obj := fun i h st b hb => by
    obtain ⟨⟨old, he⟩, ⟨o, ho, hc, hd⟩, _⟩ := st
    have e' : b = e ∨ b = it := by simpa using hb
    rcases e' with z | z
    · rw [z]; exact ⟨_, he, fun v q => nomatch q⟩
    · rw [z]; exact ⟨o, ho, fun v q => by rw [hd] at q; cases q⟩
  keep := fun i h h' st k => let ⟨⟨old, he⟩, ⟨o, ho, r⟩, hne, hle⟩ := st; ⟨⟨old, k e (by simp) _ he⟩, ⟨o, k it (by simp) o ho, r⟩, hne, hle⟩
  item := by
    intro X hP hw hK hc i pins s σ H E I hf st hg
    subst hP hw hK
    obtain ⟨⟨old, he⟩, hit, hne, hle⟩ := st
    have hel : e < s.heap.objs.size := Heap.lt_size he
    have hil : it < s.heap.objs.size := by obtain ⟨_, q, _⟩ := hit; exact Heap.lt_size q
    have go : ∀ ty, ty = strIterType x → Draws X.prog X.w X.A.in1 it [it] x.cps.size (fun i v => ∃ c u, x.cps[i]? = some c ∧ v = .str ⟨#[c]⟩ u) (fun i h => h.IsStrIter it ty x t i) → wpAny (model X.prog X.w) X.A (pyNext (.ref e)) (fun r s1 => ∃ u, r = some u ∧
      wpAny (model X.prog X.w) X.A (letOwnedTupleGo (.Tuple elts kk tpos) (.ref e) u) (fun _ s2 => ∃ v H', Inv X pins σ H' s2 ∧ RelV v u ∧ (IteS x).yld i H v H' ∧ ((∃ old, IsEnum s2.heap e it (((i + 1 : Nat) : Nat) : Int) old) ∧ s2.heap.IsStrIter it (strIterType x) x t (i + 1) ∧ e ≠ it ∧ i + 1 ≤ x.cps.size) ∧ ∀ b ∈ [e, it], H' b = none) E s1) E s := fun ty hty D => by
      subst hty
      refine wpAny_pyNext_enum_itemD D he hit hg hne (by simpa using hne) fun v h' tk hv ho hit' hT hsz hk => ?_
      obtain ⟨c, u, hcx, rfl⟩ := hv
      refine ⟨_, rfl, wpAny_letOwnedTupleGo_enum (s := { s with heap := h', toks := tk + 1 }) ho fun h'' he' sb => ?_⟩
      have hT2 : h''.get? s.heap.objs.size = some { cls := .type "tuple", data := .seq #[.int i tk, .str ⟨#[c]⟩ u] } := (sb.2 _ (Nat.ne_of_gt hel)).trans hT
      have new : ObjOk X.prog X.w (upd H s.heap.objs.size (.tup [.int (i : Nat), .str ⟨#[c]⟩])) h'' s.heap.objs.size (.tup [.int (i : Nat), .str ⟨#[c]⟩]) :=
        ⟨by show 2 ≤ sizeLine; decide, [.int i tk, .str ⟨#[c]⟩ u], .cons ⟨_, rfl⟩ (.cons ⟨_, rfl⟩ .nil), ⟨_, hT2, rfl, _, rfl⟩⟩
      have I1 : Inv X pins σ (upd H s.heap.objs.size (.tup [.int (i : Nat), .str ⟨#[c]⟩])) { s with heap := h'', toks := tk + 1 } :=
        I.turnedNew (ch := [e, it]) (fun b ob hb q => (sb.2 b (fun z => hb (by simp [z]))).trans (hk b ob (fun z => hb (by simp [z])) (fun z => hb (by simp [z])) q)) hf (Nat.le_refl _) new
      refine ⟨.ref s.heap.objs.size, _, I1, rfl, ⟨_, c, rfl, I.hok.fresh (Nat.le_refl _), hcx, rfl⟩, ⟨⟨.str ⟨#[c]⟩ u, ?_⟩, ?_, hne, hg⟩, fun b hb => ?_⟩
      · have e1 : ((i + 1 : Nat) : Int) = (i : Int) + 1 := by omega
        rw [e1]; exact he'
      · obtain ⟨o, q1, q2⟩ := hit'
        exact ⟨o, (sb.2 it (Ne.symm hne)).trans q1, q2⟩
      · have hb' : b < s.heap.objs.size := by
          have e' : b = e ∨ b = it := by simpa using hb
          rcases e' with z | z
          · rw [z]; exact hel
          · rw [z]; exact hil
        rw [upd_ne (Nat.ne_of_lt hb')]
        exact (hf b hb).1
    cases ha : x.cps.all (· < 128)
    · exact go "str_iterator" (by simp [strIterType, ha]) (Draws.strWide (A := X.A.in1) (I.ok.hd hc) it x t)
    · exact go "str_ascii_iterator" (by simp [strIterType, ha]) (Draws.strAscii (A := X.A.in1) (I.ok.hd hc) it x t)
  done := by
    intro X hP hw hK hc i pins s σ H E I hf st hg
    subst hP hw hK
    obtain ⟨⟨old, he⟩, hit, hne, hle⟩ := st
    obtain ⟨f0, f1, f2, f3, f4, f5⟩ := hf it (by simp)
    have ei : i = x.cps.size := Nat.le_antisymm hle hg
    subst ei
    cases ha : x.cps.all (· < 128)
    · have q : "str_iterator" = strIterType x := by simp [strIterType, ha]
      rw [← q] at hit
      exact wpAny_pyNext_enum_endD (Draws.strWide (A := X.A.in1) (I.ok.hd hc) it x t) he hit fun h' eb => ⟨rfl, I.turned (t' := s.toks) (fun b o hb q => eb b o hb q) f0 f1 f3 f4 f5⟩
    · have q : "str_ascii_iterator" = strIterType x := by simp [strIterType, ha]
      rw [← q] at hit
      exact wpAny_pyNext_enum_endD (Draws.strAscii (A := X.A.in1) (I.ok.hd hc) it x t) he hit fun h' eb => ⟨rfl, I.turned (t' := s.toks) (fun b o hb q => eb b o hb q) f0 f1 f3 f4 f5⟩
  self := fun A i s Q E st h => let ⟨⟨_, he⟩, _⟩ := st; wpAny_pyIter_enum he h
def iEnumS (ta : TA) : TI := fun σ H R => ta σ H fun vs H1 => ∃ x, vs = [.str x] ∧ R (IteS x) H1
theorem pi_enumS {X : Cx} {e : Expr} {ta : TA} {p pos tpos : Pos} {elts : List Expr} {kk : Nat} (hg : Gl X "enumerate") (hm : X.mg "enumerate" = none) (ha : PA X [e] ta) (hs : starEach [e] X.env = [(false, eval e X.env)] := by rfl) :
    PI X (.Tuple elts kk tpos) (.Call (.Name "enumerate" p) [e] [] pos) (iEnumS ta) := by
  refine ⟨fun pins s σ H R I h => ?_⟩
  refine Call_ (ld_blt I hg hm boot_enumerate (PyProof.Rows.callWith_type1 (thn (ha.run pos pins s σ H _ I h) fun us s1 ⟨vs, H1, I1, r1, q1⟩ => ?_) hs rfl))
  obtain ⟨x, ex, q⟩ := q1
  subst ex
  cases r1 with
  | cons r rr =>
    cases rr
    obtain ⟨t, rfl⟩ := r
    refine call_enumerate_str fun h' he hit hsz hk => wpAny_pyIter_enum he ?_
    have I2 : Inv X pins σ H1 { s1 with heap := h' } := I1.kept (t' := s1.toks) hk
    refine ⟨s1.heap.objs.size + 1, [s1.heap.objs.size + 1, s1.heap.objs.size], _, _, H1, rfl, I2, turn_enumS x t (s1.heap.objs.size + 1) s1.heap.objs.size, ⟨⟨.none, he⟩, hit, Nat.succ_ne_self _, Nat.zero_le _⟩, fun b hb => ?_, q⟩
    have e' : b = s1.heap.objs.size + 1 ∨ b = s1.heap.objs.size := by simpa using hb
    have hle : s1.heap.objs.size ≤ b := by
      rcases e' with z | z
      · rw [z]; exact Nat.le_add_right _ _
      · rw [z]; exact Nat.le_refl _
    exact I1.fpOk hle (I1.hok.fresh hle)
theorem PI.or {X : Cx} {tg iter : Expr} {wi wi' : TI} (h : PI X tg iter wi) (h' : PI X tg iter wi') : PI X tg iter (fun σ H R => wi σ H R ∨ wi' σ H R) := ⟨fun pins s σ H R I q => q.elim (h.run pins s σ H R I) (h'.run pins s σ H R I)⟩
end L2
namespace L3
open PySem PySem.Spec L2
section
variable {Y : Pc} {X : Cx} {W : WX} {a b c e tg iter : Expr} {es : List Expr} {ra rb rc : Ev → Store → Res D} {rs ri : Ev → Store → Res (List D)} {rt : Ev → Store → Res Bool} {pos : Pos} {K : PySem.W.Frag}
def enumFrom : Nat → List D → List D
  | _, [] => []
  | i, d :: ds => .tup [.int (i : Int), d] :: enumFrom (i + 1) ds
theorem enum_get : ∀ (ds : List D) (k i : Nat) (d : D), (enumFrom k ds)[i]? = some d → ∃ x, ds[i]? = some x ∧ d = .tup [.int ((k + i : Nat) : Int), x]
  | [], _, _, _, h => by simp [enumFrom] at h
  | x :: ds, k, 0, d, h => by
    simp [enumFrom] at h
    exact ⟨x, rfl, by rw [← h]; rfl⟩
  | x :: ds, k, i + 1, d, h => by
    obtain ⟨y, h1, h2⟩ := enum_get ds (k + 1) i d (by simpa [enumFrom] using h)
    exact ⟨y, by simpa using h1, by rw [h2]; congr 3; omega⟩
theorem enum_len : ∀ (ds : List D) (k : Nat), (enumFrom k ds).length = ds.length
  | [], _ => rfl
  | _ :: ds, k => by simp [enumFrom, enum_len ds (k + 1)]
def itemsOf : D → Option (List D)
  | .lst ds => some ds
  | .str s => some (s.map fun c => .str [c])
  | _ => none
/-- enumerate of a list that stands still, of a text -/
def iEnumR (rs : Ev → Store → Res (List D)) : Ev → Store → Res (List D) := fun env S => (rs env S).bind fun ds S1 => match ds with
  | [.lst xs] => .ok (enumFrom 0 xs) S1
  | [.str s] => .ok (enumFrom 0 (s.map fun c => .str [c])) S1
  | _ => .stuck
theorem walks_enumL {F : Hp} {ρ : List Addr} {l : Addr} {xs : List V} {ds : List D} (h : SqL K F l xs) (r : RDs K F ρ xs ds) : WalksJ K Y (Ite K l) F ρ (enumFrom 0 ds) := fun F1 ρ1 S1 H1 e p R i => by
  have q : SqL K H1 l xs := ex_l (e.trans R.ex) h
  refine ⟨fun d hd => ?_, fun hi => ⟨xs, q, by rw [enum_len] at hi; rw [r.length]; exact hi⟩⟩
  obtain ⟨x, hx, rfl⟩ := enum_get _ _ _ _ hd
  obtain ⟨v, hv, rv⟩ := r.get hx
  refine ⟨⟨xs, v, q, hv⟩, fun y H' yl => ?_⟩
  obtain ⟨T, x', rfl, hT, rfl, yl⟩ := yl
  have := yl xs q
  rw [hv] at this; cases this
  obtain ⟨R2, n2, e2⟩ := R.new (o := .tup [.int (i : Nat), v]) hT
  refine ⟨_, R2, n2, .tup (Or.inl (Or.inl e2)) (.cons ?_ (.cons ((rv.mono e p).mono n2.ex n2.pre) .nil))⟩
  have : ((0 + i : Nat) : Int) = (i : Int) := by omega
  rw [this]
  exact .int _
theorem walks_enumS {F : Hp} {ρ : List Addr} (s : List Nat) (hs : OkT s) : WalksJ K Y (IteS (tx s)) F ρ (enumFrom 0 (s.map fun c => .str [c])) := fun F1 ρ1 S1 H1 e p R i => by
  refine ⟨fun d hd => ?_, fun hi => ?_⟩
  · obtain ⟨x, hx, rfl⟩ := enum_get _ _ _ _ hd
    rw [List.getElem?_map] at hx
    cases q : s[i]? with
    | none => rw [q] at hx; cases hx
    | some c =>
      rw [q] at hx; cases hx
      have hl := (List.getElem?_eq_some_iff.mp q).1
      refine ⟨by show i < s.toArray.size; simpa using hl, fun x H' y => ?_⟩
      obtain ⟨T, c', rfl, hT, e1, rfl⟩ := y
      have e1 : s.toArray[i]? = some c' := e1
      simp only [List.getElem?_toArray] at e1
      rw [q] at e1; cases e1
      obtain ⟨R2, n2, e2⟩ := R.new (o := .tup [.int (i : Nat), .str ⟨#[c]⟩]) hT
      refine ⟨_, R2, n2, .tup (Or.inl (Or.inl e2)) (.cons ?_ (.cons (.str [c] (fun c' h => by rw [List.mem_singleton.mp h]; exact hs _ (List.mem_of_getElem? q))) .nil))⟩
      have : ((0 + i : Nat) : Int) = (i : Int) := by omega
      rw [this]
      exact .int _
  · show s.toArray.size ≤ i
    rw [enum_len] at hi
    simpa using hi
theorem si_enum {p tpos : Pos} {elts : List Expr} {kk : Nat} (hm : X.mg "enumerate" = none) (ha : SA Y X W [a] rs) (hg : Gl X "enumerate" := by rfl) (hs : starEach [a] X.env = [(false, eval a X.env)] := by rfl) :
    SI Y X W (.Tuple elts kk tpos) (.Call (.Name "enumerate" p) [a] [] pos) (iEnumR rs) := by
  obtain ⟨ta, a1, a2⟩ := ha.ex
  refine ⟨_, (pi_enum hg hm a1 hs).or (pi_enumS hg hm a1 hs), fun F ρ S H σ env Q R E h => ?_⟩
  have h' := h
  unfold iEnumR at h'
  cases e : rs env S with
  | stuck => rw [e] at h'; exact False.elim h'
  | exc c S1 =>
    refine .inl (a2 F ρ S H σ env _ R E ?_)
    rw [e] at h' ⊢
    exact h'
  | ok ds S1 =>
    rw [e] at h'
    match ds, h', e with
    | [.lst xs], h', e =>
      refine .inl (a2 F ρ S H σ env _ R E ?_)
      rw [e]
      intro F1 ρ1 H1 R1 n1 us ru
      cases ru with
      | cons r1 rr =>
        cases rr
        cases r1 with
        | lst h1 h2 => exact ⟨_, _, rfl, SqL.of (R1.ex _ _ h1), h' F1 ρ1 H1 R1 n1 _ (walks_enumL (SqL.of h1) h2)⟩
    | [.str s], h', e =>
      refine .inr (a2 F ρ S H σ env _ R E ?_)
      rw [e]
      intro F1 ρ1 H1 R1 n1 us ru
      cases ru with
      | cons r1 rr =>
        cases rr
        cases r1 with
        | str _ hs => exact ⟨_, rfl, h' F1 ρ1 H1 R1 n1 _ (walks_enumS s hs)⟩
    | [], h', _ => exact False.elim h'
    | [.non], h', _ => exact False.elim h'
    | [.bl _], h', _ => exact False.elim h'
    | [.int _], h', _ => exact False.elim h'
    | [.tup _], h', _ => exact False.elim h'
    | [.loc _], h', _ => exact False.elim h'
    | [.scr _], h', _ => exact False.elim h'
    | x :: y :: z, h', _ => cases x <;> exact False.elim h'
/-! zip of two lists that stand still -/
def zipD : List D → List D → List D
  | x :: xs, y :: ys => .tup [x, y] :: zipD xs ys
  | _, _ => []
theorem zip_get : ∀ (xs ys : List D) (i : Nat) (d : D), (zipD xs ys)[i]? = some d → ∃ x y, xs[i]? = some x ∧ ys[i]? = some y ∧ d = .tup [x, y]
  | [], _, _, _, h => by simp [zipD] at h
  | _ :: _, [], _, _, h => by simp [zipD] at h
  | x :: xs, y :: ys, 0, d, h => by
    simp [zipD] at h
    exact ⟨x, y, rfl, rfl, h.symm⟩
  | x :: xs, y :: ys, i + 1, d, h => by
    obtain ⟨a, b, h1, h2, h3⟩ := zip_get xs ys i d (by simpa [zipD] using h)
    exact ⟨a, b, by simpa using h1, by simpa using h2, h3⟩
theorem zip_len : ∀ (xs ys : List D), (zipD xs ys).length = min xs.length ys.length
  | [], _ => by simp [zipD]
  | _ :: _, [] => by simp [zipD]
  | _ :: xs, _ :: ys => by simp [zipD, zip_len xs ys]
def iZipR (rs : Ev → Store → Res (List D)) : Ev → Store → Res (List D) := fun env S => (rs env S).bind fun ds S1 => match ds with
  | [.lst xs, .lst ys] => .ok (zipD xs ys) S1
  | _ => .stuck
theorem si_zip {p tpos : Pos} {elts : List Expr} {kk : Nat} (hm : X.mg "zip" = none) (ha : SA Y X W [a, b] rs) (hg : Gl X "zip" := by rfl)
    (hs : starEach [a, b] X.env = (false, eval a X.env) :: starEach [b] X.env := by rfl) (hpl : (backTo pos (starEach [b] X.env)).any (·.1) = false := by rfl) :
    SI Y X W (.Tuple elts kk tpos) (.Call (.Name "zip" p) [a, b] [] pos) (iZipR rs) := by
  obtain ⟨ta, a1, a2⟩ := ha.ex
  refine ⟨_, pi_zip hg hm a1 hs hpl, fun F ρ S H σ env Q R E h => a2.then R E h fun ds us S1 F1 ρ1 H1 R1 n1 E1 ru o1 => ?_⟩
  match ds, ru, o1 with
  | [.lst xs, .lst ys], .cons (.lst h1 h2) (.cons (.lst g1 g2) .nil), o1 =>
    refine ⟨_, _, _, _, rfl, SqL.of (R1.ex _ _ h1), SqL.of (R1.ex _ _ g1), Out.now o1 R1 _ fun F2 ρ2 S2 H2 e p R2 i => ?_⟩
    have q1 : SqL X.K H2 _ _ := SqL.of ((e.trans R2.ex) _ _ h1)
    have q2 : SqL X.K H2 _ _ := SqL.of ((e.trans R2.ex) _ _ g1)
    refine ⟨fun d hd => ?_, fun hi => ⟨_, _, q1, q2, ?_⟩⟩
    · obtain ⟨x, y, hx, hy, rfl⟩ := zip_get _ _ _ _ hd
      obtain ⟨v, hv, rv⟩ := h2.get hx
      obtain ⟨w, hw, rw'⟩ := g2.get hy
      refine ⟨⟨_, _, v, w, q1, q2, hv, hw⟩, fun z H' yl => ?_⟩
      obtain ⟨T, x', y', rfl, hT, rfl, y1, y2⟩ := yl
      have e1 := y1 _ q1
      have e2 := y2 _ q2
      rw [hv] at e1; cases e1
      rw [hw] at e2; cases e2
      obtain ⟨R3, n3, e3⟩ := R2.new (o := .tup [v, w]) hT
      exact ⟨_, R3, n3, .tup (Or.inl (Or.inl e3)) (.cons ((rv.mono e p).mono n3.ex n3.pre) (.cons ((rw'.mono e p).mono n3.ex n3.pre) .nil))⟩
    · rw [zip_len] at hi
      rw [h2.length, g2.length]
      omega

/-! ### comprehensions, put together -/
theorem SR.told {F H : Hp} {ρ : List Addr} {S : Store} (R : SR K Y F ρ S H) {p : Addr} {o : HO} (hp : H p = some o) (fp : F p = none) (pr : p ∉ ρ) : SR K Y (upd F p o) ρ S H := by
  have e1 : Ex F (upd F p o) := Ex.new fp
  refine ⟨fun a u h => ?_, R.len, R.nd, R.there, fun i a c h1 h2 => ?_⟩
  · by_cases e : a = p
    · subst e; rw [upd_same] at h; cases h; exact hp
    · rw [upd_ne e] at h; exact R.ex a u h
  · have ha : a ≠ p := fun e => pr (e ▸ List.mem_of_getElem? h1)
    have k := R.cell i a c h1 h2
    cases c with
    | dead => trivial
    | lst ds =>
      obtain ⟨k1, xs, k2, k3⟩ := k
      exact ⟨by rw [upd_ne ha]; exact k1, xs, k2, k3.mono e1 fun _ _ h => h⟩
    | ins c fs =>
      obtain ⟨k1, dx, vs, k2, k3⟩ := k
      exact ⟨by rw [upd_ne ha]; exact k1, dx, vs, k2, k3.mono e1 fun _ _ h => h⟩
    | dct kvs => exact k.elim
    | exn c => exact ⟨by rw [upd_ne ha]; exact k.1, k.2⟩
theorem Nx.told {F0 H0 F H : Hp} {ρ0 ρ : List Addr} (n : Nx F0 ρ0 H0 F ρ H) {p : Addr} {o : HO} (h0 : H0 p = none) (fp : F p = none) : Nx F0 ρ0 H0 (upd F p o) ρ H :=
  ⟨n.ex.trans (Ex.new fp), n.pre, n.fr, fun a h => by
    by_cases e : a = p
    · subst e; exact .inr (.inl h0)
    · rw [upd_ne e] at h; exact n.fh a h, n.rh, n.hn⟩
abbrev XB (X : Cx) (scope : Scope) (s : Shared) (H : Hp) (A : Addr) (cl : List (Str × Addr)) (fp : List Addr) : Cx := X.blk s H scope (compEnvC scope cl A X.env) fp
theorem blk_ok {k : Nat} {scope : Scope} (C : Ok X W k) (s : Shared) (H : Hp) (A : Addr) (cl : List (Str × Addr)) (fp : List Addr) : Ok (XB X scope s H A cl fp) W0 k :=
  ⟨fun σ pins H s e s' I c => by obtain ⟨_, _, _, _, _, _, _, _, _, _, _, _, z⟩ := c; exact z.elim, C.calm, C.room, C.nd⟩
theorem ev_yes : EvT K Y W tYes (fun _ S => .ok true S) := fun F ρ S H σ env Q R E h => Out.now h R
def tYesR : Ev → Store → Res Bool := fun _ S => .ok true S
theorem pts_yes : PTs X [] (canT X.K Y W tYesR) := PTs.imp pts_nil fun σ H Q ⟨F, ρ, S, env, R, E, o⟩ => Out.now o R
theorem pts_test (h : SB Y X W c rt) : PTs X [c] (canT X.K Y W rt) := pts_one h.can
theorem fin_lst (F0 : Hp) (ρ0 : List Addr) (H0 : Hp) (F : Hp) (ρ : List Addr) (S : Store) (H : Hp) (DA : Addr) (us : List V) (ds : List D) (Q : VK) (ex : Value → Hp → Prop) (R : SR K Y F ρ S H) (n : Nx F0 ρ0 H0 F ρ H) (hD : H0 DA = none) (hH : H DA = some (.lst us)) (hF : F DA = none) (hρ : DA ∉ ρ) (ru : RDs K F ρ us ds)
    (o : Out K Y F0 ρ0 H0 (Res.ok (D.lst ds) S) (fun d _ F' ρ' H' => ∀ u, RD K F' ρ' u d → Q u H') ex) : Q (.ref DA) H :=
  o _ ρ H (R.told hH hF hρ) (n.told hD hF) _ (.lst upd_same (ru.mono (Ex.new hF) fun _ _ h => h))
theorem fin_loc (F0 : Hp) (ρ0 : List Addr) (H0 : Hp) (F : Hp) (ρ : List Addr) (S : Store) (H : Hp) (DA : Addr) (us : List V) (ds : List D) (Q : VK) (ex : Value → Hp → Prop) (R : SR K Y F ρ S H) (n : Nx F0 ρ0 H0 F ρ H) (hD : H0 DA = none) (hH : H DA = some (.lst us)) (hF : F DA = none) (hρ : DA ∉ ρ) (ru : RDs K F ρ us ds)
    (o : Out K Y F0 ρ0 H0 (Res.ok (D.loc S.length) (S ++ [.lst ds])) (fun d _ F' ρ' H' => ∀ u, RD K F' ρ' u d → Q u H') ex) : Q (.ref DA) H := by
  refine o F (ρ ++ [DA]) H (R.cellNew (by rw [hH]; simp) hF hρ ⟨hF, us, hH, ru.mono (Ex.refl _) (pre_snoc _ _)⟩) ⟨n.ex, fun i a h => pre_snoc ρ DA i a (n.pre i a h), n.fr, n.fh, fun a m => ?_, n.hn⟩ _ (.loc (by rw [← R.len]; simp))
  rcases List.mem_append.mp m with m | m
  · exact n.rh a m
  · simp at m; subst m; exact .inr hD
section
variable {k : Nat} {elt tgt : Expr} {ifs : List Expr} {scope : Scope} {own : List (Str × Nat)} {t : Tg} {re : Ev → Store → Res D}
theorem se_lc (own : List (Str × Nat)) (C : Ok X W k) (hi : SI Y X W tgt iter ri) (ok : blkC X.N X.env.scope scope own = true)
    (hg : ∀ (s : Shared) (H : Hp) (A : Addr) (cl : List (Str × Addr)) (fp : List Addr), STg (XB X scope s H A cl fp) tgt t)
    (ht : ∀ (s : Shared) (H : Hp) (A : Addr) (cl : List (Str × Addr)) (fp : List Addr), Ok (XB X scope s H A cl fp) W0 k → PTs (XB X scope s H A cl fp) ifs (canT X.K Y W0 rt))
    (he : ∀ (s : Shared) (H : Hp) (A : Addr) (cl : List (Str × Addr)) (fp : List Addr), Ok (XB X scope s H A cl fp) W0 k → SE Y (XB X scope s H A cl fp) W0 elt re)
    (hv : ∀ i ∈ t.slots, i ∈ own.map (·.2) := by decide) (hs : ∀ x, foldedSetIterable iter X.env x = pure x := by intro _; rfl) : SE Y X W (.ListComp elt [⟨tgt, iter, ifs, 0⟩] scope pos) (rLc t ri rt re (own.map (·.2))) := by
  obtain ⟨wi, i1, i2⟩ := hi.ex
  exact ⟨_, pe_lc (te := canE X.K Y W0 re) C.calm C.nd i1 (blkOk_by ok) (fun s H A cl fp => (hg s H A cl fp).can) (fun s H A cl fp => ht s H A cl fp (blk_ok C s H A cl fp)) (fun s H A cl fp => (he s H A cl fp (blk_ok C s H A cl fp)).can) hs, ev_lc (fin := fun l S2 => .ok (.lst l) S2) i2 hv fin_lst⟩
theorem se_lcM (own : List (Str × Nat)) (C : Ok X W k) (hi : SI Y X W tgt iter ri) (ok : blkC X.N X.env.scope scope own = true)
    (hg : ∀ (s : Shared) (H : Hp) (A : Addr) (cl : List (Str × Addr)) (fp : List Addr), STg (XB X scope s H A cl fp) tgt t)
    (ht : ∀ (s : Shared) (H : Hp) (A : Addr) (cl : List (Str × Addr)) (fp : List Addr), Ok (XB X scope s H A cl fp) W0 k → PTs (XB X scope s H A cl fp) ifs (canT X.K Y W0 rt))
    (he : ∀ (s : Shared) (H : Hp) (A : Addr) (cl : List (Str × Addr)) (fp : List Addr), Ok (XB X scope s H A cl fp) W0 k → SE Y (XB X scope s H A cl fp) W0 elt re)
    (hv : ∀ i ∈ t.slots, i ∈ own.map (·.2) := by decide) (hs : ∀ x, foldedSetIterable iter X.env x = pure x := by intro _; rfl) : SE Y X W (.ListComp elt [⟨tgt, iter, ifs, 0⟩] scope pos) (rLcM t ri rt re (own.map (·.2))) := by
  obtain ⟨wi, i1, i2⟩ := hi.ex
  exact ⟨_, pe_lc (te := canE X.K Y W0 re) C.calm C.nd i1 (blkOk_by ok) (fun s H A cl fp => (hg s H A cl fp).can) (fun s H A cl fp => ht s H A cl fp (blk_ok C s H A cl fp)) (fun s H A cl fp => (he s H A cl fp (blk_ok C s H A cl fp)).can) hs, ev_lc (fin := fun l S2 => .ok (.loc S2.length) (S2 ++ [.lst l])) i2 hv fin_loc⟩
/-- y = [..] -/
theorem ss_setLc (i : Nat) {y : Str} {py spos : Pos} (own : List (Str × Nat)) (C : Ok X W k) (hi : SI Y X W tgt iter ri) (ok : blkC X.N X.env.scope scope own = true)
    (hg : ∀ (s : Shared) (H : Hp) (A : Addr) (cl : List (Str × Addr)) (fp : List Addr), STg (XB X scope s H A cl fp) tgt t)
    (ht : ∀ (s : Shared) (H : Hp) (A : Addr) (cl : List (Str × Addr)) (fp : List Addr), Ok (XB X scope s H A cl fp) W0 k → PTs (XB X scope s H A cl fp) ifs (canT X.K Y W0 rt))
    (he : ∀ (s : Shared) (H : Hp) (A : Addr) (cl : List (Str × Addr)) (fp : List Addr), Ok (XB X scope s H A cl fp) W0 k → SE Y (XB X scope s H A cl fp) W0 elt re)
    (hy : X.N[i]? = some y := by rfl) (hyl : X.env.scope.names.lookup y = some .local := by rfl) (hsw : swapsWith (.ListComp elt [⟨tgt, iter, ifs, 0⟩] scope pos) (some (.Name y py)) spos.line X.env = pure true := by exact sw_true rfl rfl rfl (by decide +kernel))
    (hv : ∀ i ∈ t.slots, i ∈ own.map (·.2) := by decide) (hs : ∀ x, foldedSetIterable iter X.env x = pure x := by intro _; rfl) : SS Y X W (.Assign [.Name y py] (.ListComp elt [⟨tgt, iter, ifs, 0⟩] scope pos) spos) (sSet i (rLc t ri rt re (own.map (·.2)))) := by
  obtain ⟨wi, i1, i2⟩ := hi.ex
  exact ⟨_, ps_setLc (te := canE X.K Y W0 re) C.calm C.nd hy hyl hsw i1 (blkOk_by ok) (fun s H A cl fp => (hg s H A cl fp).can) (fun s H A cl fp => ht s H A cl fp (blk_ok C s H A cl fp)) (fun s H A cl fp => (he s H A cl fp (blk_ok C s H A cl fp)).can) hs, ev_set (ev_lc (fin := fun l S2 => .ok (.lst l) S2) i2 hv fin_lst)⟩
theorem ss_setLcM (i : Nat) {y : Str} {py spos : Pos} (own : List (Str × Nat)) (C : Ok X W k) (hi : SI Y X W tgt iter ri) (ok : blkC X.N X.env.scope scope own = true)
    (hg : ∀ (s : Shared) (H : Hp) (A : Addr) (cl : List (Str × Addr)) (fp : List Addr), STg (XB X scope s H A cl fp) tgt t)
    (ht : ∀ (s : Shared) (H : Hp) (A : Addr) (cl : List (Str × Addr)) (fp : List Addr), Ok (XB X scope s H A cl fp) W0 k → PTs (XB X scope s H A cl fp) ifs (canT X.K Y W0 rt))
    (he : ∀ (s : Shared) (H : Hp) (A : Addr) (cl : List (Str × Addr)) (fp : List Addr), Ok (XB X scope s H A cl fp) W0 k → SE Y (XB X scope s H A cl fp) W0 elt re)
    (hy : X.N[i]? = some y := by rfl) (hyl : X.env.scope.names.lookup y = some .local := by rfl) (hsw : swapsWith (.ListComp elt [⟨tgt, iter, ifs, 0⟩] scope pos) (some (.Name y py)) spos.line X.env = pure true := by exact sw_true rfl rfl rfl (by decide +kernel))
    (hv : ∀ i ∈ t.slots, i ∈ own.map (·.2) := by decide) (hs : ∀ x, foldedSetIterable iter X.env x = pure x := by intro _; rfl) : SS Y X W (.Assign [.Name y py] (.ListComp elt [⟨tgt, iter, ifs, 0⟩] scope pos) spos) (sSet i (rLcM t ri rt re (own.map (·.2)))) := by
  obtain ⟨wi, i1, i2⟩ := hi.ex
  exact ⟨_, ps_setLc (te := canE X.K Y W0 re) C.calm C.nd hy hyl hsw i1 (blkOk_by ok) (fun s H A cl fp => (hg s H A cl fp).can) (fun s H A cl fp => ht s H A cl fp (blk_ok C s H A cl fp)) (fun s H A cl fp => (he s H A cl fp (blk_ok C s H A cl fp)).can) hs, ev_set (ev_lc (fin := fun l S2 => .ok (.loc S2.length) (S2 ++ [.lst l])) i2 hv fin_loc)⟩
end

/-! ### ghosts: a list of the store is told to stay as it is -/
def fzD (d : D) (S : Store) : Option (D × Store) := match d with
  | .loc i => match S[i]? with
    | some (.lst ds) => some (.lst ds, S.set i .dead)
    | _ => none
  | d => some (d, S)
theorem fz_ok {F H : Hp} {ρ : List Addr} {S S' : Store} {d d' : D} {u : V} (R : SR K Y F ρ S H) (r : RD K F ρ u d) (h : fzD d S = some (d', S')) : ∃ F', SR K Y F' ρ S' H ∧ Nx F ρ H F' ρ H ∧ RD K F' ρ u d' := by
  cases r with
  | loc hi =>
    rename_i i a
    unfold fzD at h
    dsimp only at h
    cases e : S[i]? with
    | none => rw [e] at h; cases h
    | some c =>
      rw [e] at h
      cases c with
      | lst ds => cases h; exact R.freeze hi e
      | _ => cases h
  | non => cases h; exact ⟨F, R, Nx.refl _ _ _, .non⟩
  | bl => cases h; exact ⟨F, R, Nx.refl _ _ _, .bl _⟩
  | int => cases h; exact ⟨F, R, Nx.refl _ _ _, .int _⟩
  | str _ hs => cases h; exact ⟨F, R, Nx.refl _ _ _, .str _ hs⟩
  | lst a b => cases h; exact ⟨F, R, Nx.refl _ _ _, .lst a b⟩
  | scr a => cases h; exact ⟨F, R, Nx.refl _ _ _, .scr a⟩
  | tup a b => cases h; exact ⟨F, R, Nx.refl _ _ _, .tup a b⟩
  | dct a b c => cases h; exact ⟨F, R, Nx.refl _ _ _, .dct a b c⟩
/-- an expression whose list stays as it is from here on -/
def rFz (ra : Ev → Store → Res D) : Ev → Store → Res D := fun env S => (ra env S).bind fun d S1 => liftP (fzD d S1)
theorem ev_fz {te : TE} (h : EvE K Y W te ra) : EvE K Y W te (rFz ra) := fun F ρ S H σ env Q R E o => h.then R E o fun d u S1 F1 ρ1 H1 R1 n1 E1 ru o1 => by
  obtain ⟨z, S3, hz, k⟩ := liftP_out o1
  obtain ⟨F', R', n', r'⟩ := fz_ok R1 ru hz
  exact k F' ρ1 H1 R' n' u r'
theorem se_fz (h : SE Y X W e ra) : SE Y X W e (rFz ra) := by
  obtain ⟨t, h1, h2⟩ := h.ex
  exact ⟨t, h1, ev_fz h2⟩
/-- a name's list stays as it is from here on -/
def sFz (i : Nat) (m : SM) : SM := fun env S => match m env S with
  | some (.nx env1, S1) => match env1[i]? with
    | some (some d) => match fzD d S1 with
      | some (d', S2) => some (.nx (env1.set i (some d')), S2)
      | none => none
    | _ => none
  | r => r
theorem ev_sfz {ts : TS} {m : SM} (i : Nat) (h : EvS K Y W ts m) : EvS K Y W ts (sFz i m) := fun F ρ S H σ env Z R E o => by
  refine h F ρ S H σ env Z R E ?_
  unfold sFz at o
  cases e : m env S with
  | none => rw [e] at o; exact o
  | some p =>
    obtain ⟨fl, S1⟩ := p
    rw [e] at o
    cases fl with
    | nx env1 =>
      dsimp only at o
      intro F1 ρ1 H1 R1 n1 σ1 E1
      cases e1 : env1[i]? with
      | none => rw [e1] at o; exact False.elim o
      | some od =>
        rw [e1] at o
        cases od with
        | none => exact False.elim o
        | some d =>
          dsimp only at o
          obtain ⟨v, hv, rv⟩ := E1.2 i d e1
          cases e2 : fzD d S1 with
          | none => rw [e2] at o; exact False.elim o
          | some p2 =>
            obtain ⟨d', S2⟩ := p2
            rw [e2] at o
            obtain ⟨F', R', n', r'⟩ := fz_ok R1 rv e2
            exact o F' ρ1 H1 R' (n1.trans n') σ1 ((E1.nx n').tell i hv r')
    | rt d => exact o
    | bk env1 => exact o
    | ct env1 => exact o
    | ex c env1 => exact o
theorem ss_sfz {st : Stmt} {m : SM} (i : Nat) (h : SS Y X W st m) : SS Y X W st (sFz i m) := by
  obtain ⟨t, h1, h2⟩ := h.ex
  exact ⟨t, h1, ev_sfz i h2⟩

/-! ### a def, from its body -/
def fnSem (n p : Nat) (body : SM) : FSem := fun S args => match body (args.map some ++ List.replicate (n - p) none) S with
  | some (.nx _, S') => .ok .non S'
  | some (.rt d, S') => .ok d S'
  | some (.ex c _, S') => .exc c S'
  | _ => .stuck
theorem rd_rep {K : PySem.W.Frag} {F : Hp} {ρ : List Addr} {vs : List V} {ds : List D} (r : RDs K F ρ vs ds) (m : Nat) : ER K F ρ (vs.map some ++ List.replicate m none) (ds.map some ++ List.replicate m none) := by
  refine ⟨by simp [r.length], fun i d h => ?_⟩
  by_cases hi : i < ds.length
  · rw [List.getElem?_append_left (by simpa using hi), List.getElem?_map] at h
    rw [List.getElem?_append_left (by simpa [r.length] using hi), List.getElem?_map]
    cases e : ds[i]? with
    | none => rw [e] at h; cases h
    | some x =>
      rw [e] at h; cases h
      obtain ⟨v, h1, h2⟩ := r.get e
      exact ⟨v, by rw [h1]; rfl, h2⟩
  · rw [List.getElem?_append_right (by simp; omega)] at h
    have := List.mem_of_getElem? h
    rw [List.mem_replicate] at this
    exact absurd this.2 (by simp)
theorem fnok {P : Program} {w : World} {mg : Str → Option Value} {base : Heap} {x qual : Str} {st : Stmt} {f : Addr} {fd : FuncData} {N ps : List Str} {k : Nat} (n p : Nat) {body : SM} (Fu : Fun K x qual st f fd) (S : FnScope N ps (defScope st))
    (hn : N.length = n) (hp : ps.length = p)
    (hb : ∀ (X : Cx) (W : WX) (cdv : Value) (A : Around) (outer : List Env) (s : Shared) (H : Hp) (E : XK), X = cxOf (L2.CX P w) P w K mg base N qual (defScope st) f cdv A outer s H E → Ok X W k → PassesOwn (model X.prog X.w) X.A X.env X.xe → Takes X W → SSs Y X W (defBody st) body) :
    FnOk P w K mg base (L2.CX P w) (k + 1) f fd ps (spOf K Y (fnSem n p body) p) := by
  refine Fu.okX S (fun vs H Q E h => by rw [hp]; exact h.1) fun cdv A outer s H vs Q E hr hsp => ?_
  obtain ⟨hl, F, ρ, St, ds, R, rd, o⟩ := hsp
  have tk : Takes (cxOf (L2.CX P w) P w K mg base N qual (defScope st) f cdv A outer s H E) (fun cls d _ H => E cls d H) := takes_of rfl rfl rfl rfl
  obtain ⟨t, h1, h2⟩ := (hb _ _ cdv A outer s H E rfl ⟨fun σ => passAt tk σ, rfl, hr, S.nd⟩ (passes_of rfl) tk).ex
  refine ⟨t, h1, h2 F ρ St H (start N vs) (ds.map some ++ List.replicate (n - p) none) _ R (by
    have := rd_rep rd (n - p)
    unfold L2.start
    rw [hn, hl]
    exact this) ?_⟩
  unfold fnSem at o
  cases e : body (ds.map some ++ List.replicate (n - p) none) St with
  | none => rw [e] at o; exact False.elim o
  | some q =>
    obtain ⟨fl, S'⟩ := q
    rw [e] at o
    cases fl with
    | nx env => exact fun F' ρ' H' R' n' σ' E' => o F' ρ' H' R' n' _ .non
    | rt d => exact o
    | bk env => exact False.elim o
    | ct env => exact False.elim o
    | ex c env => exact fun F' ρ' H' R' n' σ' E' => o F' ρ' H' R' n'
end
end L3
set_option Elab.async false
set_option linter.all false
set_option maxRecDepth 100000
set_option maxHeartbeats 2000000
/-! operators -/
namespace L3
open PySem PySem.Spec L2

/-! ### data as the library's data -/
mutual
def D.py : D → PyData
  | .non => .none
  | .bl b => .bool b
  | .int i => .int i
  | .str s => .str (tx s)
  | .lst ds => .list (D.pys ds)
  | .tup ds => .tuple (D.pys ds)
  | .loc _ => .dict []
  | .scr ns => .list (ns.map PyData.int)
  | .dct _ _ => .dict []
def D.pys : List D → List PyData
  | [] => []
  | d :: ds => D.py d :: D.pys ds
end
mutual
def D.flat : D → Bool
  | .loc _ => false
  | .dct _ _ => false
  | .lst ds => D.flats ds
  | .tup ds => D.flats ds
  | _ => true
def D.flats : List D → Bool
  | [] => true
  | d :: ds => D.flat d && D.flats ds
end
section
variable {K : PySem.W.Frag} {F H : Hp} {ρ : List Addr}
theorem dp_ints : ∀ ns : List Int, DpAll K H (ns.map V.int) (ns.map PyData.int)
  | [] => .nil
  | n :: ns => .cons (.int n) (dp_ints ns)
theorem lay_ints : ∀ ns : List Int, PyData.canLayAll0 (ns.map PyData.int) = true
  | [] => rfl
  | n :: ns => by simp [PyData.canLayAll0, PyData.canLay0, lay_ints ns]
mutual
theorem RD.dp (e : Ex F H) : ∀ {d : D} {v : V}, RD K F ρ v d → d.flat = true → Dp K H v d.py ∧ d.py.canLay0 = true
  | .non, _, h, _ => by cases h; exact ⟨.non, rfl⟩
  | .bl _, _, h, _ => by cases h; exact ⟨.bl _, rfl⟩
  | .int _, _, h, _ => by cases h; exact ⟨.int _, rfl⟩
  | .str s, _, h, _ => by
    cases h with
    | str _ h1 =>
      refine ⟨.str _, ?_⟩
      show (tx s).cps.all (fun c => decide (c < 0x110000)) = true
      simp only [tx, List.all_toArray, List.all_eq_true]
      intro c hc
      exact decide_eq_true (h1 c hc)
  | .lst ds, _, h, f => by
    cases h with
    | lst h1 h2 =>
      have q := RDs.dp e h2 f
      exact ⟨.lst (SqL.of (e _ _ h1)) q.1, q.2⟩
  | .tup ds, _, h, f => by
    cases h with
    | tup h1 h2 =>
      have q := RDs.dp e h2 f
      exact ⟨.tup (ex_t e h1) q.1, q.2⟩
  | .loc _, _, _, f => by cases f
  | .dct _ _, _, _, f => by cases f
  | .scr ns, _, h, _ => by
    cases h with
    | scr h1 => exact ⟨.lst (ex_l e h1) (dp_ints ns), lay_ints ns⟩
theorem RDs.dp (e : Ex F H) : ∀ {ds : List D} {vs : List V}, RDs K F ρ vs ds → D.flats ds = true → DpAll K H vs (D.pys ds) ∧ PyData.canLayAll0 (D.pys ds) = true
  | [], _, h, _ => by cases h; exact ⟨.nil, rfl⟩
  | d :: ds, _, h, f => by
    have f : (D.flat d && D.flats ds) = true := f
    rw [Bool.and_eq_true] at f
    cases h with
    | cons h1 h2 =>
      have q1 := RD.dp e h1 f.1
      have q2 := RDs.dp e h2 f.2
      refine ⟨.cons q1.1 q2.1, ?_⟩
      show (PyData.canLay0 (D.py d) && PyData.canLayAll0 (D.pys ds)) = true
      rw [q1.2, q2.2]
      rfl
end
end

/-- a list of the store as the list that it is now -/
def unloc (S : Store) : D → D
  | .loc i => match S[i]? with
    | some (.lst ds) => .lst ds
    | _ => .loc i
  | d => d
section
variable {Y : Pc} {K : PySem.W.Frag} {F H : Hp} {ρ : List Addr} {S : Store}
theorem dp_un {d : D} {v : V} (R : SR K Y F ρ S H) (r : RD K F ρ v d) (f : (unloc S d).flat = true) : Dp K H v (unloc S d).py ∧ (unloc S d).py.canLay0 = true := by
  cases r with
  | loc h1 =>
    rename_i i a
    unfold unloc at f ⊢
    dsimp only at f ⊢
    cases e : S[i]? with
    | none => rw [e] at f; cases f
    | some c =>
      rw [e] at f
      cases c with
      | lst ds =>
        obtain ⟨_, xs, ha, hx⟩ := R.cell i a _ h1 e
        have q := RDs.dp R.ex hx f
        exact ⟨.lst (SqL.of ha) q.1, q.2⟩
      | _ => cases f
  | non => exact RD.dp (ρ := ρ) R.ex .non f
  | bl b => exact RD.dp (ρ := ρ) R.ex (.bl b) f
  | int i => exact RD.dp (ρ := ρ) R.ex (.int i) f
  | str s h => exact RD.dp (ρ := ρ) R.ex (.str s h) f
  | lst a b => exact RD.dp R.ex (.lst a b) f
  | tup a b => exact RD.dp R.ex (.tup a b) f
  | scr a => exact RD.dp (ρ := ρ) R.ex (.scr a) f
  | dct a b c => exact RD.dp (ρ := ρ) R.ex (.dct a b c) f

def eqPre (x y : D) : Bool := x.flat && y.flat && decide (x.py.depth ≤ 60) && decide (y.py.depth ≤ 60)
def eqD : Op2 := fun S x y => if eqPre (unloc S x) (unloc S y) = true then some (.bl (PyData.eqv (unloc S x).py (unloc S y).py)) else none
def neD : Op2 := fun S x y => if eqPre (unloc S x) (unloc S y) = true then some (.bl (!PyData.eqv (unloc S x).py (unloc S y).py)) else none
theorem eqPre_ok {x y : D} (h : eqPre x y = true) : x.flat = true ∧ y.flat = true ∧ x.py.depth ≤ 60 ∧ y.py.depth ≤ 60 := by
  unfold eqPre at h
  simp only [Bool.and_eq_true, decide_eq_true_eq] at h
  exact ⟨h.1.1.1, h.1.1.2, h.1.2, h.2⟩
theorem shaped_of {d : PyData} (h1 : d.canLay0 = true) (h2 : d.depth ≤ 60) : SeqAt.shaped d = true := by
  unfold SeqAt.shaped
  rw [h1]
  simp
  omega
variable {X : Cx}
/-- a scalar answer -/
theorem now_bl {Q : VK} {b : Bool} (R : SR K Y F ρ S H) (k : ∀ F' H' u, SR K Y F' ρ S H' → Nx F ρ H F' ρ H' → RD K F' ρ u (.bl b) → Q u H') : Q (.bl b) H := k F H _ R (Nx.refl _ _ _) (.bl b)
theorem now_int {Q : VK} {i : Int} (R : SR K Y F ρ S H) (k : ∀ F' H' u, SR K Y F' ρ S H' → Nx F ρ H F' ρ H' → RD K F' ρ u (.int i) → Q u H') : Q (.int i) H := k F H _ R (Nx.refl _ _ _) (.int i)
theorem now_str {Q : VK} {s : List Nat} (R : SR K Y F ρ S H) (h : OkT s) (k : ∀ F' H' u, SR K Y F' ρ S H' → Nx F ρ H F' ρ H' → RD K F' ρ u (.str s) → Q u H') : Q (.str (tx s)) H := k F H _ R (Nx.refl _ _ _) (.str s h)
theorem now_lst {Q : VK} {xs : List V} {ds : List D} {p : Addr} (R : SR K Y F ρ S H) (h : RDs K F ρ xs ds) (hp : H p = none) (k : ∀ F' H' u, SR K Y F' ρ S H' → Nx F ρ H F' ρ H' → RD K F' ρ u (.lst ds) → Q u H') : Q (.ref p) (upd H p (.lst xs)) := by
  obtain ⟨R2, n2, e2⟩ := R.new (o := .lst xs) hp
  exact k _ _ _ R2 n2 (.lst e2 (h.mono n2.ex n2.pre))
theorem now_tup {Q : VK} {xs : List V} {ds : List D} {p : Addr} (R : SR K Y F ρ S H) (h : RDs K F ρ xs ds) (hp : H p = none) (k : ∀ F' H' u, SR K Y F' ρ S H' → Nx F ρ H F' ρ H' → RD K F' ρ u (.tup ds) → Q u H') : Q (.ref p) (upd H p (.tup xs)) := by
  obtain ⟨R2, n2, e2⟩ := R.new (o := .tup xs) hp
  exact k _ _ _ R2 n2 (.tup (Or.inl (Or.inl e2)) (h.mono n2.ex n2.pre))

theorem sop_eq {k : Nat} {W : WX} (C : Ok X W k) : SOp Y X (compareOp .Eq) eqD := ⟨_, op_eqD C.room.units, fun F ρ S H x y dx dy d Q R rx ry e k => by
  unfold eqD at e
  by_cases h : eqPre (unloc S dx) (unloc S dy) = true
  · rw [if_pos h] at e
    cases e
    obtain ⟨f1, f2, d1, d2⟩ := eqPre_ok h
    obtain ⟨p1, l1⟩ := dp_un R rx f1
    obtain ⟨p2, l2⟩ := dp_un R ry f2
    exact ⟨_, _, p1, p2, shaped_of l1 d1, shaped_of l2 d2, now_bl R k⟩
  · rw [if_neg h] at e; cases e⟩
theorem sop_ne {k : Nat} {W : WX} (C : Ok X W k) : SOp Y X (compareOp .NotEq) neD := ⟨_, op_neD C.room.units, fun F ρ S H x y dx dy d Q R rx ry e k => by
  unfold neD at e
  by_cases h : eqPre (unloc S dx) (unloc S dy) = true
  · rw [if_pos h] at e
    cases e
    obtain ⟨f1, f2, d1, d2⟩ := eqPre_ok h
    obtain ⟨p1, l1⟩ := dp_un R rx f1
    obtain ⟨p2, l2⟩ := dp_un R ry f2
    exact ⟨_, _, p1, p2, shaped_of l1 d1, shaped_of l2 d2, now_bl R k⟩
  · rw [if_neg h] at e; cases e⟩

/-! ### arithmetic -/
theorem OkT.app {s t : List Nat} (a : OkT s) (b : OkT t) : OkT (s ++ t) := fun c h => (List.mem_append.mp h).elim (a c) (b c)
theorem tx_app (s t : List Nat) : tx s ++ tx t = tx (s ++ t) := Str.ext' (by show s.toArray ++ t.toArray = (s ++ t).toArray; simp)
theorem tx_len (s : List Nat) : (tx s).length = s.length := by simp [Str.length]
def addD : Op2 := fun _ x y => match x, y with
  | .int i, .int j => some (.int (i + j))
  | .str s, .str t => if s.length + t.length ≤ 100000 then some (.str (s ++ t)) else none
  | .lst xs, .lst ys => if xs.length + ys.length ≤ 100000 then some (.lst (xs ++ ys)) else none
  | .tup xs, .tup ys => if xs.length + ys.length ≤ 100000 then some (.tup (xs ++ ys)) else none
  | _, _ => none
theorem sop_add : SOp Y X (binaryOp .Add) addD := ⟨_, op_add.or (op_add_str.or (op_cat.or op_catA)), fun F ρ S H x y dx dy d Q R rx ry e k => by
  cases rx <;> cases ry <;> try (cases e; done)
  · cases e
    exact .inl ⟨_, _, rfl, rfl, now_int R k⟩
  · rename_i s hs t ht
    have e : (if s.length + t.length ≤ 100000 then some (D.str (s ++ t)) else none) = some d := e
    by_cases h : s.length + t.length ≤ 100000
    · rw [if_pos h] at e; cases e
      refine .inr (.inl ⟨_, _, rfl, rfl, by rw [tx_len, tx_len]; exact small _ h, ?_⟩)
      rw [tx_app]
      exact now_str R (hs.app ht) k
    · rw [if_neg h] at e; cases e
  · rename_i a xs ds h1 h2 b ys es g1 g2
    have e : (if ds.length + es.length ≤ 100000 then some (D.lst (ds ++ es)) else none) = some d := e
    by_cases h : ds.length + es.length ≤ 100000
    · rw [if_pos h] at e; cases e
      refine .inr (.inr (.inl ⟨_, _, _, _, rfl, rfl, R.ex _ _ h1, R.ex _ _ g1, by rw [h2.length, g2.length]; exact small _ h, fun p hp => now_lst R (h2.append g2) hp k⟩))
    · rw [if_neg h] at e; cases e
  · rename_i a xs ds h1 h2 b ys es g1 g2
    have e : (if ds.length + es.length ≤ 100000 then some (D.tup (ds ++ es)) else none) = some d := e
    by_cases h : ds.length + es.length ≤ 100000
    · rw [if_pos h] at e; cases e
      refine .inr (.inr (.inr ⟨_, _, _, _, rfl, rfl, ex_t R.ex h1, ex_t R.ex g1, by rw [h2.length, g2.length]; exact small _ h, fun z => ?_, fun z z2 => ?_, fun _ _ p hp => now_tup R (h2.append g2) hp k⟩))
      · subst z
        cases h2
        exact k F H _ R (Nx.refl _ _ _) (.tup g1 g2)
      · subst z2
        cases g2
        rw [List.append_nil] at k
        exact k F H _ R (Nx.refl _ _ _) (.tup h1 h2)
    · rw [if_neg h] at e; cases e⟩
def subD : Op2 := fun _ x y => match x, y with
  | .int i, .int j => some (.int (i - j))
  | _, _ => none
theorem sop_sub : SOp Y X (binaryOp .Sub) subD := ⟨_, op_sub, fun F ρ S H x y dx dy d Q R rx ry e k => by
  cases rx <;> cases ry <;> try (cases e; done)
  cases e
  exact ⟨_, _, rfl, rfl, now_int R k⟩⟩
def fdivD : Op2 := fun _ x y => match x, y with
  | .int i, .int j => if 0 < j ∧ j < 1073741824 then some (.int (i / j)) else none
  | _, _ => none
theorem sop_fdiv : SOp Y X (binaryOp .FloorDiv) fdivD := ⟨_, op_fdiv, fun F ρ S H x y dx dy d Q R rx ry e k => by
  cases rx <;> cases ry <;> try (cases e; done)
  rename_i i j
  have e : (if 0 < j ∧ j < 1073741824 then some (D.int (i / j)) else none) = some d := e
  by_cases h : 0 < j ∧ j < 1073741824
  · rw [if_pos h] at e; cases e
    exact ⟨_, _, rfl, rfl, h, now_int R k⟩
  · rw [if_neg h] at e; cases e⟩
def modD : Op2 := fun _ x y => match x, y with
  | .int i, .int j => if 0 < j then some (.int (i % j)) else none
  | _, _ => none
theorem sop_mod : SOp Y X (binaryOp .Mod) modD := ⟨_, op_mod, fun F ρ S H x y dx dy d Q R rx ry e k => by
  cases rx <;> cases ry <;> try (cases e; done)
  rename_i i j
  have e : (if 0 < j then some (D.int (i % j)) else none) = some d := e
  by_cases h : 0 < j
  · rw [if_pos h] at e; cases e
    exact ⟨_, _, rfl, rfl, h, now_int R k⟩
  · rw [if_neg h] at e; cases e⟩
def powD : Op2 := fun _ x y => match x, y with
  | .int i, .int j => if 0 ≤ j ∧ j ≤ 1000 ∧ i.natAbs < 2 ^ 64 then some (.int (i ^ j.toNat)) else none
  | _, _ => none
theorem sop_pow : SOp Y X (binaryOp .Pow) powD := ⟨_, op_pow, fun F ρ S H x y dx dy d Q R rx ry e k => by
  cases rx <;> cases ry <;> try (cases e; done)
  rename_i i j
  have e : (if 0 ≤ j ∧ j ≤ 1000 ∧ i.natAbs < 2 ^ 64 then some (D.int (i ^ j.toNat)) else none) = some d := e
  by_cases h : 0 ≤ j ∧ j ≤ 1000 ∧ i.natAbs < 2 ^ 64
  · rw [if_pos h] at e; cases e
    exact ⟨_, _, rfl, rfl, ⟨h.1, by omega, h.2.2⟩, now_int R k⟩
  · rw [if_neg h] at e; cases e⟩
def repL {α : Type} (n : Nat) (xs : List α) : List α := (List.replicate n xs).flatten
def mulD : Op2 := fun _ x y => match x, y with
  | .int i, .int j => if i.natAbs < 2 ^ 64 ∨ j.natAbs < 2 ^ 64 then some (.int (i * j)) else none
  | .lst xs, .int k => if 0 ≤ k ∧ k ≤ 1000 ∧ xs.length ≤ 100 then some (.lst (repL k.toNat xs)) else none
  | _, _ => none
theorem sop_mul : SOp Y X (binaryOp .Mult) mulD := ⟨_, op_mul.or op_rep, fun F ρ S H x y dx dy d Q R rx ry e k => by
  cases rx <;> cases ry <;> try (cases e; done)
  · rename_i i j
    have e : (if i.natAbs < 2 ^ 64 ∨ j.natAbs < 2 ^ 64 then some (D.int (i * j)) else none) = some d := e
    by_cases h : i.natAbs < 2 ^ 64 ∨ j.natAbs < 2 ^ 64
    · rw [if_pos h] at e; cases e
      refine .inl ⟨_, _, rfl, rfl, ?_, now_int R k⟩
      rcases h with h | h
      · exact .inl ⟨by omega, by omega⟩
      · exact .inr ⟨by omega, by omega⟩
    · rw [if_neg h] at e; cases e
  · rename_i a xs ds h1 h2 kk
    have e : (if 0 ≤ kk ∧ kk ≤ 1000 ∧ ds.length ≤ 100 then some (D.lst (repL kk.toNat ds)) else none) = some d := e
    by_cases h : 0 ≤ kk ∧ kk ≤ 1000 ∧ ds.length ≤ 100
    · rw [if_pos h] at e; cases e
      refine .inr ⟨_, _, _, rfl, rfl, R.ex _ _ h1, by omega, by omega, ?_, fun p hp => now_lst R (h2.rep kk.toNat) hp k⟩
      rw [h2.length]
      have : ds.length * kk.toNat ≤ 100 * 1000 := Nat.mul_le_mul h.2.2 (by omega)
      exact small _ (by omega)
    · rw [if_neg h] at e; cases e⟩
def negD : Op1 := fun _ x => match x with
  | .int i => some (.int (-i))
  | _ => none
theorem sop_neg : Op1Ok K Y negD (rU fun i => .int (-i)) := fun F ρ S H x dx d Q R rx e k => by
  cases rx <;> try (cases e; done)
  cases e
  exact ⟨_, rfl, now_int R k⟩
theorem se_neg {W : WX} {a : Expr} {pos : Pos} {ra : Ev → Store → Res D} (ha : SE Y X W a ra) : SE Y X W (.UnaryOp .USub a pos) (r1 negD ra) := se_un un_neg sop_neg ha

/-! ### order -/
def lt2 (a b : List Nat) : Bool := decide (a < b)
def ltD : Op2 := fun _ x y => match x, y with
  | .int i, .int j => some (.bl (decide (i < j)))
  | .str s, .str t => some (.bl (lt2 s t))
  | _, _ => none
def leD : Op2 := fun _ x y => match x, y with
  | .int i, .int j => some (.bl (decide (i ≤ j)))
  | .str s, .str t => some (.bl (!lt2 t s))
  | _, _ => none
def gtD : Op2 := fun _ x y => match x, y with
  | .int i, .int j => some (.bl (decide (j < i)))
  | .str s, .str t => some (.bl (lt2 t s))
  | _, _ => none
def geD : Op2 := fun _ x y => match x, y with
  | .int i, .int j => some (.bl (decide (j ≤ i)))
  | .str s, .str t => some (.bl (!lt2 s t))
  | _, _ => none
theorem sop_lt : SOp Y X (compareOp .Lt) ltD := ⟨_, op_lt.or op_lt_str, fun F ρ S H x y dx dy d Q R rx ry e k => by
  cases rx <;> cases ry <;> try (cases e; done)
  · cases e; exact .inl ⟨_, _, rfl, rfl, now_bl R k⟩
  · cases e; exact .inr ⟨_, _, rfl, rfl, now_bl R k⟩⟩
theorem sop_le : SOp Y X (compareOp .LtE) leD := ⟨_, op_le.or op_le_str, fun F ρ S H x y dx dy d Q R rx ry e k => by
  cases rx <;> cases ry <;> try (cases e; done)
  · cases e; exact .inl ⟨_, _, rfl, rfl, now_bl R k⟩
  · cases e; exact .inr ⟨_, _, rfl, rfl, now_bl R k⟩⟩
theorem sop_gt : SOp Y X (compareOp .Gt) gtD := ⟨_, op_gt.or op_gt_str, fun F ρ S H x y dx dy d Q R rx ry e k => by
  cases rx <;> cases ry <;> try (cases e; done)
  · cases e; exact .inl ⟨_, _, rfl, rfl, now_bl R k⟩
  · cases e; exact .inr ⟨_, _, rfl, rfl, now_bl R k⟩⟩
theorem sop_ge : SOp Y X (compareOp .GtE) geD := ⟨_, op_ge.or op_ge_str, fun F ρ S H x y dx dy d Q R rx ry e k => by
  cases rx <;> cases ry <;> try (cases e; done)
  · cases e; exact .inl ⟨_, _, rfl, rfl, now_bl R k⟩
  · cases e; exact .inr ⟨_, _, rfl, rfl, now_bl R k⟩⟩
/-- tuples of whole numbers -/
def intsOf : List D → Option (List Int)
  | [] => some []
  | .int i :: ds => (intsOf ds).map (i :: ·)
  | _ :: _ => none
theorem ints_rd {F : Hp} {ρ : List Addr} : ∀ {ds : List D} {xs : List V} {ns : List Int}, RDs K F ρ xs ds → intsOf ds = some ns → xs = ns.map V.int
  | [], _, _, h, e => by cases h; cases e; rfl
  | d :: ds, _, ns, h, e => by
    cases h with
    | cons h1 h2 =>
      cases h1 with
      | int i =>
        have e : (intsOf ds).map (i :: ·) = some ns := e
        cases e2 : intsOf ds with
        | none => rw [e2] at e; cases e
        | some ms =>
          rw [e2] at e
          cases e
          simp [ints_rd h2 e2]
      | _ => cases e
def ltTD : Op2 := fun _ x y => match x, y with
  | .tup xs, .tup ys => match intsOf xs, intsOf ys with
    | some ns, some ms => some (.bl (HT.lexLt ns ms))
    | _, _ => none
  | _, _ => none
theorem sop_ltT {k : Nat} {W : WX} (C : Ok X W k) : SOp Y X (compareOp .Lt) ltTD := ⟨_, op_ltT C.room.units0, fun F ρ S H x y dx dy d Q R rx ry e k => by
  cases rx <;> cases ry <;> try (cases e; done)
  rename_i a xs ds h1 h2 b ys es g1 g2
  have e : (match intsOf ds, intsOf es with
    | some ns, some ms => some (D.bl (HT.lexLt ns ms))
    | _, _ => none) = some d := e
  cases e1 : intsOf ds with
  | none => rw [e1] at e; cases e
  | some ns =>
    cases e2 : intsOf es with
    | none => rw [e1, e2] at e; cases e
    | some ms =>
      rw [e1, e2] at e; cases e
      have q1 := ints_rd h2 e1
      have q2 := ints_rd g2 e2
      subst q1; subst q2
      exact ⟨_, _, ns, ms, rfl, rfl, ex_t R.ex h1, ex_t R.ex g1, now_bl R k⟩⟩

/-! ### is, in -/
def isD : Op2 := fun _ x y => match x, y with
  | .bl a, .bl b => some (.bl (decide (a = b)))
  | .non, .non => some (.bl true)
  | .bl _, .non => some (.bl false)
  | .int _, .non => some (.bl false)
  | .str _, .non => some (.bl false)
  | .lst _, .non => some (.bl false)
  | .tup _, .non => some (.bl false)
  | .loc _, .non => some (.bl false)
  | _, _ => none
def isnD : Op2 := fun _ x y => match x, y with
  | .bl a, .bl b => some (.bl (!decide (a = b)))
  | .non, .non => some (.bl false)
  | .bl _, .non => some (.bl true)
  | .int _, .non => some (.bl true)
  | .str _, .non => some (.bl true)
  | .lst _, .non => some (.bl true)
  | .tup _, .non => some (.bl true)
  | .loc _, .non => some (.bl true)
  | _, _ => none
theorem sop_is : SOp Y X (compareOp .Is) isD := ⟨_, op_isBl.or op_isN, fun F ρ S H x y dx dy d Q R rx ry e k => by
  cases rx <;> cases ry <;> first
    | (cases e; done)
    | (cases e; exact .inl ⟨_, _, rfl, rfl, now_bl R k⟩)
    | (cases e; exact .inr ⟨rfl, now_bl R k⟩)⟩
theorem sop_isn : SOp Y X (compareOp .IsNot) isnD := ⟨_, op_notBl.or op_notN, fun F ρ S H x y dx dy d Q R rx ry e k => by
  cases rx <;> cases ry <;> first
    | (cases e; done)
    | (cases e; exact .inl ⟨_, _, rfl, rfl, now_bl R k⟩)
    | (cases e; exact .inr ⟨rfl, now_bl R k⟩)⟩
def inD : Op2 := fun S x y => match x, y with
  | .str [c], .str s => some (.bl (decide (c ∈ s)))
  | _, _ => none
theorem sop_inS : SOp Y X (compareOp .In) inD := ⟨_, op_in_sign, fun F ρ S H x y dx dy d Q R rx ry e k => by
  cases rx <;> cases ry <;> try (simp [inD] at e; done)
  rename_i t ht s hs
  match t, e, ht with
  | [c], e, ht =>
    cases e
    exact ⟨c, tx s, rfl, rfl, now_bl R k⟩
  | [], e, _ => simp [inD] at e
  | _ :: _ :: _, e, _ => simp [inD] at e⟩
end
end L3
set_option Elab.async false
set_option linter.all false
set_option maxRecDepth 100000
set_option maxHeartbeats 2000000
/-! subscripts, slices, built-ins, methods, stores into lists -/
namespace L2
open PySem PySem.Spec PyProof.Rows
section
variable {X : Cx}
theorem get_list : PGet X (rIxL X.K) := by
  intro pins s σ H x y v u Q I rx ry h
  obtain ⟨p, xs, i, z, rfl, rfl, hq, he, q⟩ := h
  cases rx
  obtain ⟨t, rfl⟩ := ry
  obtain ⟨its, r, pl, hz⟩ := I.list hq
  obtain ⟨j, h1, h2, h3, h4, h5⟩ := atI_get he
  obtain ⟨w, ew, rw'⟩ := r.get h2
  have hl := r.length
  have hn := line63
  have fin : EP X pins σ Q w s := ⟨z, H, I, rw', q⟩
  by_cases h0 : 0 ≤ i
  · have hj : i.toNat = j := by
      rw [seqIndex_of h0 h5] at h1
      exact Option.some.inj h1
    exact wpAny_getItem_list pl.isList h0 (by omega) (by rw [hj]; simpa using ew) fin
  · have hj : (i + (its.toArray.size : Int)).toNat = j := by
      rw [seqIndex_neg (by omega) h4] at h1
      rw [List.size_toArray, ← hl]
      exact Option.some.inj h1
    exact wpAny_getItem_list_neg pl.isList (by omega) (by rw [List.size_toArray] <;> omega) (by omega) (by rw [hj]; simpa using ew) fin
theorem pip_of {op : Operator} {r : R2} (h : OpR X (inplaceOp op) r) : PIp X op r := fun pins s σ H x y v u Q I rx ry q => h pins s σ H x y v u Q I rx ry q
end
end L2
namespace L3
open PySem PySem.Spec L2
section
variable {Y : Pc} {X : Cx} {W : WX} {a b c e : Expr} {es : List Expr} {ra rb rc : Ev → Store → Res D} {rs : Ev → Store → Res (List D)} {pos : Pos} {K : PySem.W.Frag} {F H : Hp} {ρ : List Addr} {S : Store}
theorem RDs.at {xs : List V} {ds : List D} {i : Int} {d : D} (r : RDs K F ρ xs ds) (h : atI ds i = some d) : ∃ v, atI xs i = some v ∧ RD K F ρ v d := by
  unfold atI at h ⊢
  rw [r.length]
  cases e : ixN ds.length i with
  | none => rw [e] at h; cases h
  | some j =>
    rw [e] at h
    obtain ⟨v, h1, h2⟩ := r.get (show ds[j]? = some d from h)
    exact ⟨v, h1, h2⟩
/-- the items of a list, standing or in the store -/
def seqD (S : Store) : D → Option (List D)
  | .lst ds => some ds
  | .loc i => match S[i]? with
    | some (.lst ds) => some ds
    | _ => none
  | _ => none
theorem seq_rd {x : V} {d : D} {ds : List D} (R : SR K Y F ρ S H) (r : RD K F ρ x d) (h : seqD S d = some ds) : ∃ (a : Addr) (xs : List V), x = .ref a ∧ H a = some (.lst xs) ∧ RDs K F ρ xs ds := by
  cases r with
  | lst h1 h2 => cases h; exact ⟨_, _, rfl, R.ex _ _ h1, h2⟩
  | loc h1 =>
    rename_i i p
    unfold seqD at h
    dsimp only at h
    cases e : S[i]? with
    | none => rw [e] at h; cases h
    | some c =>
      rw [e] at h
      cases c with
      | lst ds' =>
        cases h
        obtain ⟨_, xs, q1, q2⟩ := R.cell i p _ h1 e
        exact ⟨p, xs, rfl, q1, q2⟩
      | _ => cases h
  | _ => cases h
def ixD : Op2 := fun S x y => match y with
  | .int i => match x with
    | .tup ds => atI ds i
    | .str s => if s.length ≤ 100000 then (atI s i).map fun c => .str [c] else none
    | x => (seqD S x).bind fun ds => atI ds i
  | _ => none
theorem atI_mem {α : Type} {xs : List α} {i : Int} {x : α} (h : atI xs i = some x) : x ∈ xs := by
  unfold atI at h
  cases e : ixN xs.length i with
  | none => rw [e] at h; cases h
  | some j => rw [e] at h; exact List.mem_of_getElem? h
theorem ixD_list {x : V} {dx d : D} {i : Int} {Q : VK} (R : SR K Y F ρ S H) (rx : RD K F ρ x dx) (e : ((seqD S dx).bind fun ds => atI ds i) = some d) (k : ∀ F' H' u, SR K Y F' ρ S H' → Nx F ρ H F' ρ H' → RD K F' ρ u d → Q u H') : rIxL K x (.int i) H Q := by
  cases e1 : seqD S dx with
  | none => rw [e1] at e; cases e
  | some ds =>
    rw [e1] at e
    obtain ⟨p, xs, rfl, hp, hx⟩ := seq_rd R rx e1
    obtain ⟨v, h1, h2⟩ := hx.at e
    exact ⟨p, xs, i, v, rfl, rfl, SqL.of hp, h1, k F H v R (Nx.refl _ _ _) h2⟩
theorem six : SIx Y X ixD := ⟨_, ix_seq, fun F ρ S H x y dx dy d Q R rx ry e k => by
  cases ry with
  | int i =>
    cases rx with
    | tup h1 h2 =>
      obtain ⟨v, q1, q2⟩ := h2.at e
      exact .inr (.inl ⟨_, _, _, v, rfl, rfl, ex_t R.ex h1, q1, k F H v R (Nx.refl _ _ _) q2⟩)
    | str s hs =>
      have e : (if s.length ≤ 100000 then (atI s i).map fun c => D.str [c] else none) = some d := e
      by_cases h : s.length ≤ 100000
      · rw [if_pos h] at e
        cases e1 : atI s i with
        | none => rw [e1] at e; cases e
        | some c =>
          rw [e1] at e; cases e
          refine .inr (.inr ⟨tx s, i, c, rfl, rfl, by rw [tx_len]; exact small _ h, e1, ?_⟩)
          exact now_str R (fun c' hc => by rw [List.mem_singleton.mp hc]; exact hs _ (atI_mem e1)) k
      · rw [if_neg h] at e; cases e
    | lst h1 h2 => exact .inl (ixD_list R (.lst h1 h2) e k)
    | loc h1 => exact .inl (ixD_list R (.loc h1) e k)
    | _ => cases e
  | _ => cases e⟩

/-! slices -/
def slD : OpSl := fun S x lo hi => match x with
  | .str s => if s.length ≤ 100000 then some (.str ((s.drop (HT.sIx s.length 0 lo)).take (HT.sIx s.length s.length hi - HT.sIx s.length 0 lo))) else none
  | .tup ds => some (.tup ((ds.drop (HT.sIx ds.length 0 lo)).take (HT.sIx ds.length ds.length hi - HT.sIx ds.length 0 lo)))
  | x => (seqD S x).bind fun ds => some (.lst ((ds.drop (HT.sIx ds.length 0 lo)).take (HT.sIx ds.length ds.length hi - HT.sIx ds.length 0 lo)))
theorem cutS_tx (s : List Nat) (lo hi : Option Int) : cutS (tx s) lo hi = tx ((s.drop (HT.sIx s.length 0 lo)).take (HT.sIx s.length s.length hi - HT.sIx s.length 0 lo)) := by
  unfold cutS
  rw [tx_len]
theorem sl_list_ok {x : V} {dx d : D} {lo hi : Option Int} {Q : VK} (R : SR K Y F ρ S H) (rx : RD K F ρ x dx) (e : ((seqD S dx).bind fun ds => some (D.lst ((ds.drop (HT.sIx ds.length 0 lo)).take (HT.sIx ds.length ds.length hi - HT.sIx ds.length 0 lo)))) = some d)
    (k : ∀ F' H' u, SR K Y F' ρ S H' → Nx F ρ H F' ρ H' → RD K F' ρ u d → Q u H') : rSlL K x lo hi H Q := by
  cases e1 : seqD S dx with
  | none => rw [e1] at e; cases e
  | some ds =>
    rw [e1] at e; cases e
    obtain ⟨p, xs, rfl, hp, hx⟩ := seq_rd R rx e1
    refine ⟨p, xs, rfl, SqL.of hp, fun q hq => ?_⟩
    refine now_lst R ?_ hq k
    unfold cutV
    rw [hx.length]
    exact (hx.drop _).take _
theorem ssl : SSl Y X slD := ⟨_, sl_str.or (sl_tupA.or sl_list), fun F ρ S H x dx d lo hi Q R rx e k => by
  cases rx with
  | str s hs =>
    have e : (if s.length ≤ 100000 then some (D.str ((s.drop (HT.sIx s.length 0 lo)).take (HT.sIx s.length s.length hi - HT.sIx s.length 0 lo))) else none) = some d := e
    by_cases h : s.length ≤ 100000
    · rw [if_pos h] at e; cases e
      refine .inl ⟨tx s, rfl, by rw [tx_len]; exact small _ h, ?_⟩
      rw [cutS_tx]
      exact now_str R (fun c hc => hs c (List.mem_of_mem_drop (List.mem_of_mem_take hc))) k
    · rw [if_neg h] at e; cases e
  | tup h1 h2 =>
    rename_i p xs ds
    cases e
    have r2 : RDs X.K F ρ (cutV xs lo hi) ((ds.drop (HT.sIx ds.length 0 lo)).take (HT.sIx ds.length ds.length hi - HT.sIx ds.length 0 lo)) := by
      unfold cutV
      rw [h2.length]
      exact (h2.drop _).take _
    refine .inr (.inl ⟨p, xs, rfl, ex_t R.ex h1, fun q => ?_, fun _ q hq => now_tup R r2 hq k⟩)
    have e2 : cutV xs lo hi = xs := by
      unfold cutV
      rw [q.1, q.2]
      simp
    rw [e2] at r2
    exact k F H _ R (Nx.refl _ _ _) (.tup h1 r2)
  | lst h1 h2 => exact .inr (.inr (sl_list_ok R (.lst h1 h2) e k))
  | loc h1 => exact .inr (.inr (sl_list_ok R (.loc h1) e k))
  | _ => cases e⟩

/-! ### built-ins -/
def lenD : OpN := fun S xs => match xs with
  | [.str s] => if s.length ≤ 100000 then some (.int s.length) else none
  | [.tup ds] => some (.int ds.length)
  | [.scr ns] => some (.int ns.length)
  | [x] => (seqD S x).bind fun ds => some (.int ds.length)
  | _ => none
theorem scall_len : SCall Y X (.builtin "len") lenD := ⟨_, call_len, fun F ρ S H xs ds d Q R rx e k => by
  match ds, rx, e with
  | [.str s], .cons (.str _ hs) .nil, e =>
    have e : (if s.length ≤ 100000 then some (D.int s.length) else none) = some d := e
    by_cases h : s.length ≤ 100000
    · rw [if_pos h] at e; cases e
      exact ⟨_, s.length, rfl, ⟨by rw [tx_len]; exact small _ h, (tx_len s).symm⟩, now_int R k⟩
    · rw [if_neg h] at e; cases e
  | [.tup ds], .cons (.tup h1 h2) .nil, e =>
    cases e
    exact ⟨_, ds.length, rfl, Or.inr ⟨_, ex_t R.ex h1, h2.length.symm⟩, now_int R k⟩
  | [.scr ns], .cons (.scr h1) .nil, e =>
    cases e
    exact ⟨_, ns.length, rfl, Or.inl ⟨_, ex_l R.ex h1, by simp⟩, now_int R k⟩
  | [.lst ds], .cons (.lst h1 h2) .nil, e =>
    cases e
    exact ⟨_, ds.length, rfl, Or.inl ⟨_, SqL.of (R.ex _ _ h1), h2.length.symm⟩, now_int R k⟩
  | [.loc i], .cons r .nil, e =>
    have e : ((seqD S (.loc i)).bind fun ds => some (D.int ds.length)) = some d := e
    cases e1 : seqD S (.loc i) with
    | none => rw [e1] at e; cases e
    | some ds =>
      rw [e1] at e; cases e
      obtain ⟨p, xs, rfl, hp, hx⟩ := seq_rd R r e1
      exact ⟨_, ds.length, rfl, Or.inl ⟨_, SqL.of hp, hx.length.symm⟩, now_int R k⟩
  | [.non], _, e => cases e
  | [.dct _ _], _, e => cases e
  | [.bl _], _, e => cases e
  | [.int _], _, e => cases e⟩
def ordD : OpN := fun _ xs => match xs with
  | [.str [c]] => some (.int c)
  | _ => none
theorem scall_ord : SCall Y X (.builtin "ord") ordD := ⟨_, call_ord, fun F ρ S H xs ds d Q R rx e k => by
  match ds, rx, e with
  | [.str [c]], .cons r .nil, e =>
    cases r with
    | str _ hs =>
      cases e
      exact ⟨tx [c], rfl, rfl, now_int R k⟩⟩
/-- int(x) of an int, a bool, a text of figures -/
def digV (s : List Nat) : Nat := s.foldl (fun acc c => acc * 10 + (c - 48)) 0
def figs (s : List Nat) : Bool := !s.isEmpty && s.all fun c => decide (48 ≤ c ∧ c ≤ 57)
def intD : OpN := fun _ xs => match xs with
  | [.int i] => some (.int i)
  | [.bl k] => some (.int (if k then 1 else 0))
  | [.str s] => if figs s = true ∧ s.length ≤ 640 then some (.int (digV s)) else none
  | _ => none
theorem intText_figs {s : List Nat} (h : figs s = true) (hl : s.length ≤ 640) : PySem.intText? (tx s) = some ((digV s : Nat) : Int) := by
  unfold figs at h
  simp only [Bool.and_eq_true, Bool.not_eq_true', List.all_eq_true, decide_eq_true_eq] at h
  exact PySem.intText_digits (x := tx s) (fun c hc => h.2 c hc) (fun e => by
    have e : s = [] := e
    subst e
    exact absurd h.1 (by decide)) (by rw [tx_len]; omega)
theorem scall_int : SCall Y X (.type "int") intD := ⟨_, call_int1.or call_int_str, fun F ρ S H xs ds d Q R rx e k => by
  match ds, rx, e with
  | [.int i], .cons (.int _) .nil, e =>
    cases e
    exact .inl (.inl ⟨i, rfl, now_int R k⟩)
  | [.bl b], .cons (.bl _) .nil, e =>
    cases e
    exact .inl (.inr ⟨b, rfl, now_int R k⟩)
  | [.str s], .cons (.str _ hs) .nil, e =>
    have e : (if figs s = true ∧ s.length ≤ 640 then some (D.int (digV s)) else none) = some d := e
    by_cases h : figs s = true ∧ s.length ≤ 640
    · rw [if_pos h] at e; cases e
      exact .inr ⟨tx s, _, rfl, intText_figs h.1 h.2, by rw [tx_len]; exact h.2, now_int R k⟩
    · rw [if_neg h] at e; cases e⟩
def listD : OpN := fun S xs => match xs with
  | [.tup ds] => some (.lst ds)
  | [.scr ns] => some (.lst (ns.map .int))
  | [x] => (seqD S x).map .lst
  | _ => none
theorem rd_ints : ∀ ns : List Int, RDs K F ρ (ns.map V.int) (ns.map D.int)
  | [] => .nil
  | n :: ns => .cons (.int n) (rd_ints ns)
theorem scall_list : SCall Y X (.type "list") listD := ⟨_, call_list_of, fun F ρ S H xs ds d Q R rx e k => by
  match ds, rx, e with
  | [.tup ds], .cons (.tup h1 h2) .nil, e =>
    cases e
    exact ⟨_, _, rfl, Or.inr (ex_t R.ex h1), fun l hl => now_lst R h2 hl k⟩
  | [.scr ns], .cons (.scr h1) .nil, e =>
    cases e
    exact ⟨_, _, rfl, Or.inl (ex_l R.ex h1), fun l hl => now_lst R (rd_ints ns) hl k⟩
  | [.lst ds], .cons (.lst h1 h2) .nil, e =>
    cases e
    exact ⟨_, _, rfl, Or.inl (SqL.of (R.ex _ _ h1)), fun l hl => now_lst R h2 hl k⟩
  | [.loc i], .cons r .nil, e =>
    have e : (seqD S (.loc i)).map D.lst = some d := e
    cases e1 : seqD S (.loc i) with
    | none => rw [e1] at e; cases e
    | some ds =>
      rw [e1] at e; cases e
      obtain ⟨p, xs, rfl, hp, hx⟩ := seq_rd R r e1
      exact ⟨_, _, rfl, Or.inl (SqL.of hp), fun l hl => now_lst R hx hl k⟩
  | [.non], _, e => cases e
  | [.dct _ _], _, e => cases e
  | [.bl _], _, e => cases e
  | [.int _], _, e => cases e
  | [.str _], _, e => cases e⟩
def tupleD : OpN := fun S xs => match xs with
  | [.tup ds] => some (.tup ds)
  | [x] => (seqD S x).map .tup
  | _ => none
theorem scall_tuple : SCall Y X (.type "tuple") tupleD := ⟨_, call_tuple_of, fun F ρ S H xs ds d Q R rx e k => by
  match ds, rx, e with
  | [.tup ds], .cons (.tup h1 h2) .nil, e =>
    cases e
    exact ⟨_, _, rfl, Or.inr ⟨ex_t R.ex h1, k F H _ R (Nx.refl _ _ _) (.tup h1 h2)⟩⟩
  | [.lst ds], .cons (.lst h1 h2) .nil, e =>
    cases e
    exact ⟨_, _, rfl, Or.inl ⟨SqL.of (R.ex _ _ h1), fun l hl => now_tup R h2 hl k⟩⟩
  | [.loc i], .cons r .nil, e =>
    have e : (seqD S (.loc i)).map D.tup = some d := e
    cases e1 : seqD S (.loc i) with
    | none => rw [e1] at e; cases e
    | some ds =>
      rw [e1] at e; cases e
      obtain ⟨p, xs, rfl, hp, hx⟩ := seq_rd R r e1
      exact ⟨_, _, rfl, Or.inl ⟨SqL.of hp, fun l hl => now_tup R hx hl k⟩⟩
  | [.non], _, e => cases e
  | [.dct _ _], _, e => cases e
  | [.bl _], _, e => cases e
  | [.int _], _, e => cases e
  | [.str _], _, e => cases e
  | [.scr _], _, e => cases e⟩
def blsOf : List D → Option (List Bool)
  | [] => some []
  | .bl i :: ds => (blsOf ds).map (i :: ·)
  | _ :: _ => none
theorem bls_rd : ∀ {ds : List D} {xs : List V} {ns : List Bool}, RDs K F ρ xs ds → blsOf ds = some ns → xs = ns.map V.bl
  | [], _, _, h, e => by cases h; cases e; rfl
  | d :: ds, _, ns, h, e => by
    cases h with
    | cons h1 h2 =>
      cases h1 with
      | bl i =>
        have e : (blsOf ds).map (i :: ·) = some ns := e
        cases e2 : blsOf ds with
        | none => rw [e2] at e; cases e
        | some ms =>
          rw [e2] at e
          cases e
          simp [bls_rd h2 e2]
      | _ => cases e
def allD : OpN := fun S xs => match xs with
  | [.lst ds] => (blsOf ds).map fun bs => .bl (bs.all id)
  | _ => none
theorem scall_all {k : Nat} (C : Ok X W k) : SCall Y X (.builtin "all") allD := ⟨_, cr_all C.calm, fun F ρ S H xs ds d Q R rx e k => by
  match ds, rx, e with
  | [.lst ds], .cons (.lst h1 h2) .nil, e =>
    have e : (blsOf ds).map (fun bs => D.bl (bs.all id)) = some d := e
    cases e1 : blsOf ds with
    | none => rw [e1] at e; cases e
    | some bs =>
      rw [e1] at e; cases e
      have q := bls_rd h2 e1
      subst q
      exact ⟨_, bs, rfl, SqL.of (R.ex _ _ h1), now_bl R k⟩⟩
def min2D : OpN := fun _ xs => match xs with
  | [.int i, .int j] => some (.int (if j < i then j else i))
  | _ => none
theorem scall_min2 {k : Nat} (C : Ok X W k) : SCall Y X (.builtin "min") min2D := ⟨_, call_min2 C.calm, fun F ρ S H xs ds d Q R rx e k => by
  match ds, rx, e with
  | [.int i, .int j], .cons (.int _) (.cons (.int _) .nil), e =>
    cases e
    exact ⟨i, j, rfl, now_int R k⟩⟩
def sortedSD : OpN := fun _ xs => match xs with
  | _ => none

/-! ### methods of texts -/
def tyStr : Store → D → Bool := fun _ x => match x with
  | .str _ => true
  | _ => false
theorem tyStr_ok : TyOk K Y "str" tyStr := fun F ρ S H x dx R rx h => by
  cases rx <;> first | (cases h; done) | rfl
def asc (s : List Nat) : Bool := s.all fun c => decide (c < 128)
theorem asc_tx {s : List Nat} (h : asc s = true) : ∀ c ∈ (tx s).cps.toList, c < 128 := fun c hc => of_decide_eq_true (List.all_eq_true.mp h c hc)
def loA (c : Nat) : Nat := if 65 ≤ c ∧ c ≤ 90 then c + 32 else c
def upA (c : Nat) : Nat := if 97 ≤ c ∧ c ≤ 122 then c - 32 else c
theorem lo1_A : ∀ c, c < 128 → PyProof.Rows.lo1 c = loA c := by decide +kernel
theorem up1_A : ∀ c, c < 128 → PyProof.Rows.up1 c = upA c := by decide +kernel
theorem map_eq_of {s : List Nat} {f g : Nat → Nat} (h : ∀ c ∈ s, f c = g c) : s.map f = s.map g := List.map_congr_left h
theorem lower_tx {s : List Nat} (h : asc s = true) : Txt.lower (tx s) = tx (s.map loA) := by
  rw [PyProof.Rows.lower_ascii (asc_tx h)]
  refine Str.ext' ?_
  show s.toArray.map _ = (s.map loA).toArray
  rw [List.map_toArray]
  refine congrArg List.toArray ?_
  exact map_eq_of fun c hc => lo1_A c (asc_tx h c hc)
theorem upper_tx {s : List Nat} (h : asc s = true) : Txt.upper (tx s) = tx (s.map upA) := by
  rw [PyProof.Rows.upper_ascii (asc_tx h)]
  refine Str.ext' ?_
  show s.toArray.map _ = (s.map upA).toArray
  rw [List.map_toArray]
  refine congrArg List.toArray ?_
  exact map_eq_of fun c hc => up1_A c (asc_tx h c hc)
def lowerD : OpM := fun S x xs => match x, xs with
  | .str s, [] => if asc s = true ∧ s.length ≤ 100000 then some (.str (s.map loA), S) else none
  | _, _ => none
def upperD : OpM := fun S x xs => match x, xs with
  | .str s, [] => if asc s = true ∧ s.length ≤ 100000 then some (.str (s.map upA), S) else none
  | _, _ => none
theorem okT_asc {s : List Nat} (h : ∀ c ∈ s, c < 1000) : OkT s := fun c hc => Nat.lt_trans (h c hc) (by decide)
theorem smt_lower : SMt Y X "str" "str.lower" tyStr lowerD := ⟨⟨_, mt_lower, fun F ρ S S' H x dx d xs ds Q R rx rxs e k => by
  cases rx <;> cases rxs <;> try (simp [lowerD] at e; done)
  rename_i s hs
  have e : (if asc s = true ∧ s.length ≤ 100000 then some (D.str (s.map loA), S) else none) = some (d, S') := e
  by_cases h : asc s = true ∧ s.length ≤ 100000
  · rw [if_pos h] at e; cases e
    refine ⟨tx s, rfl, rfl, by rw [tx_len]; omega, ?_⟩
    rw [lower_tx h.1]
    refine now_str R (okT_asc fun c hc => ?_) k
    obtain ⟨c', h1, rfl⟩ := List.mem_map.mp hc
    have := asc_tx h.1 c' h1
    unfold loA
    split <;> omega
  · rw [if_neg h] at e; cases e⟩, tyStr_ok⟩
theorem smt_upper : SMt Y X "str" "str.upper" tyStr upperD := ⟨⟨_, mt_upper, fun F ρ S S' H x dx d xs ds Q R rx rxs e k => by
  cases rx <;> cases rxs <;> try (simp [upperD] at e; done)
  rename_i s hs
  have e : (if asc s = true ∧ s.length ≤ 100000 then some (D.str (s.map upA), S) else none) = some (d, S') := e
  by_cases h : asc s = true ∧ s.length ≤ 100000
  · rw [if_pos h] at e; cases e
    refine ⟨tx s, rfl, rfl, by rw [tx_len]; omega, ?_⟩
    rw [upper_tx h.1]
    refine now_str R (okT_asc fun c hc => ?_) k
    obtain ⟨c', h1, rfl⟩ := List.mem_map.mp hc
    have := asc_tx h.1 c' h1
    unfold upA
    split <;> omega
  · rw [if_neg h] at e; cases e⟩, tyStr_ok⟩
def isDig (c : Nat) : Bool := decide (48 ≤ c ∧ c ≤ 57)
def isUp (c : Nat) : Bool := decide (65 ≤ c ∧ c ≤ 90)
def isLo (c : Nat) : Bool := decide (97 ≤ c ∧ c ≤ 122)
def isdigitD : OpM := fun S x xs => match x, xs with
  | .str s, [] => if asc s = true then some (.bl (!s.isEmpty && s.all isDig), S) else none
  | _, _ => none
def isalphaD : OpM := fun S x xs => match x, xs with
  | .str s, [] => if asc s = true then some (.bl (!s.isEmpty && s.all fun c => isUp c || isLo c), S) else none
  | _, _ => none
def isupperD : OpM := fun S x xs => match x, xs with
  | .str s, [] => if asc s = true then some (.bl (s.any isUp && !s.any isLo), S) else none
  | _, _ => none
theorem dig_A : ∀ c, c < 128 → Unicode.isDigit c = isDig c := by decide +kernel
theorem alpha_A : ∀ c, c < 128 → Unicode.isAlpha c = (isUp c || isLo c) := by decide +kernel
theorem up_A : ∀ c, c < 128 → Unicode.isUpper c = isUp c := by decide +kernel
theorem lo_A : ∀ c, c < 128 → (Unicode.isLower c || Unicode.isTitle c) = isLo c := by decide +kernel
theorem all_eq_of {s : List Nat} {f g : Nat → Bool} (h : ∀ c ∈ s, f c = g c) : s.all f = s.all g := by
  induction s with
  | nil => rfl
  | cons c s ih => simp only [List.all_cons, h c List.mem_cons_self, ih fun c hc => h c (List.mem_cons_of_mem _ hc)]
theorem any_eq_of {s : List Nat} {f g : Nat → Bool} (h : ∀ c ∈ s, f c = g c) : s.any f = s.any g := by
  induction s with
  | nil => rfl
  | cons c s ih => simp only [List.any_cons, h c List.mem_cons_self, ih fun c hc => h c (List.mem_cons_of_mem _ hc)]
theorem ne_len (s : List Nat) : decide ((tx s).length > 0) = !s.isEmpty := by
  rw [tx_len]
  cases s <;> simp
theorem smt_isdigit : SMt Y X "str" "str.isdigit" tyStr isdigitD := ⟨⟨_, mt_isdigit, fun F ρ S S' H x dx d xs ds Q R rx rxs e k => by
  cases rx <;> cases rxs <;> try (simp [isdigitD] at e; done)
  rename_i s hs
  have e : (if asc s = true then some (D.bl (!s.isEmpty && s.all isDig), S) else none) = some (d, S') := e
  by_cases h : asc s = true
  · rw [if_pos h] at e; cases e
    refine ⟨tx s, rfl, rfl, trivial, ?_⟩
    have q : Txt.isdigit (tx s) = (!s.isEmpty && s.all isDig) := by
      unfold Txt.isdigit
      rw [ne_len, ← all_eq_of fun c hc => dig_A c (asc_tx h c hc)]
      simp
    rw [q]
    exact now_bl R k
  · rw [if_neg h] at e; cases e⟩, tyStr_ok⟩
theorem smt_isalpha : SMt Y X "str" "str.isalpha" tyStr isalphaD := ⟨⟨_, mt_isalpha, fun F ρ S S' H x dx d xs ds Q R rx rxs e k => by
  cases rx <;> cases rxs <;> try (simp [isalphaD] at e; done)
  rename_i s hs
  have e : (if asc s = true then some (D.bl (!s.isEmpty && s.all fun c => isUp c || isLo c), S) else none) = some (d, S') := e
  by_cases h : asc s = true
  · rw [if_pos h] at e; cases e
    refine ⟨tx s, rfl, rfl, trivial, ?_⟩
    have q : Txt.isalpha (tx s) = (!s.isEmpty && s.all fun c => isUp c || isLo c) := by
      unfold Txt.isalpha
      rw [ne_len, ← all_eq_of fun c hc => alpha_A c (asc_tx h c hc)]
      simp
    rw [q]
    exact now_bl R k
  · rw [if_neg h] at e; cases e⟩, tyStr_ok⟩
theorem smt_isupper : SMt Y X "str" "str.isupper" tyStr isupperD := ⟨⟨_, mt_isupper, fun F ρ S S' H x dx d xs ds Q R rx rxs e k => by
  cases rx <;> cases rxs <;> try (simp [isupperD] at e; done)
  rename_i s hs
  have e : (if asc s = true then some (D.bl (s.any isUp && !s.any isLo), S) else none) = some (d, S') := e
  by_cases h : asc s = true
  · rw [if_pos h] at e; cases e
    refine ⟨tx s, rfl, rfl, trivial, ?_⟩
    have q : Txt.isupper (tx s) = (s.any isUp && !s.any isLo) := by
      unfold Txt.isupper
      rw [← any_eq_of fun c hc => up_A c (asc_tx h c hc), ← any_eq_of fun c hc => lo_A c (asc_tx h c hc)]
      simp
    rw [q]
    exact now_bl R k
  · rw [if_neg h] at e; cases e⟩, tyStr_ok⟩

/-! ### lists that are written -/
def tyList : Store → D → Bool := fun S x => (seqD S x).isSome
theorem tyList_ok : TyOk K Y "list" tyList := fun F ρ S H x dx R rx h => by
  unfold tyList at h
  cases e : seqD S dx with
  | none => rw [e] at h; cases h
  | some ds =>
    obtain ⟨p, xs, rfl, hp, hx⟩ := seq_rd R rx e
    exact .inl ⟨rfl, xs, SqL.of hp⟩
/-- a list of the store -/
theorem cell_rd {i : Nat} {x : V} {ds : List D} (R : SR K Y F ρ S H) (r : RD K F ρ x (.loc i)) (h : S[i]? = some (.lst ds)) : ∃ (a : Addr) (xs : List V), x = .ref a ∧ ρ[i]? = some a ∧ F a = none ∧ H a = some (.lst xs) ∧ RDs K F ρ xs ds := by
  cases r with
  | loc h1 =>
    obtain ⟨q0, xs, q1, q2⟩ := R.cell i _ _ h1 h
    exact ⟨_, xs, rfl, h1, q0, q1, q2⟩
theorem SR.wlst {i : Nat} {a : Addr} {xs : List V} {ds : List D} (R : SR K Y F ρ S H) (hi : ρ[i]? = some a) (fa : F a = none) (r : RDs K F ρ xs ds) : SR K Y F ρ (S.set i (.lst ds)) (upd H a (.lst xs)) ∧ Nx F ρ H F ρ (upd H a (.lst xs)) :=
  R.write hi fa ⟨fa, xs, upd_same, r⟩
theorem now_non {S' : Store} {H' : Hp} {Q : VK} (R : SR K Y F ρ S' H' ∧ Nx F ρ H F ρ H') (k : ∀ F' H' u, SR K Y F' ρ S' H' → Nx F ρ H F' ρ H' → RD K F' ρ u .non → Q u H') : Q .non H' := k F H' _ R.1 R.2 .non
def appendD : OpM := fun S x xs => match x, xs with
  | .loc i, [d] => match S[i]? with
    | some (.lst ds) => if ds.length < 100000 then some (.non, S.set i (.lst (ds ++ [d]))) else none
    | _ => none
  | _, _ => none
theorem smt_append : SMt Y X "list" "list.append" tyList appendD := ⟨⟨_, mt_append, fun F ρ S S' H x dx d xs ds Q R rx rxs e k => by
  match dx, ds, rxs, rx, e with
  | .loc i, [y], .cons ry .nil, rx, e =>
    have e : (match S[i]? with
      | some (.lst ds) => if ds.length < 100000 then some (D.non, S.set i (.lst (ds ++ [y]))) else none
      | _ => none) = some (d, S') := e
    cases e1 : S[i]? with
    | none => rw [e1] at e; cases e
    | some c =>
      rw [e1] at e
      cases c with
      | lst ds =>
        dsimp only at e
        obtain ⟨a, vs, rfl, hi, fa, ha, hx⟩ := cell_rd R rx e1
        by_cases h : ds.length < 100000
        · rw [if_pos h] at e; cases e
          refine ⟨a, vs, _, rfl, rfl, ha, Nat.lt_of_lt_of_le (by rw [hx.length]; exact h) (small 100000 (Nat.le_refl _)), now_non (R.wlst hi fa (hx.snoc ry)) k⟩
        · rw [if_neg h] at e; cases e
      | _ => cases e⟩, tyList_ok⟩
def insertD : OpM := fun S x xs => match x, xs with
  | .loc i, [.int j, d] => match S[i]? with
    | some (.lst ds) => if ds.length < 100000 ∧ 0 ≤ j ∧ j < 100000 then some (.non, S.set i (.lst (ds.take j.toNat ++ [d] ++ ds.drop j.toNat))) else none
    | _ => none
  | _, _ => none
theorem smt_insert : SMt Y X "list" "list.insert" tyList insertD := ⟨⟨_, mt_insert, fun F ρ S S' H x dx d xs ds Q R rx rxs e k => by
  match dx, ds, rxs, rx, e with
  | .loc i, [.int j, y], .cons (.int _) (.cons ry .nil), rx, e =>
    have e : (match S[i]? with
      | some (.lst ds) => if ds.length < 100000 ∧ 0 ≤ j ∧ j < 100000 then some (D.non, S.set i (.lst (ds.take j.toNat ++ [y] ++ ds.drop j.toNat))) else none
      | _ => none) = some (d, S') := e
    cases e1 : S[i]? with
    | none => rw [e1] at e; cases e
    | some c =>
      rw [e1] at e
      cases c with
      | lst ds =>
        dsimp only at e
        obtain ⟨a, vs, rfl, hi, fa, ha, hx⟩ := cell_rd R rx e1
        by_cases h : ds.length < 100000 ∧ 0 ≤ j ∧ j < 100000
        · rw [if_pos h] at e; cases e
          refine ⟨a, vs, j, _, rfl, rfl, ha, Nat.lt_of_lt_of_le (by rw [hx.length]; exact h.1) (small 100000 (Nat.le_refl _)), h.2.1, by omega, now_non (R.wlst hi fa (((hx.take _).snoc ry).append (hx.drop _))) k⟩
        · rw [if_neg h] at e; cases e
      | _ => cases e⟩, tyList_ok⟩
/-- o[i] = v -/
abbrev OpSet := Store → D → D → D → Option Store
def SetOk (K : PySem.W.Frag) (Y : Pc) (g : OpSet) (r : TSet) : Prop := ∀ (F : Hp) (ρ : List Addr) (S S' : Store) (H : Hp) (o i v : V) (dO dI dV : D) (Q : Hp → Prop), SR K Y F ρ S H → RD K F ρ o dO → RD K F ρ i dI → RD K F ρ v dV → g S dO dI dV = some S' →
  (∀ F' H', SR K Y F' ρ S' H' → Nx F ρ H F' ρ H' → Q H') → r o i v H Q
structure SSet (Y : Pc) (X : Cx) (g : OpSet) : Prop where
  ex : ∃ r, PSet X r ∧ SetOk X.K Y g r
def setD : OpSet := fun S o i v => match o, i with
  | .loc j, .int k => match S[j]? with
    | some (.lst ds) => (ixN ds.length k).map fun m => S.set j (.lst (ds.set m v))
    | _ => none
  | _, _ => none
theorem sset_list : SSet Y X setD := ⟨_, set_list, fun F ρ S S' H o i v dO dI dV Q R ro ri rv e k => by
  match dO, dI, ri, ro, e with
  | .loc j, .int m, .int _, ro, e =>
    have e : (match S[j]? with
      | some (.lst ds) => (ixN ds.length m).map fun m => S.set j (.lst (ds.set m dV))
      | _ => none) = some S' := e
    cases e1 : S[j]? with
    | none => rw [e1] at e; cases e
    | some c =>
      rw [e1] at e
      cases c with
      | lst ds =>
        dsimp only at e
        obtain ⟨a, vs, rfl, hi, fa, ha, hx⟩ := cell_rd R ro e1
        cases e2 : ixN ds.length m with
        | none => rw [e2] at e; cases e
        | some q =>
          rw [e2] at e; cases e
          obtain ⟨R2, n2⟩ := R.wlst hi fa (hx.set q rv)
          exact ⟨a, vs, m, q, rfl, rfl, ha, by rw [hx.length]; exact e2, k F _ R2 n2⟩
      | _ => cases e⟩
def sSetIx (g : OpSet) (re ro ri : Ev → Store → Res D) : SM := fun env S => (re env S).st env fun v S1 => (ro env S1).st env fun o S2 => (ri env S2).st env fun i S3 => match g S3 o i v with
  | some S4 => some (.nx env, S4)
  | none => none
theorem ss_setix {g : OpSet} {o i : Expr} {tpos : Pos} {re ro ri : Ev → Store → Res D} (hg : SSet Y X g) (he : SE Y X W e re) (ho : SE Y X W o ro) (hi : SE Y X W i ri)
    (ha : ∀ v, assign (.Subscript o i tpos) X.env v = (do
      let ov ← holding [v] (eval o X.env)
      let iv ← holding [v, ov] (eval i X.env)
      standAt tpos
      holding [v, ov, iv] (setItem ov iv v)
      release [v, ov, iv] []) := by intro _; rfl)
    (hs : swapsWithSole [.Subscript o i tpos] e pos.line X.env = pure false := by rfl) (hw : swappedStores [.Subscript o i tpos] e X.env = pure none := by rfl)
    (h1 : (assignEach [.Subscript o i tpos] X.env).map (·.2) = [assign (.Subscript o i tpos) X.env] := by rfl) : SS Y X W (.Assign [.Subscript o i tpos] e pos) (sSetIx g re ro ri) := by
  obtain ⟨r, g1, g2⟩ := hg.ex
  obtain ⟨te, e1, e2⟩ := he.ex
  obtain ⟨to, o1, o2⟩ := ho.ex
  obtain ⟨ti, i1, i2⟩ := hi.ex
  refine ⟨_, ps_asg e1 (pg_sub o1 i1 g1 ha) hs hw h1, fun F ρ S H σ env Z R E h => e2.thenS R E h fun d u S1 F1 ρ1 H1 R1 n1 E1 ru q1 => ?_⟩
  refine o2.thenS R1 E1 q1 fun d2 u2 S2 F2 ρ2 H2 R2 n2 E2 ru2 q2 => i2.thenS R2 E2 q2 fun d3 u3 S3 F3 ρ3 H3 R3 n3 E3 ru3 q3 => ?_
  cases e4 : g S3 d2 d3 d with
  | none => rw [e4] at q3; exact False.elim q3
  | some S4 =>
    rw [e4] at q3
    exact g2 F3 ρ3 S3 S4 H3 u2 u3 u d2 d3 d _ R3 (ru2.mono n3.ex n3.pre) ru3 ((ru.mono n2.ex n2.pre).mono n3.ex n3.pre) e4 fun F4 H4 R4 n4 => q3 F4 ρ3 H4 R4 n4 σ (E3.nx n4)
/-- o[i] op= e -/
def sAugIx (gg : Op2) (gp : Op2) (gs : OpSet) (ro ri re : Ev → Store → Res D) : SM := fun env S => (ro env S).st env fun o S1 => (ri env S1).st env fun i S2 => (lift (gg S2 o i) S2).st env fun x S3 => (re env S3).st env fun y S4 => (lift (gp S4 x y) S4).st env fun z S5 => match gs S5 o i z with
  | some S6 => some (.nx env, S6)
  | none => none
structure SGet (Y : Pc) (X : Cx) (g : Op2) : Prop where
  ex : ∃ r, PGet X r ∧ OpOk X.K Y g r
structure SIp (Y : Pc) (X : Cx) (op : Operator) (g : Op2) : Prop where
  ex : ∃ r, PIp X op r ∧ OpOk X.K Y g r
def getLD : Op2 := fun S x y => match y with
  | .int i => (seqD S x).bind fun ds => atI ds i
  | _ => none
theorem sget_list : SGet Y X getLD := ⟨_, get_list, fun F ρ S H x y dx dy d Q R rx ry e k => by
  cases ry with
  | int i => exact ixD_list R rx e k
  | _ => cases e⟩
def iaddD : Op2 := fun _ x y => match x, y with
  | .int i, .int j => some (.int (i + j))
  | .str s, .str t => if s.length + t.length ≤ 100000 then some (.str (s ++ t)) else none
  | _, _ => none
theorem sip_add : SIp Y X .Add iaddD := ⟨_, pip_of (iop_add.or iop_add_str), fun F ρ S H x y dx dy d Q R rx ry e k => by
  cases rx <;> cases ry <;> try (cases e; done)
  · cases e
    exact .inl ⟨_, _, rfl, rfl, now_int R k⟩
  · rename_i s hs t ht
    have e : (if s.length + t.length ≤ 100000 then some (D.str (s ++ t)) else none) = some d := e
    by_cases h : s.length + t.length ≤ 100000
    · rw [if_pos h] at e; cases e
      refine .inr ⟨_, _, rfl, rfl, by rw [tx_len, tx_len]; exact small _ h, ?_⟩
      rw [tx_app]
      exact now_str R (hs.app ht) k
    · rw [if_neg h] at e; cases e⟩
theorem sip_sub : SIp Y X .Sub subD := ⟨_, pip_of iop_sub, fun F ρ S H x y dx dy d Q R rx ry e k => by
  cases rx <;> cases ry <;> try (cases e; done)
  cases e
  exact ⟨_, _, rfl, rfl, now_int R k⟩⟩
def imulD : Op2 := fun _ x y => match x, y with
  | .int i, .int j => if i.natAbs < 2 ^ 64 ∨ j.natAbs < 2 ^ 64 then some (.int (i * j)) else none
  | _, _ => none
theorem sip_mul : SIp Y X .Mult imulD := ⟨_, pip_of iop_mul, fun F ρ S H x y dx dy d Q R rx ry e k => by
  cases rx <;> cases ry <;> try (cases e; done)
  rename_i i j
  have e : (if i.natAbs < 2 ^ 64 ∨ j.natAbs < 2 ^ 64 then some (D.int (i * j)) else none) = some d := e
  by_cases h : i.natAbs < 2 ^ 64 ∨ j.natAbs < 2 ^ 64
  · rw [if_pos h] at e; cases e
    refine ⟨_, _, rfl, rfl, ?_, now_int R k⟩
    rcases h with h | h
    · exact .inl ⟨by omega, by omega⟩
    · exact .inr ⟨by omega, by omega⟩
  · rw [if_neg h] at e; cases e⟩
theorem lift_st {α : Type} {o : Option α} {env : Ev} {f : α → Store → Option (Flow × Store)} {P : Flow → Store → Hp → List Addr → Hp → Prop} (h : OutS K Y F ρ H ((lift o S).st env f) P) : ∃ a, o = some a ∧ OutS K Y F ρ H (f a S) P := by
  cases o with
  | none => exact False.elim h
  | some a => exact ⟨a, rfl, h⟩
theorem ss_augix {gg gp : Op2} {gs : OpSet} {op : Operator} {o i : Expr} {tpos : Pos} {re ro ri : Ev → Store → Res D} (hg : SGet Y X gg) (hp : SIp Y X op gp) (hs : SSet Y X gs) (ho : SE Y X W o ro) (hi : SE Y X W i ri) (he : SE Y X W e re)
    (ha : ∀ ov iv new, augStore i ov iv new = (do holding [new, ov, iv] (setItem ov iv new); release [new, ov, iv] []; pure .next) := by intros; rfl) : SS Y X W (.AugAssign (.Subscript o i tpos) op e pos) (sAugIx gg gp gs ro ri re) := by
  obtain ⟨rg, g1, g2⟩ := hg.ex
  obtain ⟨rp, p1, p2⟩ := hp.ex
  obtain ⟨rs, s1, s2⟩ := hs.ex
  obtain ⟨te, e1, e2⟩ := he.ex
  obtain ⟨to, o1, o2⟩ := ho.ex
  obtain ⟨ti, i1, i2⟩ := hi.ex
  refine ⟨_, ps_augS o1 i1 g1 e1 p1 s1 ha, fun F ρ S H σ env Z R E h => o2.thenS R E h fun d u S1 F1 ρ1 H1 R1 n1 E1 ru q1 => ?_⟩
  refine i2.thenS R1 E1 q1 fun d2 u2 S2 F2 ρ2 H2 R2 n2 E2 ru2 q2 => ?_
  have ru' := ru.mono n2.ex n2.pre
  obtain ⟨x, hx, q3⟩ := lift_st q2
  refine g2 F2 ρ2 S2 H2 u u2 d d2 x _ R2 ru' ru2 hx fun F3 H3 u3 R3 n3 ru3 => ?_
  refine e2.thenS R3 (E2.nx n3) (q3.later n3) fun d4 u4 S4 F4 ρ4 H4 R4 n4 E4 ru4 q4 => ?_
  obtain ⟨z, hz, q5⟩ := lift_st q4
  have m3 := n3.trans n4
  refine p2 F4 ρ4 S4 H4 u3 u4 x d4 z _ R4 (ru3.mono n4.ex n4.pre) ru4 hz fun F5 H5 u5 R5 n5 ru5 => ?_
  have q5 := q5.later n5
  have m4 := m3.trans n5
  cases e6 : gs S4 d d2 z with
  | none => rw [e6] at q5; exact False.elim q5
  | some S6 =>
    rw [e6] at q5
    exact s2 F5 ρ4 S4 S6 H5 u u2 u5 d d2 z _ R5 (ru'.mono m4.ex m4.pre) (ru2.mono m4.ex m4.pre) ru5 e6 fun F6 H6 R6 n6 => q5 F6 ρ4 H6 R6 n6 σ ((E4.nx n5).nx n6)
/-- x op= e -/
def sAug (i : Nat) (gp : Op2) (re : Ev → Store → Res D) : SM := fun env S => (rVar i env S).st env fun x S0 => (re env S0).st env fun y S1 => (lift (gp S1 x y) S1).st env fun z S2 => some (.nx (env.set i (some z)), S2)
theorem ss_aug (i : Nat) {x : Str} {op : Operator} {gp : Op2} {pos' : Pos} {re : Ev → Store → Res D} (hp : SIp Y X op gp) (he : SE Y X W e re) (hN : X.N.Nodup) (hi : X.N[i]? = some x := by rfl) (hx : Loc X.env.scope x := by first | exact Or.inl rfl | exact Or.inr rfl) (hf : X.fn x = true ∨ X.env.scope.names.lookup x = some .local := by first | exact .inl rfl | exact .inr rfl) :
    SS Y X W (.AugAssign (.Name x pos') op e pos) (sAug i gp re) := by
  obtain ⟨rp, p1, p2⟩ := hp.ex
  obtain ⟨te, e1, e2⟩ := he.ex
  refine ⟨_, ps_aug hN hi hx e1 p1 hf, fun F ρ S H σ env Z R E h => ?_⟩
  unfold sAug rVar at h
  cases q : env[i]? with
  | none => rw [q] at h; exact False.elim h
  | some o =>
    cases o with
    | none => rw [q] at h; exact False.elim h
    | some d =>
      rw [q] at h
      obtain ⟨v, hv, rv⟩ := E.2 i d q
      refine ⟨v, hv, e2.thenS R E (Z := Z) h fun d2 u2 S2 F2 ρ2 H2 R2 n2 E2 ru2 q2 => ?_⟩
      obtain ⟨z, hz, q3⟩ := lift_st q2
      exact p2 F2 ρ2 S2 H2 v u2 d d2 z _ R2 (rv.mono n2.ex n2.pre) ru2 hz fun F3 H3 u3 R3 n3 ru3 => q3 F3 ρ2 H3 R3 n3 _ ((E2.nx n3).set i ru3)
end
end L3
set_option Elab.async false
set_option linter.all false
set_option maxRecDepth 100000
set_option maxHeartbeats 2000000
/-! in, raise, defs by their data -/
namespace L3
open PySem PySem.Spec L2
section
variable {Y : Pc} {X : Cx} {W : WX} {a b c e : Expr} {es : List Expr} {ra rb rc : Ev → Store → Res D} {rs : Ev → Store → Res (List D)} {pos : Pos} {K : PySem.W.Frag} {F H : Hp} {ρ : List Addr} {S : Store}
/-- flat things -/
def D.flt : D → Bool
  | .non => true
  | .bl _ => true
  | .int _ => true
  | .str _ => true
  | _ => false
theorem flt_V {v : V} {d : D} (r : RD K F ρ v d) (h : d.flt = true) : flatV v = true := by
  cases r <;> first | rfl | cases h
theorem flt_all : ∀ {ds : List D} {xs : List V}, RDs K F ρ xs ds → ds.all D.flt = true → xs.all flatV = true
  | [], _, h, _ => by cases h; rfl
  | d :: ds, _, h, f => by
    rw [List.all_cons, Bool.and_eq_true] at f
    cases h with
    | cons h1 h2 => rw [List.all_cons, flt_V h1 f.1, flt_all h2 f.2]; rfl
theorem eqv_V {v w : V} {d d' : D} (r : RD K F ρ v d) (r' : RD K F ρ w d') (h : d.flt = true) (h' : d'.flt = true) : eqV v w = PyData.eqv d.py d'.py := by
  cases r <;> cases r' <;> first | (cases h; done) | (cases h'; done) | skip
  all_goals simp [eqV, D.py, PyData.eqv]
theorem in_V {x : V} {dx : D} (r : RD K F ρ x dx) (f : dx.flt = true) : ∀ {ds : List D} {xs : List V}, RDs K F ρ xs ds → ds.all D.flt = true → inV x xs = ds.any fun z => PyData.eqv z.py dx.py
  | [], _, h, _ => by cases h; rfl
  | d :: ds, _, h, g => by
    rw [List.all_cons, Bool.and_eq_true] at g
    cases h with
    | cons h1 h2 =>
      have ih := in_V r f h2 g.2
      unfold inV at ih ⊢
      rw [List.any_cons, List.any_cons, ih, eqv_V h1 r g.1 f]
theorem py_any (ds : List D) (dx : D) : ((D.pys ds).any fun z => PyData.eqv z dx.py) = ds.any fun z => PyData.eqv z.py dx.py := by
  induction ds with
  | nil => rfl
  | cons d ds ih => show (PyData.eqv d.py dx.py || _) = _; rw [List.any_cons, ih]
def inB (x : D) (ds : List D) : Bool := ds.any fun z => PyData.eqv z.py x.py
/-- x in y; none where it is not told -/
def memD (S : Store) (x y : D) : Option Bool := match y with
  | .str s => match x with
    | .str [c] => some (decide (c ∈ s))
    | _ => none
  | .tup ds => if x.flt && ds.all D.flt then some (inB x ds) else none
  | y => (seqD S y).bind fun ds => if eqPre x (.lst ds) then some (inB x ds) else none
def inD2 : Op2 := fun S x y => (memD S x y).map fun b => .bl b
def ninD2 : Op2 := fun S x y => (memD S x y).map fun b => .bl (!b)
theorem dps_of : ∀ {ds : List D} {xs : List V}, Ex F H → RDs K F ρ xs ds → D.flats ds = true → DpAll K H xs (D.pys ds) ∧ PyData.canLayAll0 (D.pys ds) = true := fun e r f => RDs.dp e r f
theorem memD_list {x y : V} {dx dy : D} {b : Bool} {Q : VK} (R : SR K Y F ρ S H) (rx : RD K F ρ x dx) (ry : RD K F ρ y dy) (e : ((seqD S dy).bind fun ds => if eqPre dx (.lst ds) = true then some (inB dx ds) else none) = some b) :
    ∃ d ds, Dp K H x d ∧ Dp K H y (.list ds) ∧ SeqAt.shaped d = true ∧ SeqAt.shaped (.list ds) = true ∧ (ds.any fun z => PyData.eqv z d) = b := by
  cases e1 : seqD S dy with
  | none => rw [e1] at e; cases e
  | some ds =>
    rw [e1] at e
    have e : (if eqPre dx (.lst ds) = true then some (inB dx ds) else none) = some b := e
    by_cases h : eqPre dx (.lst ds) = true
    · rw [if_pos h] at e; cases e
      obtain ⟨f1, f2, d1, d2⟩ := eqPre_ok h
      obtain ⟨p, xs, rfl, hp, hx⟩ := seq_rd R ry e1
      obtain ⟨p1, l1⟩ := RD.dp R.ex rx f1
      obtain ⟨p2, l2⟩ := RDs.dp R.ex hx f2
      exact ⟨dx.py, D.pys ds, p1, .lst (SqL.of hp) p2, shaped_of l1 d1, shaped_of (d := .list (D.pys ds)) l2 d2, py_any ds dx⟩
    · rw [if_neg h] at e; cases e
theorem memD_of {S : Store} {x y d : D} {f : Bool → D} (e : (memD S x y).map f = some d) : ∃ b, memD S x y = some b ∧ d = f b := by
  cases h : memD S x y with
  | none => rw [h] at e; cases e
  | some b => rw [h] at e; cases e; exact ⟨b, rfl, rfl⟩
theorem room65 {k : Nat} {A : Around} (r : Room (k + 1) A) : A.units + 65 < cLine := by
  have := (r.in1).units
  have e : A.in1.units = A.units + 1 := rfl
  omega
theorem sop_in {k : Nat} (C : Ok X W (k + 1)) : SOp Y X (compareOp .In) inD2 := ⟨_, op_in_sign.or (op_in_seq.or (op_inD (room65 C.room))), fun F ρ S H x y dx dy d Q R rx ry e k => by
  obtain ⟨b, e', rfl⟩ := memD_of e
  clear e
  have e := e'
  clear e'
  unfold memD at e
  cases ry with
  | str s hs =>
    cases rx <;> try (cases e; done)
    rename_i t ht
    match t, e, ht with
    | [c], e, ht =>
      cases e
      exact .inl ⟨c, tx s, rfl, rfl, now_bl R k⟩
  | tup h1 h2 =>
    rename_i p xs ds
    have e : (if (dx.flt && ds.all D.flt) = true then some (inB dx ds) else none) = some b := e
    by_cases h : (dx.flt && ds.all D.flt) = true
    · rw [if_pos h] at e; cases e
      rw [Bool.and_eq_true] at h
      refine .inr (.inl ⟨p, xs, rfl, Or.inr (ex_t R.ex h1), flt_V rx h.1, flt_all h2 h.2, ?_⟩)
      show Q (.bl (inV x xs)) H
      rw [in_V rx h.1 h2 h.2]
      exact now_bl R k
    · rw [if_neg h] at e; cases e
  | lst h1 h2 =>
    obtain ⟨d, ds, q1, q2, q3, q4, q5⟩ := memD_list (Q := Q) R rx (.lst h1 h2) e
    exact .inr (.inr ⟨d, ds, q1, q2, q3, q4, by rw [q5]; exact now_bl R k⟩)
  | loc h1 =>
    obtain ⟨d, ds, q1, q2, q3, q4, q5⟩ := memD_list (Q := Q) R rx (.loc h1) e
    exact .inr (.inr ⟨d, ds, q1, q2, q3, q4, by rw [q5]; exact now_bl R k⟩)
  | _ => cases e⟩
theorem sop_nin {k : Nat} (C : Ok X W (k + 1)) : SOp Y X (compareOp .NotIn) ninD2 := ⟨_, op_notIn_sign.or (op_notIn_seq.or (op_notInD (room65 C.room))), fun F ρ S H x y dx dy d Q R rx ry e k => by
  obtain ⟨b, e', rfl⟩ := memD_of e
  clear e
  have e := e'
  clear e'
  unfold memD at e
  cases ry with
  | str s hs =>
    cases rx <;> try (cases e; done)
    rename_i t ht
    match t, e, ht with
    | [c], e, ht =>
      cases e
      exact .inl ⟨c, tx s, rfl, rfl, now_bl R k⟩
  | tup h1 h2 =>
    rename_i p xs ds
    have e : (if (dx.flt && ds.all D.flt) = true then some (inB dx ds) else none) = some b := e
    by_cases h : (dx.flt && ds.all D.flt) = true
    · rw [if_pos h] at e; cases e
      rw [Bool.and_eq_true] at h
      refine .inr (.inl ⟨p, xs, rfl, Or.inr (ex_t R.ex h1), flt_V rx h.1, flt_all h2 h.2, ?_⟩)
      show Q (.bl (!inV x xs)) H
      rw [in_V rx h.1 h2 h.2]
      exact now_bl R k
    · rw [if_neg h] at e; cases e
  | lst h1 h2 =>
    obtain ⟨d, ds, q1, q2, q3, q4, q5⟩ := memD_list (Q := Q) R rx (.lst h1 h2) e
    exact .inr (.inr ⟨d, ds, q1, q2, q3, q4, by rw [q5]; exact now_bl R k⟩)
  | loc h1 =>
    obtain ⟨d, ds, q1, q2, q3, q4, q5⟩ := memD_list (Q := Q) R rx (.loc h1) e
    exact .inr (.inr ⟨d, ds, q1, q2, q3, q4, by rw [q5]; exact now_bl R k⟩)
  | _ => cases e⟩

/-! tests of chains -/
theorem sb_chain {op op' : CmpOp} {g g' : Op2} (ho : SOp Y X (compareOp op) g) (ho' : SOp Y X (compareOp op') g') (ha : SE Y X W a ra) (hb : SE Y X W b rb) (hc : SE Y X W c rc)
    (hm : lastMarks [op, op'] [b, c] = false := by with_unfolding_all rfl) : SB Y X W (.Compare a [op, op'] [b, c] pos) (tOf (rChain g g' ra rb rc)) := by
  have hE := (se_chain ho ho' ha hb hc hm (pos := pos))
  obtain ⟨r, h1, h2⟩ := ho.ex
  obtain ⟨r', h1', h2'⟩ := ho'.ex
  obtain ⟨ta, a1, a2⟩ := ha.ex
  obtain ⟨tb, b1, b2⟩ := hb.ex
  obtain ⟨tc, c1, c2⟩ := hc.ex
  refine ⟨_, pt_chain h1 h1' a1 b1 c1 hm, fun F ρ S H σ env Q R E h => ?_⟩
  have h : Out X.K Y F ρ H ((rChain g g' ra rb rc env S).bind fun x S1 => match x with
    | .bl b => .ok b S1
    | _ => .stuck) (fun b _ _ _ H' => Q b H') (fun c H' => W c none σ H') := h
  unfold rChain at h
  rw [Res.bind_bind] at h
  refine a2.then R E h fun d u S1 F1 ρ1 H1 R1 n1 E1 ru o1 => ?_
  rw [Res.bind_bind] at o1
  refine b2.then R1 E1 o1 fun d' u' S2 F2 ρ2 H2 R2 n2 E2 ru' o2 => ?_
  rw [Res.bind_bind] at o2
  have o2 := o2.bind
  obtain ⟨z, hz, k⟩ := lift_out o2
  refine h2 F2 ρ2 S2 H2 u u' d d' z _ R2 (ru.mono n2.ex n2.pre) ru' hz fun F' H' w R' n' r' => ?_
  have o3 := k F' ρ2 H' R' n'
  cases r' with
  | bl kk =>
    refine ⟨kk, rfl, ?_⟩
    cases kk with
    | true =>
      have o3 : Out X.K Y F' ρ2 H' (((rc env S2).bind fun w S4 => lift (g' S4 d' w) S4).bind fun x S1 => match x with
        | .bl b => .ok b S1
        | _ => .stuck) (fun b _ _ _ H' => Q b H') (fun c H' => W c none σ H') := o3
      rw [Res.bind_bind] at o3
      refine c2.then R' (E2.nx n') o3 fun d3 u3 S4 F4 ρ4 H4 R4 n4 E4 ru3 o4 => ?_
      have o4 := o4.bind
      obtain ⟨z, hz, k⟩ := lift_out o4
      refine h2' F4 ρ4 S4 H4 u' u3 d' d3 z _ R4 ((ru'.mono n'.ex n'.pre).mono n4.ex n4.pre) ru3 hz fun F' H' u R' n' r' => ?_
      have o5 := k F' ρ4 H' R' n'
      cases r' with
      | bl b => exact ⟨b, rfl, Out.now o5 R'⟩
      | _ => exact False.elim o5
    | false => exact ⟨false, rfl, Out.now o3 R'⟩
  | _ => exact False.elim o3

/-! list(x) that will be written -/
def rListM (ra : Ev → Store → Res D) : Ev → Store → Res D := fun env S => (ra env S).bind fun d S1 => match listD S1 [d] with
  | some (.lst ds) => .ok (.loc S1.length) (S1 ++ [.lst ds])
  | _ => .stuck
theorem list_rd {x : V} {d : D} {ds : List D} (R : SR K Y F ρ S H) (r : RD K F ρ x d) (h : listD S [d] = some (.lst ds)) : ∃ (p : Addr) (ys : List V), x = .ref p ∧ (SqL K H p ys ∨ SqT K H p ys) ∧ RDs K F ρ ys ds := by
  unfold listD at h
  cases r with
  | tup h1 h2 => cases h; exact ⟨_, _, rfl, Or.inr (ex_t R.ex h1), h2⟩
  | scr h1 => cases h; exact ⟨_, _, rfl, Or.inl (ex_l R.ex h1), rd_ints _⟩
  | lst h1 h2 => cases h; exact ⟨_, _, rfl, Or.inl (SqL.of (R.ex _ _ h1)), h2⟩
  | loc h1 =>
    rename_i i a
    have h : (seqD S (.loc i)).map D.lst = some (.lst ds) := h
    cases e1 : seqD S (.loc i) with
    | none => rw [e1] at h; cases h
    | some ds =>
      rw [e1] at h; cases h
      obtain ⟨p, xs, e, hp, hx⟩ := seq_rd R (.loc h1) e1
      exact ⟨p, xs, e, Or.inl (SqL.of hp), hx⟩
  | _ => cases h
theorem se_listM {x : Str} {p : Pos} (hx : x = "list" := by rfl) (hm : X.mg "list" = none) (ha : SE Y X W a ra) (hg : Gl X "list" := by rfl)
    (he : starEach [a] X.env = (false, eval a X.env) :: starEach [] X.env := by rfl) (hpl : (backTo pos (starEach [] X.env)).any (·.1) = false := by rfl) : SE Y X W (.Call (.Name "list" p) [a] [] pos) (rListM ra) := by
  obtain ⟨ta, a1, a2⟩ := ha.ex
  refine ⟨_, pe_callTy call_list_of hg hm (by decide +kernel) (pa_cons a1 pa_nil (by rw [he])) (by decide) (by decide) he hpl, fun F ρ S H σ env Q R E h => a2.then R E h fun d u S1 F1 ρ1 H1 R1 n1 E1 ru o1 => ?_⟩
  cases e1 : listD S1 [d] with
  | none => rw [e1] at o1; exact False.elim o1
  | some z =>
    rw [e1] at o1
    cases z with
    | lst ds =>
      obtain ⟨p, ys, rfl, q, hy⟩ := list_rd R1 ru e1
      refine ⟨p, ys, rfl, q, fun l hl => ?_⟩
      have fp : F1 l = none := by
        cases e : F1 l with
        | none => rfl
        | some u => rw [R1.ex l u e] at hl; cases hl
      obtain ⟨R2, n2, e2⟩ := R1.alloc (o := .lst ys) (cc := .lst ds) hl ⟨fp, ys, upd_same, hy.mono (Ex.refl _) (pre_snoc _ _)⟩
      exact o1 _ _ _ R2 n2 _ (.loc e2)
    | _ => exact False.elim o1

/-! ### raise X('..') -/
/-- an own class of exceptions -/
structure ExcD (K : PySem.W.Frag) (mg : Str → Option Value) (x : Str) (C : Addr) : Prop where
  exc : PySem.W.excIn K C He.veBase "ValueError.__new__" = true
  g : mg x = some (.ref C)
  kp : PySem.W.keepIn K (.ref C) = true
  sb : PySem.W.subIn K (.ref C) (.type "BaseException") = some true
  ty : PySem.W.typeIn K (.ref C) = some (.type "type")
def sRaise (c : Nat) : SM := fun env S => some (.ex c env, S)
theorem ss_raise {x m : Str} {j : Nat} {p p2 pos2 : Pos} (i : Nat) (hc : X.calm = true) (tk : Takes X W) (e : ExcD X.K X.mg x (Y.xc i)) (hg : Gl X x := by rfl) (hdb : (x == ("__debug__" : Str)) = false := by decide) :
    SS Y X W (.Raise (some (.Call (.Name x p) [.Constant (.str m) j p2] [] pos)) none pos2) (sRaise i) :=
  ⟨_, ps_raise hc tk (pmk_own PySem.F.excBase_ValueError e.exc e.g e.kp (raises_own e.sb e.ty) hg hdb), fun F ρ S H σ env Z R E h => OutS.now h R σ E⟩

/-! ### a def -/
structure DefOk (P : Program) (w : World) (K : PySem.W.Frag) (mg : Str → Option Value) (base : Heap) (Y : Pc) (x : Str) (n lvl : Nat) (m : FSem) : Prop where
  ex : ∃ f fd ps, FnOk P w K mg base (L2.CX P w) lvl f fd ps (spOf K Y m n) ∧ mg x = some (.ref f) ∧ PySem.W.keepIn K (.ref f) = true ∧ Binds K fd ps []
theorem se_def {k lvl n : Nat} {m : FSem} {x : Str} {p : Pos} (C : Ok X W k) (h : DefOk X.prog X.w X.K X.mg X.base Y x n lvl m) (hj : lvl ≤ k) (ha : SA Y X W (e :: es) rs) (hl : Len n rs) (hg : Gl X x := by rfl)
    (hdb : (x == ("__debug__" : Str)) = false := by decide) (he : starEach (e :: es) X.env = (false, eval e X.env) :: starEach es X.env := by rfl) (hpl : (backTo pos (starEach es X.env)).any (·.1) = false := by rfl) :
    SE Y X W (.Call (.Name x p) (e :: es) [] pos) (rCall m rs) := by
  obtain ⟨f, fd, ps, h1, h2, h3, h4⟩ := h.ex
  exact se_call C h1 hj h2 h3 h4 ha hl hg hdb he hpl
theorem se_def0 {k lvl : Nat} {m : FSem} {x : Str} {p : Pos} (C : Ok X W k) (h : DefOk X.prog X.w X.K X.mg X.base Y x 0 lvl m) (hj : lvl ≤ k) (hg : Gl X x := by rfl)
    (hdb : (x == ("__debug__" : Str)) = false := by decide) : SE Y X W (.Call (.Name x p) [] [] pos) (rCall m rNil) := by
  obtain ⟨f, fd, ps, h1, h2, h3, h4⟩ := h.ex
  exact se_call0 C h1 hj h2 h3 h4 hg hdb
theorem fnokD {P : Program} {w : World} {mg : Str → Option Value} {base : Heap} {x qual : Str} {params : Arguments} {bd : List Stmt} {scope : Scope} {f : Addr} {fd : FuncData} {N ps : List Str} {k : Nat} (n p : Nat) {body : SM} (Fu : FunD K x qual params bd scope [] [] f fd) (S : FnScope N ps scope)
    (hn : N.length = n) (hp : ps.length = p)
    (hb : ∀ (X : Cx) (W : WX) (cdv : Value) (A : Around) (outer : List Env) (s : Shared) (H : Hp) (E : XK), X = cxOf (L2.CX P w) P w K mg base N qual scope f cdv A outer s H E → Ok X W k → PassesOwn (model X.prog X.w) X.A X.env X.xe → Takes X W → SSs Y X W bd body) :
    FnOk P w K mg base (L2.CX P w) (k + 1) f fd ps (spOf K Y (fnSem n p body) p) := by
  refine Fu.ok S (fun vs H Q E h => by rw [hp]; exact h.1) fun cdv A outer s H vs Q E hr hsp => ?_
  obtain ⟨hl, F, ρ, St, ds, R, rd, o⟩ := hsp
  have tk : Takes (cxOf (L2.CX P w) P w K mg base N qual scope f cdv A outer s H E) (fun cls d _ H => E cls d H) := takes_of rfl rfl rfl rfl
  obtain ⟨t, h1, h2⟩ := (hb _ _ cdv A outer s H E rfl ⟨fun σ => passAt tk σ, rfl, hr, S.nd⟩ (passes_of rfl) tk).ex
  refine ⟨t, h1, h2 F ρ St H (L2.start N vs) (ds.map some ++ List.replicate (n - p) none) _ R (by
    have := rd_rep rd (n - p)
    unfold L2.start
    rw [hn, hl]
    exact this) ?_⟩
  unfold fnSem at o
  cases e : body (ds.map some ++ List.replicate (n - p) none) St with
  | none => rw [e] at o; exact False.elim o
  | some q =>
    obtain ⟨fl, S'⟩ := q
    rw [e] at o
    cases fl with
    | nx env => exact fun F' ρ' H' R' n' σ' E' => o F' ρ' H' R' n' _ .non
    | rt d => exact o
    | bk env => exact False.elim o
    | ct env => exact False.elim o
    | ex c env => exact fun F' ρ' H' R' n' σ' E' => o F' ρ' H' R' n'
theorem defok {P : Program} {w : World} {mg : Str → Option Value} {base : Heap} {x : Str} {params : Arguments} {bd : List Stmt} {scope : Scope} {f : Addr} {fd : FuncData} {N ps : List Str} {k : Nat} (n p : Nat) {body : SM} (Fu : FunD K x x params bd scope [] [] f fd) (hm : mg x = some (.ref f)) (S : FnScope N ps scope)
    (hn : N.length = n) (hp : ps.length = p)
    (hbi : ∀ (kV doc pm : Value) (an : Option Addr) (cdv ct : Value) (us : List Value), us.length = ps.length → bindArgs (PySem.W.fnOf x x params bd scope .none kV doc pm an cdv ct) ⟨us, []⟩ = pure (ps.zip us))
    (hb : ∀ (X : Cx) (W : WX) (cdv : Value) (A : Around) (outer : List Env) (s : Shared) (H : Hp) (E : XK), X = cxOf (L2.CX P w) P w K mg base N x scope f cdv A outer s H E → Ok X W k → PassesOwn (model X.prog X.w) X.A X.env X.xe → Takes X W → SSs Y X W bd body) :
    DefOk P w K mg base Y x p (k + 1) (fnSem n p body) := ⟨f, fd, ps, fnokD n p Fu S hn hp hb, hm, Fu.kp, Fu.bindsN hbi⟩
end
end L3
set_option Elab.async false
set_option linter.all false
set_option maxRecDepth 100000
set_option maxHeartbeats 2000000
/-! the order of nested data; isinstance -/
namespace LtD
open PySem PySem.SeqAt
mutual
def ltv : PyData → PyData → Option Bool
  | .int i, .int j => some (decide (i < j))
  | .str s, .str t => some (decide (s.cps.toList < t.cps.toList))
  | .list xs, .list ys => ltvs xs ys
  | .tuple xs, .tuple ys => ltvs xs ys
  | _, _ => none
def ltvs : List PyData → List PyData → Option Bool
  | [], [] => some false
  | [], _ :: _ => some true
  | _ :: _, [] => some false
  | x :: xs, y :: ys => match ltvs xs ys with
    | none => none
    | some r => if PyData.eqv x y = true then some r else ltv x y
end
theorem ltvs_at : ∀ (xs ys : List PyData) (k : Bool), ltvs xs ys = some k → ∀ (j : Nat) (x y : PyData), xs[j]? = some x → ys[j]? = some y → PyData.eqv x y = false → ∃ r, ltv x y = some r
  | [], _, _, _, _, _, _, h, _, _ => by simp at h
  | _ :: _, [], _, _, _, _, _, _, h, _ => by simp at h
  | x :: xs, y :: ys, k, h, j, a, b, h1, h2, he => by
    unfold ltvs at h
    cases e : ltvs xs ys with
    | none => rw [e] at h; cases h
    | some r =>
      rw [e] at h
      cases j with
      | zero =>
        simp at h1 h2
        subst h1; subst h2
        have h : (if PyData.eqv x y = true then some r else ltv x y) = some k := h
        rw [if_neg (by rw [he]; simp)] at h
        exact ⟨k, h⟩
      | succ j => exact ltvs_at xs ys r e j a b (by simpa using h1) (by simpa using h2) he
/-- the library's search and ours -/
theorem first_shift {e r : Nat → Bool} {f : Bool} : ∀ (l : List Nat), firstLt e r f (l.map (· + 1)) = firstLt (fun j => e (j + 1)) (fun j => r (j + 1)) f l
  | [] => rfl
  | j :: l => by simp only [List.map_cons, firstLt, first_shift l]
theorem range_succ' (n : Nat) : List.range (n + 1) = 0 :: (List.range n).map (· + 1) := by
  rw [List.range_succ_eq_map]
def rAt (xs ys : List PyData) (j : Nat) : Bool := match xs[j]?, ys[j]? with
  | some x, some y => (ltv x y).getD false
  | _, _ => false
theorem first_eq : ∀ (xs ys : List PyData) (k : Bool), ltvs xs ys = some k → firstLt (pairEq xs ys) (rAt xs ys) (decide (xs.length < ys.length)) (List.range (min xs.length ys.length)) = k
  | [], [], k, h => by cases h; rfl
  | [], y :: ys, k, h => by cases h; simp [firstLt]
  | x :: xs, [], k, h => by cases h; simp [firstLt]
  | x :: xs, y :: ys, k, h => by
    unfold ltvs at h
    cases e : ltvs xs ys with
    | none => rw [e] at h; cases h
    | some r =>
      rw [e] at h
      have h : (if PyData.eqv x y = true then some r else ltv x y) = some k := h
      have ih := first_eq xs ys r e
      have hm : min (x :: xs).length (y :: ys).length = min xs.length ys.length + 1 := by simp only [List.length_cons]; omega
      rw [hm, range_succ']
      have p0 : pairEq (x :: xs) (y :: ys) 0 = PyData.eqv x y := rfl
      have ps : (fun j => pairEq (x :: xs) (y :: ys) (j + 1)) = pairEq xs ys := rfl
      have rs : (fun j => rAt (x :: xs) (y :: ys) (j + 1)) = rAt xs ys := by
        funext j
        simp [rAt]
      have ds : decide ((x :: xs).length < (y :: ys).length) = decide (xs.length < ys.length) := by simp
      by_cases hxy : PyData.eqv x y = true
      · rw [if_pos hxy] at h; cases h
        rw [firstLt_yes (by rw [p0]; exact hxy), first_shift, ps, rs, ds]
        exact ih
      · rw [if_neg hxy] at h
        rw [firstLt_no (by rw [p0]; simpa using hxy)]
        simp [rAt, h]
theorem rall_get {h : Heap} : ∀ {xs : List PyData} {vs : List Value} {as : List Addr} {j : Nat}, ReadsAll h vs xs as → j < vs.length → ∃ x v bs, xs[j]? = some x ∧ vs[j]? = some v ∧ Reads h v x bs
  | [], _, _, _, r, hl => by cases r; exact absurd hl (Nat.not_lt_zero _)
  | x :: xs, _, _, j, r, hl => by
    cases r with
    | cons r1 r2 =>
      cases j with
      | zero => exact ⟨x, _, _, rfl, rfl, r1⟩
      | succ j =>
        obtain ⟨y, v, bs, h1, h2, h3⟩ := rall_get (j := j) r2 (by simpa using hl)
        exact ⟨y, v, bs, by simpa using h1, by simpa using h2, h3⟩
theorem depth_mem : ∀ {xs : List PyData} {j : Nat} {x : PyData}, xs[j]? = some x → x.depth ≤ PyData.depthAll xs
  | [], _, _, h => by simp at h
  | y :: ys, 0, x, h => by
    simp at h; subst h
    simp only [PyData.depthAll]; omega
  | y :: ys, j + 1, x, h => by
    have := depth_mem (xs := ys) (j := j) (x := x) (by simpa using h)
    simp only [PyData.depthAll]; omega
theorem lay_mem : ∀ {xs : List PyData} {j : Nat} {x : PyData}, PyData.canLayAll0 xs = true → xs[j]? = some x → x.canLay0 = true
  | [], _, _, _, h => by simp at h
  | y :: ys, 0, x, q, h => by
    simp at h; subst h
    simp only [PyData.canLayAll0, Bool.and_eq_true] at q
    exact q.1
  | y :: ys, j + 1, x, q, h => by
    simp only [PyData.canLayAll0, Bool.and_eq_true] at q
    exact lay_mem (xs := ys) (j := j) q.2 (by simpa using h)
theorem rcLt_reads : ∀ (n : Nat) (da db : PyData) (A : Around) (s : Shared) (a b : Value) (as bs : List Addr) (k : Bool), da.depth ≤ n → Reads s.heap a da as → Reads s.heap b db bs → da.canLay0 = true → db.canLay0 = true →
    A.units + n < cLine → ltv da db = some k → RcLt A s a b k := by
  intro n
  induction n with
  | zero =>
    intro da db A s a b as bs k hd ra rb la lb hu h
    cases da <;> cases db <;> first | (simp [ltv] at h; done) | skip
    · cases ra; cases rb
      simp [ltv] at h; subst h
      exact fun prog w E Q q => PyProof.Rows.lt_int q
    · cases ra; cases rb
      simp only [ltv, Option.some.injEq] at h; subst h
      exact fun prog w E Q q => PyProof.Rows.lt_str q
    · simp [PyData.depth] at hd
    · simp [PyData.depth] at hd
  | succ n ih =>
    intro da db A s a b as bs k hd ra rb la lb hu h
    have main : ∀ (xs ys : List PyData) (vs ws : Array Value) (as bs : List Addr), PyData.depthAll xs ≤ n → ReadsAll s.heap vs.toList xs as → ReadsAll s.heap ws.toList ys bs → PyData.canLayAll0 xs = true → PyData.canLayAll0 ys = true → ltvs xs ys = some k →
        (∀ j (h1 : j < vs.size) (h2 : j < ws.size), EqAt A.in1 s vs[j] ws[j] (pairEq xs ys j)) ∧ (∀ j (h1 : j < vs.size) (h2 : j < ws.size), pairEq xs ys j = false → RcLt A.in1 s vs[j] ws[j] (rAt xs ys j)) ∧
        firstLt (pairEq xs ys) (rAt xs ys) (decide (vs.size < ws.size)) (List.range (min vs.size ws.size)) = k := by
      intro xs ys vs ws as bs hdn r1 r2 l1 l2 hk
      have n1 : vs.size = xs.length := by have := SeqAt.ReadsAll.length xs vs.toList as r1; simpa using this
      have n2 : ws.size = ys.length := by have := SeqAt.ReadsAll.length ys ws.toList bs r2; simpa using this
      have hin : A.in1.units = A.units + 1 := rfl
      refine ⟨fun j h1 h2 => ?_, fun j h1 h2 he => ?_, by rw [n1, n2]; exact first_eq xs ys k hk⟩
      · have := eqAt_readsAll xs ys A.in1 s vs.toList ws.toList _ _ r1 r2 l1 l2 (by rw [hin]; omega) j (by simpa using h1) (by simpa using h2)
        simpa using this
      · obtain ⟨x, v, b1, e1, e2, e3⟩ := rall_get (j := j) r1 (by simpa using h1)
        obtain ⟨y, w, b2, g1, g2, g3⟩ := rall_get (j := j) r2 (by simpa using h2)
        have ev : vs[j] = v := by
          have : vs.toList[j]? = some vs[j] := by simp [h1]
          rw [this] at e2; exact Option.some.inj e2
        have ew : ws[j] = w := by
          have : ws.toList[j]? = some ws[j] := by simp [h2]
          rw [this] at g2; exact Option.some.inj g2
        rw [ev, ew]
        have hxy : PyData.eqv x y = false := by
          have : pairEq xs ys j = PyData.eqv x y := by
            have hp : ∀ (xs ys : List PyData) (j : Nat) (x y : PyData), xs[j]? = some x → ys[j]? = some y → pairEq xs ys j = PyData.eqv x y := by
              intro xs
              induction xs with
              | nil => intro ys j x y h; simp at h
              | cons a xs ih2 =>
                intro ys j x y h1 h2
                cases ys with
                | nil => simp at h2
                | cons b ys =>
                  cases j with
                  | zero => simp at h1 h2; subst h1; subst h2; rfl
                  | succ j => exact ih2 ys j x y (by simpa using h1) (by simpa using h2)
            exact hp xs ys j x y e1 g1
          rw [← this]; exact he
        obtain ⟨r, hr⟩ := ltvs_at xs ys k hk j x y e1 g1 hxy
        have er : rAt xs ys j = r := by simp [rAt, e1, g1, hr]
        rw [er]
        exact ih x y A.in1 s v w b1 b2 r (Nat.le_trans (depth_mem e1) hdn) e3 g3 (lay_mem l1 e1) (lay_mem l2 g1) (by rw [hin]; omega) hr
    cases da <;> cases db <;> first | (simp [ltv] at h; done) | skip
    · cases ra; cases rb
      simp [ltv] at h; subst h
      exact fun prog w E Q q => PyProof.Rows.lt_int q
    · cases ra; cases rb
      simp only [ltv, Option.some.injEq] at h; subst h
      exact fun prog w E Q q => PyProof.Rows.lt_str q
    · rename_i xs ys
      have hk : ltvs xs ys = some k := by simpa [ltv] using h
      cases ra with
      | list h1 h2 h3 h4 =>
        cases rb with
        | list g1 g2 g3 g4 =>
          obtain ⟨m1, m2, m3⟩ := main xs ys _ _ _ _ (by simp [PyData.depth] at hd; omega) h4 g4 la lb hk
          rw [← m3]
          exact RcLt.lists ⟨_, h1, h2, _, h3⟩ ⟨_, g1, g2, _, g3⟩ (by omega) m1 m2
    · rename_i xs ys
      have hk : ltvs xs ys = some k := by simpa [ltv] using h
      cases ra with
      | tuple h1 h2 h3 h4 =>
        cases rb with
        | tuple g1 g2 g3 g4 =>
          obtain ⟨m1, m2, m3⟩ := main xs ys _ _ _ _ (by simp [PyData.depth] at hd; omega) h4 g4 la lb hk
          rw [← m3]
          exact RcLt.tuples ⟨_, h1, h2, _, h3⟩ ⟨_, g1, g2, _, g3⟩ (by omega) m1 m2
end LtD

namespace L3
open PySem PySem.Spec L2
section
variable {Y : Pc} {X : Cx} {W : WX} {a b c e : Expr} {ra rb rc : Ev → Store → Res D} {pos : Pos} {K : PySem.W.Frag} {F H : Hp} {ρ : List Addr} {S : Store}
def rLtD (K : PySem.W.Frag) : R2 := fun x y H Q => ∃ d e k, Dp K H x d ∧ Dp K H y e ∧ d.canLay0 = true ∧ e.canLay0 = true ∧ d.depth ≤ 60 ∧ LtD.ltv d e = some k ∧ Q (.bl k) H
theorem op_ltD (hu : X.A.units + 64 < cLine) : OpR X (compareOp .Lt) (rLtD X.K) := by
  intro pins s σ H x y v u Q I rx ry h
  obtain ⟨d, e, k, hd, he, ld, le, dd, hk, q⟩ := h
  obtain ⟨as, r1⟩ := Dp.reads I d x v hd rx
  obtain ⟨bs, r2⟩ := Dp.reads I e y u he ry
  exact LtD.rcLt_reads 60 d e X.A s v u as bs k dd r1 r2 ld le (by omega) hk X.prog X.w X.xe _ ⟨.bl k, H, I, rfl, q⟩
def ltDD : Op2 := fun S x y => match x, y with
  | .int i, .int j => some (.bl (decide (i < j)))
  | .str s, .str t => some (.bl (lt2 s t))
  | _, _ => if eqPre (unloc S x) (unloc S y) = true then (LtD.ltv (unloc S x).py (unloc S y).py).map fun k => .bl k else none
theorem ltDD_deep {x y : V} {dx dy d : D} {Q : VK} (R : SR K Y F ρ S H) (rx : RD K F ρ x dx) (ry : RD K F ρ y dy) (e : (if eqPre (unloc S dx) (unloc S dy) = true then (LtD.ltv (unloc S dx).py (unloc S dy).py).map fun k => D.bl k else none) = some d)
    (k : ∀ F' H' u, SR K Y F' ρ S H' → Nx F ρ H F' ρ H' → RD K F' ρ u d → Q u H') : rLtD K x y H Q := by
  by_cases h : eqPre (unloc S dx) (unloc S dy) = true
  · rw [if_pos h] at e
    obtain ⟨f1, f2, d1, d2⟩ := eqPre_ok h
    obtain ⟨p1, l1⟩ := dp_un R rx f1
    obtain ⟨p2, l2⟩ := dp_un R ry f2
    cases e1 : LtD.ltv (unloc S dx).py (unloc S dy).py with
    | none => rw [e1] at e; cases e
    | some b =>
      rw [e1] at e; cases e
      exact ⟨_, _, b, p1, p2, l1, l2, d1, e1, now_bl R k⟩
  · rw [if_neg h] at e; cases e
theorem sop_ltA {k : Nat} (C : Ok X W k) : SOp Y X (compareOp .Lt) ltDD := ⟨_, op_lt.or (op_lt_str.or (op_ltD C.room.units)), fun F ρ S H x y dx dy d Q R rx ry e k => by
  cases rx with
  | int i =>
    cases ry with
    | int j => cases e; exact .inl ⟨_, _, rfl, rfl, now_bl R k⟩
    | non => exact .inr (.inr (ltDD_deep R (.int i) .non e k))
    | bl b => exact .inr (.inr (ltDD_deep R (.int i) (.bl b) e k))
    | str s hs => exact .inr (.inr (ltDD_deep R (.int i) (.str s hs) e k))
    | lst h1 h2 => exact .inr (.inr (ltDD_deep R (.int i) (.lst h1 h2) e k))
    | tup h1 h2 => exact .inr (.inr (ltDD_deep R (.int i) (.tup h1 h2) e k))
    | loc h1 => exact .inr (.inr (ltDD_deep R (.int i) (.loc h1) e k))
    | scr h1 => exact .inr (.inr (ltDD_deep R (.int i) (.scr h1) e k))
    | dct a b c => exact .inr (.inr (ltDD_deep R (.int i) (.dct a b c) e k))
  | str s hs =>
    cases ry with
    | str t ht => cases e; exact .inr (.inl ⟨_, _, rfl, rfl, now_bl R k⟩)
    | non => exact .inr (.inr (ltDD_deep R (.str s hs) .non e k))
    | bl b => exact .inr (.inr (ltDD_deep R (.str s hs) (.bl b) e k))
    | int j => exact .inr (.inr (ltDD_deep R (.str s hs) (.int j) e k))
    | lst h1 h2 => exact .inr (.inr (ltDD_deep R (.str s hs) (.lst h1 h2) e k))
    | tup h1 h2 => exact .inr (.inr (ltDD_deep R (.str s hs) (.tup h1 h2) e k))
    | loc h1 => exact .inr (.inr (ltDD_deep R (.str s hs) (.loc h1) e k))
    | scr h1 => exact .inr (.inr (ltDD_deep R (.str s hs) (.scr h1) e k))
    | dct a b c => exact .inr (.inr (ltDD_deep R (.str s hs) (.dct a b c) e k))
  | non => exact .inr (.inr (ltDD_deep R .non ry e k))
  | bl b => exact .inr (.inr (ltDD_deep R (.bl b) ry e k))
  | lst h1 h2 => exact .inr (.inr (ltDD_deep R (.lst h1 h2) ry e k))
  | tup h1 h2 => exact .inr (.inr (ltDD_deep R (.tup h1 h2) ry e k))
  | loc h1 => exact .inr (.inr (ltDD_deep R (.loc h1) ry e k))
  | dct a b c => exact .inr (.inr (ltDD_deep R (.dct a b c) ry e k))
  | scr h1 => exact .inr (.inr (ltDD_deep R (.scr h1) ry e k))⟩

/-! ### isinstance(x, T), T one of int, bool, str, tuple, list -/
inductive Tn where
  | int | bool | str | tuple | list
  deriving DecidableEq
def Tn.s : Tn → String
  | .int => "int" | .bool => "bool" | .str => "str" | .tuple => "tuple" | .list => "list"
def tnD (S : Store) : D → Option (Option Tn)
  | .non => some none
  | .bl _ => some (some .bool)
  | .int _ => some (some .int)
  | .str _ => some (some .str)
  | .lst _ => some (some .list)
  | .tup _ => some (some .tuple)
  | .loc i => match S[i]? with
    | some (.lst _) => some (some .list)
    | _ => none
  | .scr _ => none
  | .dct _ _ => none
def isT (o : Option Tn) (t : Tn) : Bool := match o with
  | none => false
  | some u => decide (u = t) || (decide (u = .bool) && decide (t = .int))
def isiD (t : Tn) : Op1 := fun S x => (tnD S x).map fun o => .bl (isT o t)
theorem kit_tab : ∀ (u t : Tn), kitB u.s t.s = some (isT (some u) t) := by
  intro u t
  cases u <;> cases t <;> decide +kernel
theorem kit_non : ∀ (t : Tn), kitB "NoneType" t.s = some (isT none t) := by
  intro t
  cases t <;> decide +kernel
theorem ty_of {x : V} {d : D} {o : Option Tn} (R : SR K Y F ρ S H) (r : RD K F ρ x d) (h : tnD S d = some o) : ∃ t : String, TyX K H x (.type t) ∧ ∀ u : Tn, kitB t u.s = some (isT o u) := by
  cases r with
  | non => cases h; exact ⟨_, .base .non, kit_non⟩
  | bl b => cases h; exact ⟨_, .base (.bl b), kit_tab .bool⟩
  | int i => cases h; exact ⟨_, .base (.int i), kit_tab .int⟩
  | str s hs => cases h; exact ⟨_, .base (.str _), kit_tab .str⟩
  | lst h1 h2 => cases h; exact ⟨_, .base (.lst (R.ex _ _ h1)), kit_tab .list⟩
  | tup h1 h2 =>
    cases h
    rcases h1 with (h1 | ⟨o, h1⟩) | ⟨o, its, n, h1, h3, _⟩
    · exact ⟨_, .base (.tup (R.ex _ _ h1)), kit_tab .tuple⟩
    · exact ⟨_, .fTuple (R.ex _ _ h1), kit_tab .tuple⟩
    · exact ⟨_, .kTuple h1 h3, kit_tab .tuple⟩
  | loc h1 =>
    rename_i i p
    unfold tnD at h
    dsimp only at h
    cases e : S[i]? with
    | none => rw [e] at h; cases h
    | some c =>
      rw [e] at h
      cases c with
      | lst ds =>
        cases h
        obtain ⟨_, xs, q1, _⟩ := R.cell i p _ h1 e
        exact ⟨_, .base (.lst q1), kit_tab .list⟩
      | _ => cases h
  | scr h1 => cases h
  | dct a b c => cases h
theorem boot_tn : ∀ t : Tn, bootBuiltins (Str.ofString t.s) = some (.type t.s) := by
  intro t
  cases t <;> decide +kernel
theorem se_isi {x T : Str} {p p2 : Pos} (t : Tn) (hT : T = Str.ofString t.s := by rfl) (hx : x = "isinstance" := by rfl) (hm : X.mg "isinstance" = none) (hmT : X.mg T = none) (ha : SE Y X W a ra) (hg : Gl X x := by rfl) (hgT : Gl X T := by rfl)
    (hn : T ≠ "__name__" := by decide) (hd : (T == ("__debug__" : Str)) = false := by decide) (he : starEach [a, .Name T p2] X.env = (false, eval a X.env) :: starEach [.Name T p2] X.env := by rfl) (he2 : starEach [.Name T p2] X.env = (false, eval (.Name T p2) X.env) :: starEach [] X.env := by rfl)
    (hpl : (backTo pos (starEach [.Name T p2] X.env)).any (·.1) = false := by rfl) : SE Y X W (.Call (.Name x p) [a, .Name T p2] [] pos) (r1 (isiD t) ra) := by
  subst hx
  obtain ⟨ta, a1, a2⟩ := ha.ex
  have pT : PE X (.Name T p2) (tC (.ty t.s)) := pe_bltn hgT hmT (by rw [hT]; exact boot_tn t) rfl hn hd
  refine ⟨_, pe_callB call_isi hg hm (by decide +kernel) (pa_cons a1 (pa_cons pT pa_nil he2) he) (by decide) (by decide) he hpl, fun F ρ S H σ env Q R E h => a2.then R E h fun d u S1 F1 ρ1 H1 R1 n1 E1 ru o1 => ?_⟩
  obtain ⟨z, hz, k⟩ := lift_out o1
  unfold isiD at hz
  cases e : tnD S1 d with
  | none => rw [e] at hz; cases hz
  | some o =>
    rw [e] at hz; cases hz
    obtain ⟨s, h1, h2⟩ := ty_of R1 ru e
    exact ⟨u, .ty t.s, .type s, .type t.s, isT o t, rfl, .ty _, h1, kit_ty (h2 t), now_bl R1 fun F' H' u R' n' r' => k F' ρ1 H' R' n' u r'⟩
end
end L3
set_option Elab.async false
set_option linter.all false
set_option maxRecDepth 100000
set_option maxHeartbeats 2000000
/-! the module's constants -/
namespace L3
open PySem PySem.Spec L2
section
variable {Y : Pc} {X : Cx} {W : WX} {pos : Pos} {K : PySem.W.Frag} {F H : Hp} {ρ : List Addr}
theorem okT_of {l : List Nat} (ho : l.all (fun c => decide (c < 1114112)) = true) : OkT l := fun c hc => of_decide_eq_true (List.all_eq_true.mp ho c hc)
theorem se_gstr {x z : Str} {l : List Nat} (h : ∃ t, X.mg x = some (.str z t)) (hz : z.cps.toList = l := by decide +kernel) (ho : l.all (fun c => decide (c < 1114112)) = true := by decide +kernel) (hg : Gl X x := by rfl) (hd : (x == ("__debug__" : Str)) = false := by decide) : SE Y X W (.Name x pos) (rC (.str l)) := by
  obtain ⟨t, h⟩ := h
  refine se_glob hg h (v := .str z) ⟨t, rfl⟩ (fun F ρ => ?_) hd
  rw [tx_of hz]
  exact .str l (okT_of ho)
theorem se_gint {x : Str} {i : Int} (h : ∃ t, X.mg x = some (.int i t)) (hg : Gl X x := by rfl) (hd : (x == ("__debug__" : Str)) = false := by decide) : SE Y X W (.Name x pos) (rC (.int i)) := by
  obtain ⟨t, h⟩ := h
  exact se_glob hg h (v := .int i) ⟨t, rfl⟩ (fun F ρ => .int i) hd
theorem rds_strs : ∀ (ls : List (List Nat)), ls.all (fun l => l.all (fun c => decide (c < 1114112))) = true → RDs K F ρ (ls.map fun l => .str (tx l)) (ls.map .str)
  | [], _ => .nil
  | l :: ls, h => by
    rw [List.all_cons, Bool.and_eq_true] at h
    exact .cons (.str l (okT_of h.1)) (rds_strs ls h.2)
theorem se_gtup {x : Str} {ls : List (List Nat)} (h : ∃ a, X.mg x = some (.ref a) ∧ ∀ H, SqT X.K H a (ls.map fun l => .str (tx l))) (ho : ls.all (fun l => l.all (fun c => decide (c < 1114112))) = true := by decide +kernel) (hg : Gl X x := by rfl) (hd : (x == ("__debug__" : Str)) = false := by decide) : SE Y X W (.Name x pos) (rC (.tup (ls.map .str))) := by
  obtain ⟨a, h1, h2⟩ := h
  exact se_glob hg h1 (v := .ref a) rfl (fun F ρ => .tup (h2 F) (rds_strs ls ho)) hd
end
end L3
namespace L2
open PySem PySem.Spec PyProof.Rows
theorem vals_signs : ∀ (l : List Nat) (us : List Value), l.length = us.length → (∀ (i : Nat) (v : Value), us[i]? = some v → ∃ c u, l[i]? = some c ∧ v = .str ⟨#[c]⟩ u) → Vals (l.map fun c => V.str ⟨#[c]⟩) us
  | [], [], _, _ => .nil
  | [], _ :: _, h, _ => by simp at h
  | _ :: _, [], h, _ => by simp at h
  | c :: l, u :: us, h, k => by
    obtain ⟨c', t, e1, e2⟩ := k 0 u rfl
    simp at e1
    subst e1
    exact .cons ⟨t, e2⟩ (vals_signs l us (by simpa using h) fun i v e => by
      obtain ⟨c2, t2, h1, h2⟩ := k (i + 1) v (by simpa using e)
      exact ⟨c2, t2, by simpa using h1, h2⟩)
theorem call_list_S {X : Cx} (hc : X.calm = true) : CallR X (.type "list") (fun xs H Q => ∃ x, xs = [.str x] ∧ x.length ≤ sizeLine ∧ ∀ l, H l = none → Q (.ref l) (upd H l (.lst (x.cps.toList.map fun c => .str ⟨#[c]⟩)))) := by
  intro pins s σ H xs us Q I r h
  obtain ⟨x, rfl, hz, q⟩ := h
  obtain ⟨u, rfl, rx⟩ := vals1 r
  obtain ⟨t, rfl⟩ := rx
  have hz' : x.cps.size ≤ sizeLine := hz
  refine call_list_str (I.ok.hd hc) x t (fun h' tk acc c' kp e hi => ?_) hz'
  obtain ⟨hs, hv⟩ := hi
  refine ⟨.ref s.heap.objs.size, _, I.laid (t' := tk) kp (Nat.le_refl _) (show ObjOk X.prog X.w _ h' _ (.lst (x.cps.toList.map fun c => .str ⟨#[c]⟩)) from ⟨by simpa using hz', acc.toList, c', ?_, by simpa using e⟩), rfl, q _ (I.hok.fresh (Nat.le_refl _))⟩
  refine vals_signs _ _ (by simpa using hs.symm) fun i v hiv => ?_
  obtain ⟨c, u, h1, h2⟩ := hv i v (by simpa using hiv)
  exact ⟨c, u, by simpa using h1, h2⟩
end L2
namespace L3
open PySem PySem.Spec L2
section
variable {Y : Pc} {X : Cx} {W : WX} {pos : Pos} {K : PySem.W.Frag} {F H : Hp} {ρ : List Addr}
def listSD : OpN := fun _ xs => match xs with
  | [.str s] => if s.length ≤ 100000 then some (.lst (s.map fun c => .str [c])) else none
  | _ => none
theorem rds_signs : ∀ (s : List Nat), OkT s → RDs K F ρ (s.map fun c => V.str ⟨#[c]⟩) (s.map fun c => D.str [c])
  | [], _ => .nil
  | c :: s, h => .cons (.str [c] fun c' hc => by rw [List.mem_singleton.mp hc]; exact h c List.mem_cons_self) (rds_signs s fun c' hc => h c' (List.mem_cons_of_mem _ hc))
theorem scall_listS {k : Nat} (C : Ok X W k) : SCall Y X (.type "list") listSD := ⟨_, call_list_S C.calm, fun F ρ S H xs ds d Q R rx e k => by
  match ds, rx, e with
  | [.str s], .cons (.str _ hs) .nil, e =>
    have e : (if s.length ≤ 100000 then some (D.lst (s.map fun c => D.str [c])) else none) = some d := e
    by_cases h : s.length ≤ 100000
    · rw [if_pos h] at e; cases e
      exact ⟨_, rfl, by rw [tx_len]; exact small _ h, fun l hl => now_lst R (rds_signs s hs) hl k⟩
    · rw [if_neg h] at e; cases e⟩
def listA : OpN := fun S xs => (listD S xs).or (listSD S xs)
theorem scall_listA {k : Nat} (C : Ok X W k) : SCall Y X (.type "list") listA := scall_list.or (scall_listS C)
/-- sep.join(list or tuple of texts) -/
def strsOf : List D → Option (List (List Nat))
  | [] => some []
  | .str s :: ds => (strsOf ds).map (s :: ·)
  | _ :: _ => none
theorem strs_rd : ∀ {ds : List D} {xs : List V} {ls : List (List Nat)}, RDs K F ρ xs ds → strsOf ds = some ls → xs = (ls.map tx).map V.str ∧ ∀ l ∈ ls, OkT l
  | [], _, _, h, e => by cases h; cases e; exact ⟨rfl, fun _ h => by simp at h⟩
  | d :: ds, _, ls, h, e => by
    cases h with
    | cons h1 h2 =>
      cases h1 with
      | str s hs =>
        have e : (strsOf ds).map (s :: ·) = some ls := e
        cases e2 : strsOf ds with
        | none => rw [e2] at e; cases e
        | some ms =>
          rw [e2] at e
          cases e
          obtain ⟨q1, q2⟩ := strs_rd h2 e2
          exact ⟨by simp [q1], fun l hl => by
            rcases List.mem_cons.mp hl with z | z
            · rw [z]; exact hs
            · exact q2 l z⟩
      | _ => cases e
theorem okT_join {sep : List Nat} (hs : OkT sep) : ∀ (ls : List (List Nat)), (∀ l ∈ ls, OkT l) → OkT (TL.joinL sep ls)
  | [], _ => fun c h => by simp [TL.joinL] at h
  | [x], h => h x (by simp)
  | x :: y :: r, h => (h x (by simp)).app (hs.app (okT_join hs (y :: r) fun l hl => h l (List.mem_cons_of_mem _ hl)))
theorem tx_join (sep : List Nat) (ls : List (List Nat)) : Txt.join (tx sep) (ls.map tx) = tx (TL.joinL sep ls) := by
  rw [TL.join_eq]
  refine TL.ext_tl ?_
  rw [TL.tl_join, List.map_map]
  show TL.joinL sep (ls.map ((fun x : Str => x.cps.toList) ∘ tx)) = TL.joinL sep ls
  congr 1
  exact List.map_id _
def joinD : OpM := fun S x xs => match x, xs with
  | .str s, [.lst ds] => match strsOf ds with
    | some ls => if (ls.map List.length).sum + ls.length * s.length ≤ 100000 then some (.str (TL.joinL s ls), S) else none
    | none => none
  | _, _ => none
theorem smt_join : SMt Y X "str" "str.join" tyStr joinD := ⟨⟨_, mt_join, fun F ρ S S' H x dx d xs ds Q R rx rxs e k => by
  match dx, ds, rxs, rx, e with
  | .str s, [.lst ds], .cons (.lst h1 h2) .nil, .str _ hs, e =>
    have e : (match strsOf ds with
      | some ls => if (ls.map List.length).sum + ls.length * s.length ≤ 100000 then some (D.str (TL.joinL s ls), S) else none
      | none => none) = some (d, S') := e
    cases e1 : strsOf ds with
    | none => rw [e1] at e; cases e
    | some ls =>
      rw [e1] at e
      dsimp only at e
      by_cases h : (ls.map List.length).sum + ls.length * s.length ≤ 100000
      · rw [if_pos h] at e; cases e
        obtain ⟨q1, q2⟩ := strs_rd h2 e1
        subst q1
        have hlen : ((ls.map tx).map (·.length)).sum + (ls.map tx).length * (tx s).length ≤ 16777216 := by
          rw [List.map_map]
          have : ((fun x : Str => x.length) ∘ tx) = List.length := by funext l; exact tx_len l
          rw [this, List.length_map, tx_len]
          omega
        refine ⟨tx s, _, ls.map tx, rfl, rfl, .inl (SqL.of (R.ex _ _ h1)), hlen, ?_⟩
        rw [tx_join]
        exact now_str R (okT_join hs ls q2) k
      · rw [if_neg h] at e; cases e⟩, tyStr_ok⟩
end
end L3
set_option Elab.async false
set_option linter.all false
set_option maxRecDepth 100000
set_option maxHeartbeats 2000000
/-! whatever is walked -/
namespace L3
open PySem PySem.Spec L2
section
variable {Y : Pc} {X : Cx} {W : WX} {a tg iter : Expr} {ra : Ev → Store → Res D} {pos : Pos} {K : PySem.W.Frag} {F H : Hp} {ρ : List Addr}
def iAny (ra : Ev → Store → Res D) : Ev → Store → Res (List D) := fun env S => (ra env S).bind fun d S1 => match d with
  | .lst ds => .ok ds S1
  | .tup ds => .ok ds S1
  | .str s => .ok (s.map fun c => .str [c]) S1
  | _ => .stuck
theorem walks_str (s : List Nat) (hs : OkT s) : WalksJ K Y (Its (tx s)) F ρ (s.map fun c => .str [c]) := fun F2 ρ2 S2 H2 e p R2 i => by
  refine ⟨fun d hd => ?_, fun hi => ?_⟩
  · rw [List.getElem?_map] at hd
    cases q : s[i]? with
    | none => rw [q] at hd; cases hd
    | some c =>
      rw [q] at hd; cases hd
      have hl := (List.getElem?_eq_some_iff.mp q).1
      refine ⟨by show i < s.toArray.size; simpa using hl, fun x H' y => ?_⟩
      obtain ⟨rfl, c', e1, rfl⟩ := y
      have e1 : s.toArray[i]? = some c' := e1
      simp only [List.getElem?_toArray] at e1
      rw [q] at e1; cases e1
      exact ⟨F2, R2, Nx.refl _ _ _, .str [c] (fun c' h => by rw [List.mem_singleton.mp h]; exact hs _ (List.mem_of_getElem? q))⟩
  · show s.toArray.size ≤ i
    simpa using hi
theorem si_any (ha : SE Y X W iter ra) : SI Y X W tg iter (iAny ra) := by
  obtain ⟨ta, a1, a2⟩ := ha.ex
  refine ⟨_, (pi_list a1).or ((pi_tup a1).or (pi_str a1)), fun F ρ S H σ env Q R E h => ?_⟩
  have h' := h
  unfold iAny at h'
  cases e : ra env S with
  | stuck => rw [e] at h'; exact False.elim h'
  | exc c S1 =>
    refine .inl (a2 F ρ S H σ env _ R E ?_)
    rw [e] at h' ⊢
    exact h'
  | ok d S1 =>
    rw [e] at h'
    cases d with
    | lst ds =>
      refine .inl (a2 F ρ S H σ env _ R E ?_)
      rw [e]
      intro F1 ρ1 H1 R1 n1 u ru
      cases ru with
      | lst h1 h2 => exact ⟨_, rfl, ⟨_, SqL.of (R1.ex _ _ h1)⟩, h' F1 ρ1 H1 R1 n1 _ (walks_list (SqL.of h1) h2)⟩
    | tup ds =>
      refine .inr (.inl (a2 F ρ S H σ env _ R E ?_))
      rw [e]
      intro F1 ρ1 H1 R1 n1 u ru
      cases ru with
      | tup h1 h2 => exact ⟨_, rfl, ⟨_, ex_t R1.ex h1⟩, h' F1 ρ1 H1 R1 n1 _ (walks_tup h1 h2)⟩
    | str s =>
      refine .inr (.inr (a2 F ρ S H σ env _ R E ?_))
      rw [e]
      intro F1 ρ1 H1 R1 n1 u ru
      cases ru with
      | str _ hs => exact ⟨_, rfl, h' F1 ρ1 H1 R1 n1 _ (walks_str s hs)⟩
    | _ => exact False.elim h'
end
end L3
set_option Elab.async false
set_option linter.all false
set_option maxRecDepth 100000
set_option maxHeartbeats 2000000
/-! the end: a hook of facts with one more test; the law's promise -/
namespace He
open PySem PySem.Spec PyProof.Rows L2
abbrev AlEx : Type := AlD × Bool
def obsEx (n : Nat) (fa : List Fa) (fn : List DefD) (ex : PySem.W.Frag → Bool) (g : Addr → Option Obj) : AlEx := (obsD fa fn (frG g (asD g n)), ex (frG g (asD g n)))
def hookEx (n : Nat) (fa : List Fa) (fn : List DefD) (ex : PySem.W.Frag → Bool) : PySem.W.Hook where
  α := AlEx
  obs := fun s => obsEx n fa fn ex s.heap.get?
  val := fun _ => (valD fn, true)
  says := fun _ h => ∃ K : PySem.W.Frag, K.In h ∧ SaysD fa fn K ∧ ex K = true
  of := fun _ _ e => ⟨_, frG_in, congrArg (fun z : AlEx => z.1) e, congrArg (fun z : AlEx => z.2) e⟩
  keeps := fun _ _ _ ⟨K, hK, c⟩ k => ⟨K, PySem.W.Frag.In.keeps hK k, c⟩
theorem obsEx_eq {n : Nat} {fa : List Fa} {fn : List DefD} {ex : PySem.W.Frag → Bool} {g : Addr → Option Obj} {s : Shared} (h : ∀ a, g a = s.heap.get? a) : obsEx n fa fn ex g = (hookEx n fa fn ex).obs s := by
  have e : g = s.heap.get? := funext h
  rw [e] <;> rfl
end He
namespace L3
open PySem PySem.Spec L2
theorem fn0 {P : Program} {w : World} {K : PySem.W.Frag} {mg : Str → Option Value} {base : Heap} {k : Nat} {f : Addr} {fd : FuncData} {ps : List Str} {sp : Sp} (F : FnOk P w K mg base (L2.CX P w) k f fd ps sp) :
    FnOk P w K mg base CX0 k f fd ps (fun vs H Q _ => sp vs H Q E0) := ⟨fun vs H Q E h => F.len vs H Q E0 h, fun A outer s H args us vs Q E hr he hb hv hs => codeAny_mono (F.run A outer s H args us vs Q E0 hr he hb hv hs) fun r s' q => by
  cases r with
  | error e =>
    obtain ⟨_, _, _, _, _, _, _, _, _, _, _, _, z⟩ := q
    exact z
  | ok fl => cases fl <;> exact q⟩
theorem law_sp {K : PySem.W.Frag} {Y : Pc} {m : FSem} {H : Hp} {a : Addr} {ns : List Int} (hS : SqL K H a (ns.map V.int)) (h : ∃ S, m [] [.scr ns] = .ok (.bl true) S) : spOf K Y m 1 [.ref a] H (fun v _ => v = .bl true) E0 := by
  obtain ⟨S, e⟩ := h
  refine ⟨rfl, H, [], [], [.scr ns], ⟨Ex.refl H, rfl, List.nodup_nil, fun _ h => by simp at h, fun i a c h => by simp at h⟩, .cons (.scr hS) .nil, ?_⟩
  rw [e]
  intro F' ρ' H' R n u ru
  cases ru
  rfl
end L3
set_option Elab.async false
set_option linter.all false
set_option maxRecDepth 100000
set_option maxHeartbeats 2000000
/-! texts in order, lists read from their end -/
namespace L3
open PySem PySem.Spec L2 PyProof.Rows
section
variable {Y : Pc} {X : Cx} {W : WX} {e : Expr} {pos : Pos} {K : PySem.W.Frag} {F H : Hp} {ρ : List Addr} {S : Store} {ra : Ev → Store → Res D}
/-! ### x[::-1] -/
def revD : Op1 := fun S x => (seqD S x).map fun ds => .lst ds.reverse
theorem RDs.rev : ∀ {ds : List D} {xs : List V}, RDs K F ρ xs ds → RDs K F ρ xs.reverse ds.reverse
  | [], _, h => by cases h; exact .nil
  | d :: ds, _, h => by
    cases h with
    | cons h1 h2 =>
      rw [List.reverse_cons, List.reverse_cons]
      exact (RDs.rev h2).append (.cons h1 .nil)
theorem se_rev {k : Nat} {p1 p2 p3 : Pos} (ha : SE Y X W e ra) : SE Y X W (.Subscript e (.Slice none none (some (.UnaryOp .USub (.Constant (.int 1) k p1) p2)) p3) pos) (r1 revD ra) := by
  obtain ⟨ta, a1, a2⟩ := ha.ex
  refine ⟨_, pe_revL a1, fun F ρ S H σ env Q R E h => a2.then R E h fun d u S1 F1 ρ1 H1 R1 n1 E1 ru o1 => ?_⟩
  obtain ⟨z, hz, k⟩ := lift_out o1
  unfold revD at hz
  cases e1 : seqD S1 d with
  | none => rw [e1] at hz; cases hz
  | some ds =>
    rw [e1] at hz; cases hz
    obtain ⟨p, xs, rfl, hp, hx⟩ := seq_rd R1 ru e1
    exact ⟨_, _, rfl, SqL.of hp, fun q hq => now_lst R1 hx.rev hq fun F' H' u R' n' r' => k F' ρ1 H' R' n' u r'⟩
/-! ### sorted of texts -/
def insN (x : List Nat) : List (List Nat) → List (List Nat)
  | [] => [x]
  | y :: ys => if x ≤ y then x :: y :: ys else y :: insN x ys
def sortN : List (List Nat) → List (List Nat)
  | [] => []
  | x :: xs => insN x (sortN xs)
theorem ins_perm (x : List Nat) : ∀ ys, (insN x ys).Perm (x :: ys)
  | [] => List.Perm.refl _
  | y :: ys => by
    unfold insN
    split
    · exact List.Perm.refl _
    · exact ((ins_perm x ys).cons y).trans (List.Perm.swap _ _ _)
theorem sort_perm : ∀ xs, (sortN xs).Perm xs
  | [] => List.Perm.refl _
  | x :: xs => (ins_perm x (sortN xs)).trans ((sort_perm xs).cons x)
theorem ins_up (x : List Nat) : ∀ ys : List (List Nat), ys.Pairwise (· ≤ ·) → (insN x ys).Pairwise (· ≤ ·)
  | [], _ => by simp [insN]
  | y :: ys, h => by
    have h1 := List.pairwise_cons.mp h
    unfold insN
    split
    · rename_i hx
      refine List.pairwise_cons.mpr ⟨fun z hz => ?_, h⟩
      rcases List.mem_cons.mp hz with rfl | hz
      · exact hx
      · exact List.le_trans hx (h1.1 z hz)
    · rename_i hx
      have hy : y ≤ x := (List.le_total x y).resolve_left hx
      refine List.pairwise_cons.mpr ⟨fun z hz => ?_, ins_up x ys h1.2⟩
      rcases List.mem_cons.mp ((ins_perm x ys).mem_iff.mp hz) with rfl | hz
      · exact hy
      · exact h1.1 z hz
theorem sort_up : ∀ xs, (sortN xs).Pairwise (· ≤ ·)
  | [] => .nil
  | x :: xs => ins_up x _ (sort_up xs)
theorem sort_uniq {xs ys : List (List Nat)} (p : ys.Perm xs) (h : ys.Pairwise (· ≤ ·)) : ys = sortN xs :=
  (p.trans (sort_perm xs).symm).eq_of_pairwise (fun _ _ _ _ h1 h2 => List.le_antisymm h1 h2) h (sort_up xs)
theorem sort_of_perm {xs ys : List (List Nat)} (p : ys.Perm xs) : sortN ys = sortN xs := sort_uniq ((sort_perm ys).trans p) (sort_up ys)
theorem rising_up : ∀ (r : List Str) (p : Str), risingS p r = true → ((p :: r).map fun z => z.cps.toList).Pairwise (· ≤ ·)
  | [], p, _ => by simp
  | x :: r, p, h => by
    rw [risingS, Bool.and_eq_true, ltCps_eq] at h
    have ih := rising_up r x h.2
    have hp : p.cps.toList ≤ x.cps.toList := by
      have := h.1
      simp at this
      exact this
    refine List.pairwise_cons.mpr ⟨fun z hz => ?_, ih⟩
    have ih1 := List.pairwise_cons.mp ih
    rcases List.mem_cons.mp hz with rfl | hz
    · exact hp
    · exact List.le_trans hp (ih1.1 z hz)
theorem sorted_up : ∀ {r : List Str}, sortedS r = true → (r.map fun z => z.cps.toList).Pairwise (· ≤ ·)
  | [], _ => .nil
  | x :: r, h => rising_up r x h
def sortedD : OpN := fun S xs => match xs with
  | [x] => (seqD S x).bind fun ds => (strsOf ds).bind fun ls => if ls.length < 64 then some (.lst ((sortN ls).map .str)) else none
  | _ => none
theorem rds_strO : ∀ (ls : List (List Nat)), (∀ l ∈ ls, OkT l) → RDs K F ρ ((ls.map tx).map V.str) (ls.map D.str)
  | [], _ => .nil
  | l :: ls, h => .cons (.str l (h l (by simp))) (rds_strO ls fun x hx => h x (by simp [hx]))
theorem scall_sorted {k : Nat} (C : Ok X W k) : SCall Y X (.builtin "sorted") sortedD := ⟨_, cr_sortedS, fun F ρ S H xs ds d Q R rx e k => by
  match ds, rx, e with
  | [x], .cons r .nil, e =>
    have e : ((seqD S x).bind fun ds => (strsOf ds).bind fun ls => if ls.length < 64 then some (D.lst ((sortN ls).map .str)) else none) = some d := e
    cases e1 : seqD S x with
    | none => rw [e1] at e; cases e
    | some ds =>
      rw [e1] at e
      have e : ((strsOf ds).bind fun ls => if ls.length < 64 then some (D.lst ((sortN ls).map .str)) else none) = some d := e
      cases e2 : strsOf ds with
      | none => rw [e2] at e; cases e
      | some ls =>
        rw [e2] at e
        have e : (if ls.length < 64 then some (D.lst ((sortN ls).map .str)) else none) = some d := e
        by_cases h : ls.length < 64
        · rw [if_pos h] at e; cases e
          obtain ⟨p, ys, rfl, hp, hx⟩ := seq_rd R r e1
          obtain ⟨q1, q2⟩ := strs_rd hx e2
          subst q1
          refine ⟨p, ls.map tx, rfl, SqL.of hp, by simpa using h, fun zs q hz hs hq => ?_⟩
          have p1 : (zs.map fun z => z.cps.toList).Perm ls := by
            have := hz.map fun z : Str => z.cps.toList
            rw [List.map_map] at this
            have e3 : ls.map ((fun z : Str => z.cps.toList) ∘ tx) = ls := List.map_id _
            rwa [e3] at this
          have p2 := sort_uniq p1 (sorted_up hs)
          have p3 : zs = (sortN ls).map tx := by
            rw [← p2, List.map_map]
            exact (List.map_id _).symm
          subst p3
          exact now_lst R (rds_strO _ fun l hl => q2 l ((sort_perm ls).mem_iff.mp hl)) hq k
        · rw [if_neg h] at e; cases e⟩
end
end L3
set_option Elab.async false
set_option linter.all false
set_option maxRecDepth 100000
set_option maxHeartbeats 2000000
/-! dicts that stay as they are, their keys texts -/
namespace L3
open PySem PySem.Spec L2 PyProof.Rows
section
variable {Y : Pc} {X : Cx} {W : WX} {a b e v : Expr} {es : List Expr} {pos : Pos} {K : PySem.W.Frag} {F H : Hp} {ρ : List Addr} {S : Store} {ra rb : Ev → Store → Res D} {rs : Ev → Store → Res (List D)}
theorem Out.pre {α : Type} {F1 H1 : Hp} {ρ1 : List Addr} {r : Res α} {ok : α → Store → Hp → List Addr → Hp → Prop} {ex : Value → Hp → Prop} (n : Nx F ρ H F1 ρ1 H1) (h : Out K Y F ρ H r ok ex) : Out K Y F1 ρ1 H1 r ok ex := by
  cases r with
  | ok a S => exact fun F' ρ' H' R n' => h F' ρ' H' R (n.trans n')
  | exc c S => exact fun F' ρ' H' R n' => h F' ρ' H' R (n.trans n')
  | stuck => exact h
/-- the pairs of a display: keys written as texts -/
abbrev pairV (ks : List (List Nat)) (us : List V) : List (V × V) := (ks.zip us).map fun p => (V.str (tx p.1), p.2)
def EvP (K : PySem.W.Frag) (Y : Pc) (W : WX) (trs : List (TE × TE)) (ks : List (List Nat)) (r : Ev → Store → Res (List D)) : Prop := ∀ (F : Hp) (ρ : List Addr) (S : Store) (H : Hp) (σ : L2.St) (env : Ev) (Q : List (V × V) → Hp → Prop), SR K Y F ρ S H → ER K F ρ σ env →
  Out K Y F ρ H (r env S) (fun ds _ F' ρ' H' => ∀ us, RDs K F' ρ' us ds → Q (pairV ks us) H') (fun c H' => W c none σ H') → tPairs trs σ H Q
structure SPs (Y : Pc) (X : Cx) (W : WX) (pos : Pos) (keys : List (Option Expr)) (vals : List Expr) (ks : List (List Nat)) (r : Ev → Store → Res (List D)) : Prop where
  ex : ∃ trs, PPs X pos keys vals trs ∧ EvP X.K Y W trs ks r
theorem sp_nil : SPs Y X W pos [] [] [] rNil := ⟨[], pps_nil, fun F ρ S H σ env Q R E h => Out.now h R [] .nil⟩
theorem sp_cons {x : Str} {l : List Nat} {j : Nat} {p : Pos} {keys : List (Option Expr)} {vals : List Expr} {ks : List (List Nat)} (hv : SE Y X W v ra) (hr : SPs Y X W pos keys vals ks rs) (h : x.cps.toList = l := by decide +kernel) :
    SPs Y X W pos (some (.Constant (.str x) j p) :: keys) (v :: vals) (l :: ks) (rCons ra rs) := by
  obtain ⟨tv, v1, v2⟩ := hv.ex
  obtain ⟨trs, r1, r2⟩ := hr.ex
  have hx := tx_of h
  refine ⟨_, pps_cons (pe_str (x := x)) v1 r1, fun F ρ S H σ env Q R E h => ?_⟩
  refine v2.then R E h fun d u S1 F1 ρ1 H1 R1 n1 E1 ru o1 => ?_
  refine r2 F1 ρ1 S1 H1 σ env _ R1 E1 (o1.bind.imp (fun ds S2 F2 ρ2 H2 R2 n2 o2 us rus => ?_) fun _ _ z => z)
  have q := Out.now o2 R2 (u :: us) (.cons (ru.mono n2.ex n2.pre) rus)
  rw [hx]
  exact q
theorem mergeK_new : ∀ (kvs acc : List (Key × V)), ((acc ++ kvs).map (·.1)).Nodup → mergeK acc kvs = acc ++ kvs
  | [], acc, _ => by simp [mergeK]
  | kv :: kvs, acc, h => by
    have e : valV acc kv.1 = none := by
      have q := valV_any kv.1 acc
      cases e : valV acc kv.1 with
      | none => rfl
      | some z =>
        exfalso
        rw [e] at q
        have q : (acc.any fun x => decide (x.1 = kv.1)) = true := q
        obtain ⟨x, hx, ex⟩ := List.any_eq_true.mp q
        have ex := of_decide_eq_true ex
        rw [List.map_append, List.nodup_append] at h
        exact h.2.2 x.1 (List.mem_map.mpr ⟨x, hx, rfl⟩) kv.1 (by simp) ex
    show mergeK (putK acc kv.1 kv.2) kvs = _
    rw [putK_new _ e, mergeK_new kvs (acc ++ [(kv.1, kv.2)]) (by simpa using h)]
    simp
def rDct (ks : List (List Nat)) (rs : Ev → Store → Res (List D)) : Ev → Store → Res D := fun env S => (rs env S).bind fun xs S1 => if xs.length = ks.length then .ok (.dct ks xs) S1 else .stuck
/-- the keys and values of a dict that stays -/
abbrev kvsOf (ks : List (List Nat)) (us : List V) : List (Key × V) := (ks.zip us).map fun p => (Sum.inr (tx p.1), p.2)
theorem kvs_fst : ∀ (ks : List (List Nat)) (us : List V), us.length = ks.length → (kvsOf ks us).map (·.1) = ks.map fun s => (Sum.inr (tx s) : Key)
  | [], _, _ => by simp [kvsOf]
  | k :: ks, [], h => by simp at h
  | k :: ks, u :: us, h => by
    have := kvs_fst ks us (by simpa using h)
    simp only [kvsOf, List.zip_cons_cons, List.map_cons] at this ⊢
    rw [this]
theorem kvs_snd : ∀ (ks : List (List Nat)) (us : List V), us.length = ks.length → (kvsOf ks us).map (·.2) = us
  | [], [], _ => rfl
  | [], u :: us, h => by simp at h
  | k :: ks, [], h => by simp at h
  | k :: ks, u :: us, h => by
    have := kvs_snd ks us (by simpa using h)
    simp only [kvsOf, List.zip_cons_cons, List.map_cons] at this ⊢
    rw [this]
theorem tx_inj0 {s t : List Nat} (h : tx s = tx t) : s = t := by
  have h := congrArg (fun z : Str => z.cps.toList) h
  simpa [tx] using h
theorem se_dct {keys : List (Option Expr)} {vals : List Expr} {ks : List (List Nat)} (h : SPs Y X W pos keys vals ks rs) (nd : ks.Nodup) (hall : keys.all (·.isSome) = true) (hl : keys.length = vals.length) (h0 : keys ≠ []) (h15 : keys.length ≤ 15) (hk : ks.length ≤ 15) :
    SE Y X W (.Dict keys vals pos) (rDct ks rs) := by
  obtain ⟨trs, a1, a2⟩ := h.ex
  refine ⟨_, pe_disp a1 hall hl h0 h15, fun F ρ S H σ env Q R E h => ?_⟩
  intro p hp
  obtain ⟨R1, n1⟩ := R.grown (o := .dK []) hp
  have fp : F p = none := by
    cases e : F p with
    | none => rfl
    | some u => rw [R.ex p u e] at hp; cases hp
  have pr : p ∉ ρ := fun m => R.there p m hp
  refine a2 F ρ S (upd H p (.dK [])) σ env _ R1 E ?_
  unfold rDct at h
  cases e : rs env S with
  | stuck => rw [e] at h; exact h
  | exc c S2 =>
    rw [e] at h
    exact Out.pre n1 h
  | ok ds S2 =>
    rw [e] at h
    have h : Out X.K Y F ρ H (if ds.length = ks.length then .ok (.dct ks ds) S2 else .stuck) (fun d _ F' ρ' H' => ∀ u, RD X.K F' ρ' u d → Q u H') (fun c H' => W c none σ H') := h
    by_cases hlen : ds.length = ks.length
    · rw [if_pos hlen] at h
      intro F2 ρ2 H2 R2 n2 us rus
      have ulen : us.length = ks.length := by rw [rus.length]; exact hlen
      have hp2 : H2 p = some (.dK []) := n2.fr p _ upd_same pr
      have fp2 : F2 p = none := by
        cases e : F2 p with
        | none => rfl
        | some u =>
          rcases n2.fh p (by rw [e]; simp) with q | q | q
          · exact absurd fp q
          · rw [upd_same] at q; cases q
          · exact absurd q pr
      have pr2 : p ∉ ρ2 := fun m => by
        rcases n2.rh p m with q | q
        · exact pr q
        · rw [upd_same] at q; cases q
      have kn : ((kvsOf ks us).map (·.1)).Nodup := by
        rw [kvs_fst ks us ulen]
        have : (ks.map fun s => (Sum.inr (tx s) : Key)).Nodup ↔ ks.Nodup := by
          unfold List.Nodup
          rw [List.pairwise_map]
          constructor
          · intro q; exact q.imp fun n e => n (by rw [e])
          · intro q; exact q.imp fun n e => n (tx_inj0 (Sum.inr.inj e))
        exact this.mpr nd
      refine ⟨hp2, kvsOf ks us, ?_, ?_, ?_⟩
      · simp [pairV, kvsOf, kV]
      · have : (kvsOf ks us).length ≤ ks.length := by simp [kvsOf]; omega
        omega
      · have me : mergeK [] (kvsOf ks us) = kvsOf ks us := by
          rw [mergeK_new _ _ (by simpa using kn)]
          rfl
        rw [me]
        have e1 : Ex F2 (upd F2 p (.dK (kvsOf ks us))) := Ex.new fp2
        have np : ∀ a ∈ ρ2, a ≠ p := fun a m e => pr2 (e ▸ m)
        refine h (upd F2 p (.dK (kvsOf ks us))) ρ2 (upd H2 p (.dK (kvsOf ks us))) ⟨fun a u q => ?_, R2.len, R2.nd, fun a m => ?_, fun i a c q1 q2 => ?_⟩ ⟨n2.ex.trans e1, n2.pre, fun a u q m => ?_, fun a q => ?_, fun a m => ?_, fun a q => ?_⟩ _ (.dct upd_same (kvs_fst ks us ulen) (by rw [kvs_snd ks us ulen]; exact rus.mono e1 fun _ _ h => h))
        · by_cases z : a = p
          · subst z; rw [upd_same] at q ⊢; exact q
          · rw [upd_ne z] at q ⊢; exact R2.ex a u q
        · rw [upd_ne (np a m)]; exact R2.there a m
        · have ha : a ≠ p := np a (List.mem_of_getElem? q1)
          have k := R2.cell i a c q1 q2
          cases c with
          | dead => trivial
          | lst ds =>
            obtain ⟨k1, xs, k2, k3⟩ := k
            exact ⟨by rw [upd_ne ha]; exact k1, xs, by rw [upd_ne ha]; exact k2, k3.mono e1 fun _ _ h => h⟩
          | ins c fs =>
            obtain ⟨k1, dx, vs, k2, k3⟩ := k
            exact ⟨by rw [upd_ne ha]; exact k1, dx, vs, by rw [upd_ne ha]; exact k2, k3.mono e1 fun _ _ h => h⟩
          | dct kvs => exact k.elim
          | exn c => exact ⟨by rw [upd_ne ha]; exact k.1, by rw [upd_ne ha]; exact k.2⟩
        · have z : a ≠ p := fun z => by rw [z, hp] at q; cases q
          rw [upd_ne z]
          exact n2.fr a u (by rw [upd_ne z]; exact q) m
        · by_cases z : a = p
          · subst z; exact .inr (.inl hp)
          · rw [upd_ne z] at q
            rcases n2.fh a q with q | q | q
            · exact .inl q
            · rw [upd_ne z] at q; exact .inr (.inl q)
            · exact .inr (.inr q)
        · rcases n2.rh a m with q | q
          · exact .inl q
          · rw [upd_ne (np a m)] at q; exact .inr q
        · by_cases z : a = p
          · subst z; rw [upd_same]; simp
          · rw [upd_ne z]
            exact n2.hn a (by rw [upd_ne z]; exact q)
    · rw [if_neg hlen] at h; exact h.elim
/-! ### d[k] -/
def lkD : List (List Nat) → List D → List Nat → Option D
  | k :: ks, d :: ds, s => if k = s then some d else lkD ks ds s
  | _, _, _ => none
def dixD : Op2 := fun S x y => match x, y with
  | .dct ks ds, .str s => lkD ks ds s
  | _, _ => none
theorem lk_ok : ∀ {ks : List (List Nat)} {kvs : List (Key × V)} {ds : List D} {s : List Nat} {d : D}, kvs.map (·.1) = ks.map (fun s => Sum.inr (tx s)) → RDs K F ρ (kvs.map (·.2)) ds → lkD ks ds s = some d → ∃ v, valV kvs (Sum.inr (tx s)) = some v ∧ RD K F ρ v d
  | [], _, _, _, _, _, _, h => by cases h
  | k :: ks, [], _, _, _, h, _, _ => by simp at h
  | k :: ks, kv :: kvs, ds, s, d, h, r, e => by
    rw [List.map_cons, List.map_cons, List.cons.injEq] at h
    rw [List.map_cons] at r
    cases r with
    | cons r1 r2 =>
      unfold lkD at e
      by_cases z : k = s
      · rw [if_pos z] at e; cases e
        exact ⟨_, valV_pos (by rw [h.1, z]), r1⟩
      · rw [if_neg z] at e
        obtain ⟨v, q1, q2⟩ := lk_ok h.2 r2 e
        refine ⟨v, ?_, q2⟩
        rw [valV_neg (fun q => z ?_)]
        · exact q1
        · rw [h.1] at q
          exact tx_inj0 (Sum.inr.inj q)
theorem dix_ok : OpOk K Y dixD (fun x y H Q => ∃ a v, x = .ref a ∧ DGet H a y (some v) ∧ Q v H) := fun F ρ S H x y dx dy d Q R rx ry e k => by
  cases rx with
  | dct h1 h2 h3 =>
    cases ry with
    | str s hs =>
      have e : lkD _ _ s = some d := e
      obtain ⟨v, q1, q2⟩ := lk_ok h2 h3 e
      refine ⟨_, v, rfl, ?_, k F H v R (Nx.refl _ _ _) q2⟩
      have g := DGet.k (k := Sum.inr (tx s)) (R.ex _ _ h1)
      rw [q1] at g
      exact g
    | _ => cases e
  | _ => cases ry <;> cases e
theorem se_dix {k : Nat} (C : Ok X W k) (ha : SE Y X W a ra) (hb : SE Y X W b rb) (hs : NoSl b := by exact fun _ _ => rfl) : SE Y X W (.Subscript a b pos) (r2 dixD ra rb) := by
  obtain ⟨ta, a1, a2⟩ := ha.ex
  obtain ⟨tb, b1, b2⟩ := hb.ex
  exact ⟨_, pe_dget (by have := C.room.units; omega) a1 b1 hs, ev_op dix_ok a2 b2⟩
end
end L3
set_option Elab.async false
set_option linter.all false
set_option maxRecDepth 100000
set_option maxHeartbeats 2000000
/-! try: .., except C as e: m = e -/
namespace L2
open PySem PySem.Spec PyProof.Rows
section
variable {X : Cx} {pins : List (Addr × Obj)} {σ : St} {H : Hp} {s : Shared}
/-- a caught exception is told from here on -/
theorem Inv.track {a : Addr} {cls : Value} {oe : Obj} {vs : Array Value} (I : Inv X pins σ H s) (he : s.heap.get? a = some oe) (hz : Zc cls none oe) (hd : oe.data = .fields vs) (n0 : X.s_0.heap.get? a = none) (na : H a = none) (nL : a ≠ X.env.locals) (np : ∀ p ∈ X.pn ++ pins, p.1 ≠ a) :
    Inv X pins σ (upd H a (L3.ExK cls a)) s := by
  have n1 : ∀ b o, X.s_0.heap.get? b = some o → b ≠ a := fun b o e z => by rw [z, n0] at e; cases e
  refine ⟨I.ok, I.os, I.bare, ⟨I.base.keep, I.base.slot, fun b o e n hx => ?_, I.base.there, fun b xs e => ?_, fun b o u e => ?_, fun b ps e => ?_⟩, I.loc, I.cell, ?_, fun x c e => ?_, fun p hp => ?_, I.hok.laidN (fun _ _ z => z) na ⟨⟨oe, vs, he, hz, hd⟩, ⟨oe, he⟩, fun h1 h2 ⟨o, v, q, r⟩ k => ⟨o, v, k o q, r⟩⟩, I.len⟩
  · rw [upd_ne (n1 b o e)]; exact I.base.free b o e n hx
  · have q := I.base.tups b xs e
    rw [upd_ne (ne_of_none q na)]; exact q
  · have q := I.base.frzs b o u e
    rw [upd_ne (ne_of_none q na)]; exact q
  · obtain ⟨more, q⟩ := I.base.tbls b ps e
    exact ⟨more, by rw [upd_ne (ne_of_none q na)]; exact q⟩
  · rw [upd_ne (Ne.symm nL)]; exact I.free
  · have ca : c ≠ a := fun z => by
      obtain ⟨v, o, ho, hc⟩ := I.cell x c e
      rw [z, he] at ho; cases ho
      rw [hd] at hc; cases hc
    rw [upd_ne ca]; exact I.freeC x c e
  · obtain ⟨e, n, r⟩ := I.pin p hp
    exact ⟨e, by rw [upd_ne (np p hp)]; exact n, r⟩
end
/-- what is wished of an exception that is caught and kept in slot j -/
def wKeep (K : PySem.W.Frag) (c : Value) (i j : Nat) (D : Ends) : WX := fun cls d σ H => d = none ∧ PySem.W.exmOne K cls c = some true ∧ ∀ a, H a = none → D.nx (((σ.set i (some (.ref a))).set j (some (.ref a))).set i none) (upd H a (L3.ExK cls a))
section
variable {X : Cx} {x n m : Str} {c : Value} {i j : Nat} {body : List Stmt} {np ep mp apos pos pos' : Pos} {tb : WX → TS}
theorem ps_try_keep (hs : X.stack = X.env :: X.outer) (hf : X.env.frame = some X.env.locals) (hex : X.ex = []) (hN : X.N.Nodup) (hi : X.N[i]? = some n) (hj : X.N[j]? = some m) (hln : X.env.kindOf n = some .local) (hlm : X.env.scope.names.lookup m = some .local) (hvn : Vis X.env.scope n) (hdn : (n == ("__debug__" : Str)) = false) (hcn : (n == ("__classdict__" : Str)) = false) (hc : Names X x c)
    (hsw : swapsWith (.Name n ep) (some (.Name m mp)) apos.line X.env = pure false)
    (hb : ∀ (W : WX) (pn : List (Addr × Obj)) (xe : Value → Shared → Prop), Takes (X.tr pn xe) W → PassesOwn (model X.prog X.w) X.A X.env xe → PSs (X.tr pn xe) body (tb W)) :
    PS X (.Try body [.ExceptHandler (some (.Name x np)) (some n) [.Assign [.Name m mp] (.Name n ep) apos] pos'] [] [] pos) (fun D σ H => tb (wKeep X.K c i j D) D σ H) := by
  refine ⟨fun pins s σ H D I h => ?_⟩
  have ok := I.ok
  have hfr : X.A.frames = some (X.env :: X.outer) := by rw [ok.frames, hs]
  have hloc : Loc X.env.scope n := .inl hln
  have hilt : i < X.N.length := (List.getElem?_eq_some_iff.mp hi).1
  refine wpAny_Try_except ?_
  refine wpAny_mono ((hb (wKeep X.K c i j D) (X.pn ++ pins) (fun e s₁ => wpAny (model X.prog X.w) X.A (noteFrame e X.env) (fun _ s₂ => wpAny (model X.prog X.w) X.A (setFlight e none) (fun _ s₃ =>
    wpAny (model X.prog X.w) X.A (handleBy e X.env [.ExceptHandler (some (.Name x np)) (some n) [.Assign [.Name m mp] (.Name n ep) apos] pos']) (SP X pins D) X.xe s₃) X.xe s₂) X.xe s₁) (fun u s' xx => ?_) PassesOwn.looking).run [] s σ H D (I.toTry _) h) (fun f s1 hsp => ?_) (fun e s1 he => he)
  · obtain ⟨a, B, sI, pins', σ', H', cls, d, rfl, J', nb, up, sky, na, os, ag, rfl, hb1, hyes⟩ := xx
    have J : Inv X pins σ' H' sI := J'.ofTry ok
    have sky' : Sky B (X.env :: X.outer) a (Zc cls none) X.env.locals s'.heap := by rw [← hs]; exact sky
    show wpAny (model X.prog X.w) X.A (noteFrame (.ref a) X.env) _ _ _
    refine Sky.land Zc.steady hfr hf sky' fun h3 fl3 up3 => ?_
    have J3 : Inv X pins σ' H' { s' with heap := h3 } := J.landed nb fl3.1 (up.trans up3) os ag
    obtain ⟨oe3, vs3, he3, hz3, hd3⟩ := fl3.there
    have nfr : a ∉ frs (X.env :: X.outer) := fun hm => by
      obtain ⟨_, o', e', hnf⟩ := fl3.2.2.1.mem hm
      rw [he3] at e'; cases e'
      exact hnf _ hd3
    have nL : a ≠ X.env.locals := fun z => nfr (List.mem_filterMap.mpr ⟨X.env, List.mem_cons_self, by rw [hf, z]⟩)
    have nF : a ∉ X.fs := fun hm => by
      obtain ⟨e, he, q⟩ := List.mem_filterMap.mp hm
      exact nfr (List.mem_filterMap.mpr ⟨e, List.mem_cons_of_mem _ he, q⟩)
    have sIa : sI.heap.get? a = none := by
      cases e : sI.heap.get? a with
      | none => rfl
      | some o =>
        have z := nb a o e (by rw [hs]; exact nfr)
        rw [fl3.2.1] at z; cases z
    have n0 : X.s_0.heap.get? a = none := by
      cases e : X.s_0.heap.get? a with
      | none => rfl
      | some o =>
        obtain ⟨o', z⟩ := J.base.there a o e (by rw [hex]; exact fun z => nomatch z)
        rw [sIa] at z; cases z
    have npin : ∀ p ∈ X.pn ++ pins, p.1 ≠ a := fun p hp z => by
      have q := (J.pin p hp).1
      rw [z, sIa] at q; cases q
    have S3 := J3.suite he3 hd3 na nL nF
    refine wpAny_handleBy_cons (codeAny_handlers_test ?_) (by intro q; cases q)
    have LT : PySem.W.Looks (model X.prog X.w) h3 (typeOf (.ref a)) cls := fun A Q E s k q => wpAny_typeOf_ref (k _ _ he3) (by rw [hz3.1]; exact q)
    have LM := PySem.W.exm_one (M := model X.prog X.w) (J3.kIn) LT hb1
    have test : ∀ {Q : Value → Shared → Prop} {E : Value → Shared → Prop}, Q c { s' with heap := h3 } → wpAny (model X.prog X.w) (X.A.mark (some (.ref a))) (eval (.Name x np) X.env) Q E { s' with heap := h3 } := fun {Q E} q => by
      obtain ⟨hg, hdbg, hm | ⟨hm, hv, hnn⟩⟩ := hc
      · exact ld_glob (X := X.suite a ((a, oe3) :: (X.pn ++ pins))) S3 hg hm q hdbg
      · exact ld_blt (X := X.suite a ((a, oe3) :: (X.pn ++ pins))) S3 hg hm hv q hnn hdbg
    refine test (LM.here ?_)
    refine codeAny_handlers_suite_as ?_
    refine HandSPX.lands_againZ fl3 fun h4 fl4 up4 => ?_
    have J4 : Inv X pins σ' H' { s' with heap := h4 } := J.landed nb fl4.1 ((up.trans up3).trans up4) os ag
    obtain ⟨oe4, vs4, he4, hz4, hd4⟩ := fl4.there
    have S4 := J4.suite he4 hd4 na nL nF
    refine store_ok (X := X.suite a ((a, oe4) :: (X.pn ++ pins))) (v := .ref a) S4 hN hi hloc rfl (fun s5 S5 => ?_) (.inr hln)
    have st : PSs (X.suite a ((a, oe4) :: (X.pn ++ pins))) [.Assign [.Name m mp] (.Name n ep) apos] _ := pss_one (ps_set (X := X.suite a ((a, oe4) :: (X.pn ++ pins))) hN hj (.inl hlm) (pe_var hi hvn hdn hcn) hsw (.inr hlm))
    refine wpAny_mono (st.run [] s5 _ H' ⟨fun σ6 H6 => σ6 = (σ'.set i (some (.ref a))).set j (some (.ref a)) ∧ H6 = H', fun _ _ => False, fun _ _ => False, fun _ _ => False⟩ S5 ⟨.ref a, ?_, rfl, rfl⟩) (fun f s6 hsp => ?_) (fun _ _ z => False.elim z)
    · rw [List.getElem?_set_self (by rw [J.len]; exact hilt)]
    · cases f with
      | next =>
        obtain ⟨σ6, H6, S6, rfl, rfl⟩ := hsp
        have S7 : Inv X pins _ H6 s6 := S6.unsuite ok
        have he6 : s6.heap.get? a = some oe4 := (S6.pin (a, oe4) (by rw [List.append_nil]; exact List.mem_cons_self)).1
        have S8 := S7.track he6 hz4 hd4 n0 na nL npin
        exact gone_ok S8 hN hi hln fun s7 J7 => ⟨_, _, J7, hyes a na⟩
      | brk => obtain ⟨σ6, H6, S6, q⟩ := hsp; exact q.elim
      | cont => obtain ⟨σ6, H6, S6, q⟩ := hsp; exact q.elim
      | ret u => obtain ⟨v, σ6, H6, S6, _, q⟩ := hsp; exact q.elim
  · cases f with
    | next =>
      obtain ⟨σ', H', J', q⟩ := hsp
      exact wpAny_execs_nil ⟨σ', H', J'.ofTry ok, q⟩
    | brk =>
      obtain ⟨σ', H', J', q⟩ := hsp
      exact ⟨σ', H', J'.ofTry ok, q⟩
    | cont =>
      obtain ⟨σ', H', J', q⟩ := hsp
      exact ⟨σ', H', J'.ofTry ok, q⟩
    | ret u =>
      obtain ⟨v, σ', H', J', r, q⟩ := hsp
      exact ⟨v, σ', H', J'.ofTry ok, r, q⟩
end
end L2
set_option Elab.async false
set_option linter.all false
set_option maxRecDepth 100000
set_option maxHeartbeats 2000000
/-! try and isinstance of what was caught; str, split, count, index, += of a list -/
namespace L2
open PySem PySem.Spec PyProof.Rows
section
variable {X : Cx}
/-- isinstance(e, c), e a caught exception that is told -/
def rIsK (K : PySem.W.Frag) : List V → Hp → VK → Prop := fun xs H Q => ∃ (a D : Addr) (c : V) (cv : Value) (b : Bool), xs = [.ref a, c] ∧ H a = some (L3.ExK (.ref D) a) ∧ ExcC K D ∧ (∀ u, RelV c u → u = cv) ∧ PySem.W.kitOne K (.ref D) cv = some b ∧ Q (.bl b) H
theorem call_isK : CallR X (.builtin "isinstance") (rIsK X.K) := by
  intro pins s σ H xs us Q I r h
  obtain ⟨a, D, c, cv, b, rfl, ha, C, hcv, e, q⟩ := h
  cases r with
  | cons rx rr =>
    cases rr with
    | cons rt rr =>
      cases rr
      cases rx
      have ec := hcv _ rt
      subst ec
      obtain ⟨⟨oe, vs, hget, hz, hv⟩, _⟩ := I.hok a _ ha
      have J : PySem.W.InstAt s.heap a oe D none := by
        obtain ⟨oc, od, oda, osl⟩ := oe
        obtain ⟨h1, h2⟩ := hz
        dsimp only at h1 h2 hv
        subst h1 h2 hv
        exact ⟨hget, rfl, rfl, trivial⟩
      exact PySem.W.kia_one (PySem.W.handS_kitx_exc C.hg C.hk C.hs C.hd C.ha C.hn C.ht C.hm) I.kIn J e (fun z => nomatch z) fun tk => ⟨.bl b, H, I.kept (t' := tk) fun _ _ z => z, rfl, q⟩
/-- l.count(x), items of any depth -/
def rCountD (K : PySem.W.Frag) : V → List V → Hp → VK → Prop := fun x xs H Q => ∃ (a : Addr) (y : V) (d : PyData) (ds : List PyData), x = V.ref a ∧ xs = [y] ∧ Dp K H (V.ref a) (.list ds) ∧ Dp K H y d ∧
  SeqAt.shaped (.list ds) = true ∧ SeqAt.shaped d = true ∧ Q (.int (ds.countP (fun z => PyData.eqv z d) : Nat)) H
theorem mt_countD (hu : X.A.units + 65 < cLine) : MtR X "list.count" (rCountD X.K) := by
  intro pins s σ H x xs v us Q I rx rxs h
  obtain ⟨a, y, d, ds, rfl, rfl, hl, hy, sl, sd, q⟩ := h
  cases rx
  cases rxs with
  | cons ry rt =>
    rename_i uy ut
    cases rt
    obtain ⟨bs, r1⟩ := Dp.reads I d y uy hy ry
    have hxs : PyData.canLayAll0 ds = true := SeqAt.canLay_of_shaped sl
    have hroom : X.A.units + 1 + min (PyData.depthAll ds) d.depth < cLine := room_in_shaped sd hu
    cases hl with
    | lst hs ha =>
      obtain ⟨its, rv, ⟨⟨cls, dd, data, sls⟩, n, ho, hc, hdn, hdt⟩, hlen⟩ := I.list hs
      simp only at hc hdt
      subst hc hdt
      obtain ⟨as, h4⟩ := Dp.readsAll I ds _ its ha rv
      have hmap : its.map (SeqAt.readOf s.heap) = ds := SeqAt.readsAll_map ds its as hxs h4
      refine call_meets PySem.F.slot_list_count ⟨_, ho, rfl⟩ PySem.F.entry_list_count (PySem.F.args_list_count_2 _ _)
        (SeqAt.list_countAt a its.toArray n dd sls uy (fun u => PyData.eqv (SeqAt.readOf s.heap u) d)) ⟨ho, SeqAt.items_eqAt (vs := its.toArray) (show ReadsAll s.heap its.toArray.toList ds as from h4) r1 hxs (SeqAt.canLay_of_shaped sd) hroom, ?_⟩
      have ec : its.countP (fun u => PyData.eqv (SeqAt.readOf s.heap u) d) = ds.countP (fun z => PyData.eqv z d) := by
        rw [← hmap, List.countP_map]
        rfl
      refine ⟨.int (ds.countP (fun z => PyData.eqv z d) : Nat), H, I.tok _, ⟨s.toks, ?_⟩, q⟩
      show Value.int ((its.countP (fun u => PyData.eqv (SeqAt.readOf s.heap u) d) : Nat) : Int) s.toks = _
      rw [ec]
end
end L2
namespace L3
open PySem PySem.Spec L2 PyProof.Rows
section
variable {Y : Pc} {X : Cx} {W : WX} {a b e v : Expr} {es : List Expr} {pos : Pos} {K : PySem.W.Frag} {F H : Hp} {ρ : List Addr} {S : Store} {ra rb : Ev → Store → Res D} {rs : Ev → Store → Res (List D)}
/-! ### try -/
def canS (K : PySem.W.Frag) (Y : Pc) (W : WX) (m : SM) : TS := fun E σ H => ∃ F ρ S env, SR K Y F ρ S H ∧ ER K F ρ σ env ∧ OutS K Y F ρ H (m env S) (fun fl _ F' ρ' H' => FlowOk K Y W E fl F' ρ' H')
theorem SSs.can {st : List Stmt} {m : SM} (h : SSs Y X W st m) : PSs X st (canS X.K Y W m) := by
  obtain ⟨t, h1, h2⟩ := h.ex
  exact ⟨fun pins s σ H D I ⟨F, ρ, S, env, R, E, o⟩ => h1.run pins s σ H D I (h2 F ρ S H σ env D R E o)⟩
/-- try: m, and what one of n kinds of exception it raises is caught, is kept in slot j (slot i, the clause's own, is free again) -/
def sTry (n i j : Nat) (m : SM) : SM := fun env S => match m env S with
  | some (.ex c env', S') => if c < n then some (.nx ((env'.set j (some (.loc S'.length))).set i none), S' ++ [.exn c]) else none
  | r => r
theorem ER.try {σ : L2.St} {env : Ev} {i j : Nat} {u : V} {d : D} (h : ER K F ρ σ env) (r : RD K F ρ u d) : ER K F ρ (((σ.set i (some u)).set j (some u)).set i none) ((env.set j (some d)).set i none) := by
  have q := ((h.set i r).set j r).setN i
  have e : (((env.set i (some d)).set j (some d)).set i none) = ((env.set j (some d)).set i none) := by
    by_cases z : i = j
    · subst z; simp [List.set_set]
    · rw [List.set_comm _ _ z, List.set_set]
  rw [e] at q
  exact q
theorem ss_try {x n m : Str} {cv : Value} {i j nx : Nat} {body : List Stmt} {np ep mp apos pos pos' : Pos} {r : SM} (hs : X.stack = X.env :: X.outer) (hf : X.env.frame = some X.env.locals) (hex : X.ex = []) (hN : X.N.Nodup) (hi : X.N[i]? = some n) (hj : X.N[j]? = some m) (hln : X.env.kindOf n = some .local) (hlm : X.env.scope.names.lookup m = some .local) (hvn : Vis X.env.scope n) (hdn : (n == ("__debug__" : Str)) = false) (hcn : (n == ("__classdict__" : Str)) = false) (hc : Names X x cv)
    (hsw : swapsWith (.Name n ep) (some (.Name m mp)) apos.line X.env = pure false) (hm : ∀ c, c < nx → PySem.W.exmOne X.K (.ref (Y.xc c)) cv = some true)
    (hb : ∀ (W' : WX) (pn : List (Addr × Obj)) (xe : Value → Shared → Prop), Takes (X.tr pn xe) W' → PassesOwn (model X.prog X.w) X.A X.env xe → SSs Y (X.tr pn xe) W' body r) :
    SS Y X W (.Try body [.ExceptHandler (some (.Name x np)) (some n) [.Assign [.Name m mp] (.Name n ep) apos] pos'] [] [] pos) (sTry nx i j r) := by
  refine ⟨_, ps_try_keep (tb := fun W' => canS X.K Y W' r) hs hf hex hN hi hj hln hlm hvn hdn hcn hc hsw (fun W' pn xe tk po => (hb W' pn xe tk po).can), fun F ρ S H σ env E R ER0 h => ?_⟩
  refine ⟨F, ρ, S, env, R, ER0, ?_⟩
  unfold sTry at h
  cases e : r env S with
  | none => rw [e] at h; exact h
  | some p =>
    obtain ⟨fl, S'⟩ := p
    rw [e] at h
    cases fl with
    | nx env' => exact h
    | rt d => exact h
    | bk env' => exact h
    | ct env' => exact h
    | ex c env' =>
      dsimp only at h
      by_cases hc : c < nx
      · rw [if_pos hc] at h
        intro F' ρ' H' R' n' σ' E'
        refine ⟨rfl, hm c hc, fun a ha => ?_⟩
        have fa : F' a = none := by
          cases e : F' a with
          | none => rfl
          | some u => rw [R'.ex a u e] at ha; cases ha
        obtain ⟨R2, n2, e2⟩ := R'.alloc (o := ExK (.ref (Y.xc c)) a) (cc := .exn c) ha ⟨fa, upd_same⟩
        exact h _ _ _ R2 (n'.trans n2) _ ((E'.nx n2).try (.loc e2))
      · rw [if_neg hc] at h; exact h.elim
/-! ### isinstance of what was caught -/
def isxD (l : List Bool) : Op1 := fun S x => match x with
  | .loc i => match S[i]? with
    | some (.exn c) => (l[c]?).map .bl
    | _ => none
  | _ => none
/-- which of the exceptions are of the class cv -/
structure KitL (K : PySem.W.Frag) (Y : Pc) (cv : Value) (l : List Bool) : Prop where
  at_ : ∀ c b, l[c]? = some b → ExcC K (Y.xc c) ∧ PySem.W.kitOne K (.ref (Y.xc c)) cv = some b
theorem se_isx {x T : Str} {p p2 : Pos} {cvV : V} {cv : Value} (l : List Bool) (pT : PE X (.Name T p2) (tC cvV)) (hrel : ∀ u, RelV cvV u → u = cv) (hk : KitL X.K Y cv l) (hx : x = "isinstance" := by rfl) (hm : X.mg "isinstance" = none) (ha : SE Y X W a ra) (hg : Gl X x := by rfl)
    (he : starEach [a, .Name T p2] X.env = (false, eval a X.env) :: starEach [.Name T p2] X.env := by rfl) (he2 : starEach [.Name T p2] X.env = (false, eval (.Name T p2) X.env) :: starEach [] X.env := by rfl)
    (hpl : (backTo pos (starEach [.Name T p2] X.env)).any (·.1) = false := by rfl) : SE Y X W (.Call (.Name x p) [a, .Name T p2] [] pos) (r1 (isxD l) ra) := by
  subst hx
  obtain ⟨ta, a1, a2⟩ := ha.ex
  refine ⟨_, pe_callB call_isK hg hm (by decide +kernel) (pa_cons a1 (pa_cons pT pa_nil he2) he) (by decide) (by decide) he hpl, fun F ρ S H σ env Q R E h => a2.then R E h fun d u S1 F1 ρ1 H1 R1 n1 E1 ru o1 => ?_⟩
  obtain ⟨z, hz, k⟩ := lift_out o1
  unfold isxD at hz
  cases ru with
  | loc hi =>
    rename_i i a
    dsimp only at hz
    cases e : S1[i]? with
    | none => rw [e] at hz; cases hz
    | some c =>
      rw [e] at hz
      cases c with
      | exn c =>
        dsimp only at hz
        cases e2 : l[c]? with
        | none => rw [e2] at hz; cases hz
        | some b =>
          rw [e2] at hz; cases hz
          obtain ⟨q1, q2⟩ := R1.cell i a _ hi e
          obtain ⟨k1, k2⟩ := hk.at_ c b e2
          exact ⟨a, Y.xc c, cvV, cv, b, rfl, q2, k1, hrel, k2, now_bl R1 fun F' H' u R' n' r' => k F' ρ1 H' R' n' u r'⟩
      | _ => cases hz
  | _ => cases hz
/-! ### str(x) -/
def strD : OpN := fun _ xs => match xs with
  | [.str s] => some (.str s)
  | [.int i] => if i = 0 then some (.str [48]) else if i = 1 then some (.str [49]) else none
  | _ => none
theorem scall_str : SCall Y X (.type "str") strD := ⟨_, (SkE.call_str_str (X := X)).or call_str_int, fun F ρ S H xs ds d Q R rx e k => by
  match ds, rx, e with
  | [.str s], .cons (.str _ hs) .nil, e =>
    cases e
    exact .inl ⟨_, rfl, k F H _ R (Nx.refl _ _ _) (.str s hs)⟩
  | [.int i], .cons (.int _) .nil, e =>
    have e : (if i = 0 then some (D.str [48]) else if i = 1 then some (.str [49]) else none) = some d := e
    by_cases h : i = 0
    · subst h
      cases e
      exact .inr ⟨0, rfl, by decide, k F H _ R (Nx.refl _ _ _) (.str [48] (by decide))⟩
    · rw [if_neg h] at e
      by_cases h : i = 1
      · subst h
        cases e
        exact .inr ⟨1, rfl, by decide, k F H _ R (Nx.refl _ _ _) (.str [49] (by decide))⟩
      · rw [if_neg h] at e; cases e⟩
/-! ### s.split(c) -/
def splitM (s t : List Nat) : List (List Nat) := (Txt.split (tx s) (tx t)).map fun p => p.cps.toList
theorem split_tx (s t : List Nat) : (splitM s t).map tx = Txt.split (tx s) (tx t) := by
  unfold splitM
  rw [List.map_map]
  exact List.map_id _
theorem join_splitM (s t : List Nat) : TL.joinL t (splitM s t) = s := by
  have h := StrLaws.join_split (tx s) (tx t)
  rw [← TL.join_eq, ← split_tx, tx_join] at h
  exact tx_inj0 h
theorem mem_joinL {t : List Nat} {c : Nat} : ∀ {ls : List (List Nat)} {l : List Nat}, l ∈ ls → c ∈ l → c ∈ TL.joinL t ls
  | [x], l, hl, hc => by rw [List.mem_singleton.mp hl] at hc; exact hc
  | x :: y :: r, l, hl, hc => by
    simp only [TL.joinL, List.mem_append]
    rcases List.mem_cons.mp hl with h | h
    · rw [h] at hc; exact .inl hc
    · exact .inr (.inr (mem_joinL h hc))
def splitD : OpM := fun S x xs => match x, xs with
  | .str s, [.str [c]] => if s.length ≤ 90000 then some (.lst ((splitM s [c]).map .str), S) else none
  | _, _ => none
theorem smt_split : SMt Y X "str" "str.split" tyStr splitD := ⟨⟨_, mt_split, fun F ρ S S' H x dx d xs ds Q R rx rxs e k => by
  match dx, ds, rxs, rx, e with
  | .str s, .str t0 :: d2 :: ds2, _, _, e =>
    have e0 : splitD S (.str s) (.str t0 :: d2 :: ds2) = none := by unfold splitD; rcases t0 with _ | ⟨c0, _ | ⟨c1, t1⟩⟩ <;> rfl
    rw [e0] at e; cases e
  | .str s, [.str t], .cons (.str _ ht) .nil, .str _ hs, e =>
    match t, e with
    | [c], e =>
      have e : (if s.length ≤ 90000 then some (D.lst ((splitM s [c]).map .str), S) else none) = some (d, S') := e
      by_cases h : s.length ≤ 90000
      · rw [if_pos h] at e; cases e
        refine ⟨tx s, tx [c], rfl, rfl, rfl, by rw [tx_len]; exact Nat.le_trans (Nat.add_le_add_right h 2) (by decide), fun p hp => ?_⟩
        rw [← split_tx]
        exact now_lst R (rds_strO _ fun l hl c' hc' => hs c' (by rw [← join_splitM s [c]]; exact mem_joinL hl hc')) hp k
      · rw [if_neg h] at e; cases e⟩, tyStr_ok⟩
/-! ### l.count(x), l.index(x) -/
def countD : OpM := fun S x xs => match xs with
  | [y] => (seqD S x).bind fun ds => if eqPre y (.lst ds) = true then some (.int (ds.countP (fun z => PyData.eqv z.py y.py) : Nat), S) else none
  | _ => none
theorem smt_count {k : Nat} (C : Ok X W (k + 1)) : SMt Y X "list" "list.count" tyList countD := ⟨⟨_, mt_countD (room65 C.room), fun F ρ S S' H x dx d xs ds Q R rx rxs e k => by
  match ds, rxs, e with
  | [y], .cons ry .nil, e =>
    have e : ((seqD S dx).bind fun ds => if eqPre y (.lst ds) = true then some (D.int (ds.countP (fun z => PyData.eqv z.py y.py) : Nat), S) else none) = some (d, S') := e
    cases e1 : seqD S dx with
    | none => rw [e1] at e; cases e
    | some ds =>
      rw [e1] at e
      have e : (if eqPre y (.lst ds) = true then some (D.int (ds.countP (fun z => PyData.eqv z.py y.py) : Nat), S) else none) = some (d, S') := e
      by_cases h : eqPre y (.lst ds) = true
      · rw [if_pos h] at e; cases e
        obtain ⟨f1, f2, d1, d2⟩ := eqPre_ok h
        obtain ⟨p, ys, rfl, hp, hx⟩ := seq_rd R rx e1
        obtain ⟨q1, q2⟩ := RDs.dp R.ex hx f2
        obtain ⟨q3, q4⟩ := RD.dp R.ex ry f1
        refine ⟨p, _, y.py, D.pys ds, rfl, rfl, .lst (SqL.of hp) q1, q3, shaped_of (d := D.py (.lst ds)) q2 d2, shaped_of q4 d1, ?_⟩
        have ec : ∀ ds : List D, (D.pys ds).countP (fun z => PyData.eqv z y.py) = ds.countP (fun z => PyData.eqv z.py y.py) := fun ds => by
          induction ds with
          | nil => rfl
          | cons d ds ih => show (d.py :: D.pys ds).countP _ = _; rw [List.countP_cons, List.countP_cons, ih]
        rw [ec]
        exact now_int R k
      · rw [if_neg h] at e; cases e⟩, tyList_ok⟩
def indexD : OpM := fun S x xs => match xs with
  | [y] => (seqD S x).bind fun ds => if eqPre y (.lst ds) = true then (ds.findIdx? fun z => PyData.eqv z.py y.py).map fun j => (.int (j : Nat), S) else none
  | _ => none
theorem pys_get : ∀ {ds : List D} {j : Nat}, (D.pys ds)[j]? = (ds[j]?).map D.py
  | [], _ => rfl
  | d :: ds, 0 => rfl
  | d :: ds, j + 1 => by
    show (D.pys ds)[j]? = _
    rw [pys_get]; rfl
theorem smt_index {k : Nat} (C : Ok X W (k + 1)) : SMt Y X "list" "list.index" tyList indexD := ⟨⟨_, mt_indexD (room65 C.room), fun F ρ S S' H x dx d xs ds Q R rx rxs e k => by
  match ds, rxs, e with
  | [y], .cons ry .nil, e =>
    have e : ((seqD S dx).bind fun ds => if eqPre y (.lst ds) = true then (ds.findIdx? fun z => PyData.eqv z.py y.py).map fun j => (D.int (j : Nat), S) else none) = some (d, S') := e
    cases e1 : seqD S dx with
    | none => rw [e1] at e; cases e
    | some ds =>
      rw [e1] at e
      have e : (if eqPre y (.lst ds) = true then (ds.findIdx? fun z => PyData.eqv z.py y.py).map fun j => (D.int (j : Nat), S) else none) = some (d, S') := e
      by_cases h : eqPre y (.lst ds) = true
      · rw [if_pos h] at e
        cases e2 : ds.findIdx? fun z => PyData.eqv z.py y.py with
        | none => rw [e2] at e; cases e
        | some j =>
          rw [e2] at e; cases e
          obtain ⟨f1, f2, d1, d2⟩ := eqPre_ok h
          obtain ⟨p, ys, rfl, hp, hx⟩ := seq_rd R rx e1
          obtain ⟨q1, q2⟩ := RDs.dp R.ex hx f2
          obtain ⟨q3, q4⟩ := RD.dp R.ex ry f1
          obtain ⟨hj, h1, h2⟩ := List.findIdx?_eq_some_iff_getElem.mp e2
          refine ⟨p, _, y.py, D.pys ds, j, ds[j].py, rfl, rfl, .lst (SqL.of hp) q1, q3, shaped_of (d := D.py (.lst ds)) q2 d2, shaped_of q4 d1, ?_, h1, fun m z hm hz => ?_, now_int R k⟩
          · rw [pys_get, List.getElem?_eq_getElem hj]; rfl
          · rw [pys_get, List.getElem?_eq_getElem (by omega)] at hz
            cases hz
            have := h2 m hm
            simpa using this
      · rw [if_neg h] at e; cases e⟩, tyList_ok⟩
/-! ### xs += ys, xs a list of the store -/
def sAugL (i : Nat) (re : Ev → Store → Res D) : SM := fun env S => (rVar i env S).st env fun x S0 => (re env S0).st env fun y S1 => match x, y with
  | .loc n, .lst es => match S1[n]? with
    | some (.lst ds) => if ds.length + es.length ≤ 100000 then some (.nx (env.set i (some (.loc n))), S1.set n (.lst (ds ++ es))) else none
    | _ => none
  | _, _ => none
theorem ss_augL (i : Nat) {x : Str} {pos' : Pos} {re : Ev → Store → Res D} (he : SE Y X W e re) (hN : X.N.Nodup) (hi : X.N[i]? = some x := by rfl) (hx : Loc X.env.scope x := by first | exact Or.inl rfl | exact Or.inr rfl) (hf : X.fn x = true ∨ X.env.scope.names.lookup x = some .local := by first | exact .inl rfl | exact .inr rfl) :
    SS Y X W (.AugAssign (.Name x pos') .Add e pos) (sAugL i re) := by
  obtain ⟨te, e1, e2⟩ := he.ex
  refine ⟨_, ps_aug hN hi hx e1 (pip_of iop_ext) hf, fun F ρ S H σ env Z R E h => ?_⟩
  unfold sAugL rVar at h
  cases q : env[i]? with
  | none => rw [q] at h; exact False.elim h
  | some o =>
    cases o with
    | none => rw [q] at h; exact False.elim h
    | some d =>
      rw [q] at h
      obtain ⟨v, hv, rv⟩ := E.2 i d q
      refine ⟨v, hv, e2.thenS R E (Z := Z) h fun d2 u2 S2 F2 ρ2 H2 R2 n2 E2 ru2 q2 => ?_⟩
      have rv2 := rv.mono n2.ex n2.pre
      cases rv2 with
      | loc hn =>
        rename_i n a
        cases ru2 with
        | lst h1 h2 =>
          rename_i b ys es
          dsimp only at q2
          cases e3 : S2[n]? with
          | none => rw [e3] at q2; exact False.elim q2
          | some c =>
            rw [e3] at q2
            cases c with
            | lst ds =>
              dsimp only at q2
              by_cases hl : ds.length + es.length ≤ 100000
              · rw [if_pos hl] at q2
                obtain ⟨fa, xs, ha, hxs⟩ := R2.cell n a _ hn e3
                obtain ⟨R3, n3⟩ := R2.wlst hn fa (hxs.append h2)
                refine ⟨a, b, xs, ys, rfl, rfl, ha, R2.ex _ _ h1, by rw [hxs.length, h2.length]; exact small _ hl, ?_⟩
                exact q2 F2 ρ2 _ R3 n3 _ ((E2.nx n3).set i (.loc hn))
              · rw [if_neg hl] at q2; exact False.elim q2
            | _ => exact False.elim q2
        | _ => exact False.elim q2
      | _ => cases ru2 <;> exact False.elim q2
end
end L3
set_option Elab.async false
set_option linter.all false
set_option maxRecDepth 100000
set_option maxHeartbeats 2000000
/-! try and isinstance by what the module's namespace holds -/
namespace L3
open PySem PySem.Spec L2 PyProof.Rows
/-- x is a class that catches the first n exceptions -/
structure ExmL (K : PySem.W.Frag) (mg : Str → Option Value) (Y : Pc) (x : Str) (n : Nat) : Prop where
  ex : ∃ C : Addr, mg x = some (.ref C) ∧ ∀ c, c < n → PySem.W.exmOne K (.ref (Y.xc c)) (.ref C) = some true
/-- x is an own class; which of the exceptions are of it -/
structure TyO (K : PySem.W.Frag) (mg : Str → Option Value) (Y : Pc) (x : Str) (l : List Bool) : Prop where
  ex : ∃ C : Addr, mg x = some (.ref C) ∧ KitL K Y (.ref C) l
structure TyB (K : PySem.W.Frag) (mg : Str → Option Value) (Y : Pc) (x : String) (l : List Bool) : Prop where
  no : mg (Str.ofString x) = none
  kit : KitL K Y (.type x) l
section
variable {Y : Pc} {X : Cx} {W : WX} {a : Expr} {pos : Pos} {ra : Ev → Store → Res D}
theorem Ok.tr {W' : WX} {k : Nat} {pn : List (Addr × Obj)} {xe : Value → Shared → Prop} (C : Ok X W k) (tk : Takes (X.tr pn xe) W') : Ok (X.tr pn xe) W' k := ⟨fun σ => passAt tk σ, C.calm, C.room, C.nd⟩
theorem se_isxO {x T : Str} {p p2 : Pos} (l : List Bool) (h : TyO X.K X.mg Y T l) (hm : X.mg "isinstance" = none) (ha : SE Y X W a ra) (hx : x = "isinstance" := by rfl) (hg : Gl X x := by rfl) (hgT : Gl X T := by rfl) (hd : (T == ("__debug__" : Str)) = false := by decide)
    (he : starEach [a, .Name T p2] X.env = (false, eval a X.env) :: starEach [.Name T p2] X.env := by rfl) (he2 : starEach [.Name T p2] X.env = (false, eval (.Name T p2) X.env) :: starEach [] X.env := by rfl)
    (hpl : (backTo pos (starEach [.Name T p2] X.env)).any (·.1) = false := by rfl) : SE Y X W (.Call (.Name x p) [a, .Name T p2] [] pos) (r1 (isxD l) ra) := by
  obtain ⟨C, h1, h2⟩ := h.ex
  exact se_isx (cvV := .ref C) (cv := .ref C) l (pe_glob (v := .ref C) hgT h1 (show RelV (.ref C) (.ref C) from rfl) hd) (fun u r => r) h2 hx hm ha hg he he2 hpl
theorem se_isxB {x T : Str} {p p2 : Pos} (t : String) (l : List Bool) (h : TyB X.K X.mg Y t l) (hm : X.mg "isinstance" = none) (hb : bootBuiltins T = some (.type t)) (ha : SE Y X W a ra) (hT : T = Str.ofString t := by rfl) (hx : x = "isinstance" := by rfl) (hg : Gl X x := by rfl) (hgT : Gl X T := by rfl) (hn : T ≠ "__name__" := by decide) (hd : (T == ("__debug__" : Str)) = false := by decide)
    (he : starEach [a, .Name T p2] X.env = (false, eval a X.env) :: starEach [.Name T p2] X.env := by rfl) (he2 : starEach [.Name T p2] X.env = (false, eval (.Name T p2) X.env) :: starEach [] X.env := by rfl)
    (hpl : (backTo pos (starEach [.Name T p2] X.env)).any (·.1) = false := by rfl) : SE Y X W (.Call (.Name x p) [a, .Name T p2] [] pos) (r1 (isxD l) ra) :=
  se_isx l (pe_bltn (v := .ty t) hgT (by rw [hT]; exact h.no) hb rfl hn hd) (fun u r => by cases r; rfl) h.kit hx hm ha hg he he2 hpl
theorem ss_tryO {x n m : Str} {i j nx : Nat} {body : List Stmt} {np ep mp apos pos pos' : Pos} {r : SM} {k : Nat} (C : Ok X W k) (h : ExmL X.K X.mg Y x nx) (hs : X.stack = X.env :: X.outer := by rfl) (hf : X.env.frame = some X.env.locals := by rfl) (hex : X.ex = [] := by rfl) (hi : X.N[i]? = some n := by rfl) (hj : X.N[j]? = some m := by rfl) (hln : X.env.kindOf n = some .local := by rfl) (hlm : X.env.scope.names.lookup m = some .local := by rfl) (hvn : Vis X.env.scope n := by exact Or.inl rfl) (hdn : (n == ("__debug__" : Str)) = false := by decide) (hcn : (n == ("__classdict__" : Str)) = false := by decide) (hg : Gl X x := by rfl) (hdx : (x == ("__debug__" : Str)) = false := by decide)
    (hsw : swapsWith (.Name n ep) (some (.Name m mp)) apos.line X.env = pure false := by rfl)
    (hb : ∀ (W' : WX) (pn : List (Addr × Obj)) (xe : Value → Shared → Prop), Takes (X.tr pn xe) W' → PassesOwn (model X.prog X.w) X.A X.env xe → Ok (X.tr pn xe) W' k → SSs Y (X.tr pn xe) W' body r) :
    SS Y X W (.Try body [.ExceptHandler (some (.Name x np)) (some n) [.Assign [.Name m mp] (.Name n ep) apos] pos'] [] [] pos) (sTry nx i j r) := by
  obtain ⟨Ca, h1, h2⟩ := h.ex
  exact ss_try hs hf hex C.nd hi hj hln hlm hvn hdn hcn ⟨hg, hdx, .inl h1⟩ hsw h2 fun W' pn xe tk po => hb W' pn xe tk po (C.tr tk)
end
/-! what K says, by a look -/
section
variable {K : PySem.W.Frag}
def excCB (K : PySem.W.Frag) (D : Addr) : Bool :=
  decide (PySem.W.findIn K (.ref D) "__getattribute__" = some (some (.builtin "BaseException.__getattribute__"))) && (decide (PySem.W.findIn K (.ref D) "__getattr__" = some none) && (decide (PySem.W.subIn K (.ref D) (.type "BaseException") = some true) && (PySem.W.hasDictIn K D &&
  (decide (PySem.W.findIn K (.ref D) "__class__" = some (some (.builtin "object.__class__"))) && (decide (PySem.W.specialIn K (.builtin "object.__class__") "__get__" = some (some (.builtin "getset_descriptor.__get__"))) && (decide (PySem.W.takesIn K (.builtin "object.__class__") = some true) && decide (PySem.W.mroIn K D (.type "object") = some true)))))))
theorem excC_ok {D : Addr} (h : excCB K D = true) : ExcC K D := by
  unfold excCB at h
  simp only [Bool.and_eq_true, decide_eq_true_eq] at h
  obtain ⟨h1, h2, h3, h4, h5, h6, h7, h8⟩ := h
  exact ⟨h1, h2, h3, h4, h5, h6, h7, h8⟩
/-- all exceptions, at the addresses xs: isinstance asks them rightly -/
def excsB (K : PySem.W.Frag) (xs : List Addr) : Bool := xs.all (excCB K)
def kitLB (K : PySem.W.Frag) (xs : List Addr) (cv : Value) (l : List Bool) : Bool := decide (l.length ≤ xs.length) && (xs.zip l).all fun p => decide (PySem.W.kitOne K (.ref p.1) cv = some p.2)
def exmLB (K : PySem.W.Frag) (xs : List Addr) (cv : Value) : Bool := xs.all fun a => decide (PySem.W.exmOne K (.ref a) cv = some true)
theorem kitL_ok {Y : Pc} {xs : List Addr} {cv : Value} {l : List Bool} (hY : ∀ c a, xs[c]? = some a → Y.xc c = a) (h1 : excsB K xs = true) (h2 : kitLB K xs cv l = true) : KitL K Y cv l := ⟨fun c b hb => by
  unfold kitLB at h2
  rw [Bool.and_eq_true] at h2
  obtain ⟨h2, h3⟩ := h2
  have hl := of_decide_eq_true h2
  have hc : c < l.length := (List.getElem?_eq_some_iff.mp hb).1
  have ha : xs[c]? = some xs[c] := List.getElem?_eq_getElem (by omega)
  have e := hY c _ ha
  rw [e]
  have m : (xs[c], b) ∈ xs.zip l := by
    refine List.mem_of_getElem? (i := c) ?_
    rw [List.getElem?_zip_eq_some]
    exact ⟨ha, hb⟩
  exact ⟨excC_ok (List.all_eq_true.mp h1 _ (List.mem_of_getElem? ha)), of_decide_eq_true (List.all_eq_true.mp h3 _ m)⟩⟩
theorem exmL_ok {Y : Pc} {mg : Str → Option Value} {x : Str} {C : Addr} {xs : List Addr} (hY : ∀ c a, xs[c]? = some a → Y.xc c = a) (hm : mg x = some (.ref C)) (h : exmLB K xs (.ref C) = true) : ExmL K mg Y x xs.length := ⟨C, hm, fun c hc => by
  have ha : xs[c]? = some xs[c] := List.getElem?_eq_getElem hc
  rw [hY c _ ha]
  exact of_decide_eq_true (List.all_eq_true.mp h _ (List.mem_of_getElem? ha))⟩
end
end L3
namespace L2
open PySem PySem.Spec PyProof.Rows
theorem op_mulS {X : Cx} : OpR X (binaryOp .Mult) (fun x y H Q => ∃ a n, x = .str a ∧ y = .int n ∧ MulOk a n ∧ Q (.str (Txt.mul a n)) H) := by
  intro pins s σ H x y v u Q I rx ry h
  obtain ⟨a, n, rfl, rfl, hok, q⟩ := h
  obtain ⟨t, rfl⟩ := rx
  obtain ⟨t2, rfl⟩ := ry
  exact SB.mul hok fun t' k => ⟨.str _, H, I.tok _, ⟨_, rfl⟩, q⟩
end L2
namespace L3
open PySem PySem.Spec L2 PyProof.Rows
theorem rep_app (l : List Nat) : ∀ (k : Nat) (acc : Array Nat), (List.replicate k l.toArray).foldl (· ++ ·) acc = acc ++ (List.replicate k l).flatten.toArray
  | 0, acc => by simp
  | k + 1, acc => by
    rw [List.replicate_succ, List.foldl_cons, rep_app l k, List.replicate_succ, List.flatten_cons]
    simp [Array.append_assoc]
theorem tx_mul {s : List Nat} {k : Nat} (h2 : 2 ≤ k) (hs : s ≠ []) : Txt.mul (tx s) (k : Int) = tx (List.replicate k s).flatten := by
  have hl : s.length ≠ 0 := fun e => hs (List.length_eq_zero_iff.mp e)
  unfold Txt.mul
  rw [if_neg (by omega), if_neg (by
    rw [Bool.or_eq_true]
    rintro (h | h)
    · have := beq_iff_eq.mp h; omega
    · have := beq_iff_eq.mp h; exact hl (by rw [tx_len] at this; exact this))]
  show (⟨(List.replicate (k : Int).toNat s.toArray).foldl (· ++ ·) #[]⟩ : Str) = _
  rw [Int.toNat_natCast, rep_app]
  simp
section
variable {Y : Pc} {X : Cx}
def mulSD : Op2 := fun _ x y => match x, y with
  | .str s, .int k => if 2 ≤ k ∧ k ≤ 10000 ∧ s ≠ [] ∧ s.length ≤ 10 then some (.str (List.replicate k.toNat s).flatten) else none
  | _, _ => none
theorem sop_mulS : SOp Y X (binaryOp .Mult) mulSD := ⟨_, op_mulS, fun F ρ S H x y dx dy d Q R rx ry e k => by
  cases rx <;> cases ry <;> try (cases e; done)
  rename_i s hs kk
  have e : (if 2 ≤ kk ∧ kk ≤ 10000 ∧ s ≠ [] ∧ s.length ≤ 10 then some (D.str (List.replicate kk.toNat s).flatten) else none) = some d := e
  by_cases h : 2 ≤ kk ∧ kk ≤ 10000 ∧ s ≠ [] ∧ s.length ≤ 10
  · rw [if_pos h] at e; cases e
    obtain ⟨n, rfl⟩ : ∃ n : Nat, kk = (n : Int) := ⟨_, (Int.toNat_of_nonneg (by omega)).symm⟩
    have hn : 2 ≤ n ∧ n ≤ 10000 := by omega
    refine ⟨tx s, (n : Int), rfl, rfl, ⟨?_, fun _ _ => ?_, fun _ _ => ?_⟩, ?_⟩
    · rw [decide_eq_false (by omega), decide_eq_false (by omega)]; rfl
    · rw [tx_len]
      have : (10 : Int) ≤ (2 ^ 63 - 1) / (n : Int) := by
        rw [Int.le_ediv_iff_mul_le (by omega)]
        omega
      omega
    · rw [tx_len, Int.toNat_natCast]
      have : s.length * n ≤ 10 * 10000 := Nat.mul_le_mul h.2.2.2 hn.2
      unfold Builtin.Str.tooLong
      rw [sizeLine_eq]
      exact decide_eq_false (by omega)
    · rw [tx_mul hn.1 h.2.2.1]
      rw [Int.toNat_natCast] at k
      refine now_str R (fun c hc => ?_) k
      obtain ⟨l, hl, hc⟩ := List.mem_flatten.mp hc
      rw [List.eq_of_mem_replicate hl] at hc
      exact hs c hc
  · rw [if_neg h] at e; cases e⟩
end
end L3
namespace L3
open PySem PySem.Spec L2
theorem ga_at {K : PySem.W.Frag} {names : List Str} {c : Nat} {a : Addr} (h : (names.map (He.ga K))[c]? = some a) : He.ga K (names.getD c "") = a := by
  rw [List.getElem?_map] at h
  cases e : names[c]? with
  | none => rw [e] at h; cases h
  | some n =>
    rw [e] at h
    cases h
    simp [List.getD, e]
end L3
set_option Elab.async false
set_option linter.all false
set_option maxRecDepth 100000
set_option maxHeartbeats 2000000
/-! what a meaning comes to: wp for expressions, ws for statements -/
namespace L3
section
variable {α β : Type} {Q : α → Store → Prop} {R : D → Store → Prop} {B : Bool → Store → Prop} {A : List D → Store → Prop} {X : Nat → Store → Prop} {Z : Flow → Store → Prop} {env : Ev} {S : Store} {ra rb rc : Ev → Store → Res D} {rt ru : Ev → Store → Res Bool} {rs : Ev → Store → Res (List D)}
def seqZ (Z : Flow → Store → Prop) (k : Ev → Store → Prop) : Flow → Store → Prop := fun fl S => match fl with
  | .nx e => k e S
  | fl => Z fl S
def stepZ (Z : Flow → Store → Prop) (k : Ev → Store → Prop) : Flow → Store → Prop := fun fl S => match fl with
  | .nx e => k e S
  | .ct e => k e S
  | .bk e => Z (.nx e) S
  | .rt d => Z (.rt d) S
  | .ex c e => Z (.ex c e) S
def fnZ (R : D → Store → Prop) (X : Nat → Store → Prop) : Flow → Store → Prop := fun fl S1 => match fl with
  | .nx _ => R .non S1
  | .rt d => R d S1
  | .ex c _ => X c S1
  | _ => False
end
namespace W0
def wp0 {α : Type} (r : Res α) (Q : α → Store → Prop) (X : Nat → Store → Prop) : Prop := match r with
  | .ok a S => Q a S
  | .exc c S => X c S
  | .stuck => False
def ws0 (r : Option (Flow × Store)) (Q : Flow → Store → Prop) : Prop := match r with
  | some (fl, S) => Q fl S
  | none => False
section
variable {α β : Type} {Q : α → Store → Prop} {R : D → Store → Prop} {B : Bool → Store → Prop} {A : List D → Store → Prop} {X : Nat → Store → Prop} {Z : Flow → Store → Prop} {env : Ev} {S : Store} {ra rb rc : Ev → Store → Res D} {rt ru : Ev → Store → Res Bool} {rs : Ev → Store → Res (List D)}
theorem wp_ok {a : α} (h : Q a S) : wp0 (.ok a S) Q X := h
theorem wp_mono {r : Res α} {Q' : α → Store → Prop} {X' : Nat → Store → Prop} (h : wp0 r Q X) (k : ∀ a S, Q a S → Q' a S) (kx : ∀ c S, X c S → X' c S) : wp0 r Q' X' := by
  cases r with
  | ok a S => exact k _ _ h
  | exc c S => exact kx _ _ h
  | stuck => exact h
theorem ws_mono {r : Option (Flow × Store)} {Z' : Flow → Store → Prop} (h : ws0 r Z) (k : ∀ a S, Z a S → Z' a S) : ws0 r Z' := by
  cases r with
  | none => exact h
  | some p => exact k _ _ h
theorem wp_bind {r : Res α} {f : α → Store → Res β} {Q : β → Store → Prop} (h : wp0 r (fun a S => wp0 (f a S) Q X) X) : wp0 (r.bind f) Q X := by
  cases r with
  | ok a S => exact h
  | exc c S => exact h
  | stuck => exact h
theorem ws_st {r : Res α} {f : α → Store → Option (Flow × Store)} (h : wp0 r (fun a S => ws0 (f a S) Z) (fun c S => Z (.ex c env) S)) : ws0 (r.st env f) Z := by
  cases r with
  | ok a S => exact h
  | exc c S => exact h
  | stuck => exact h
theorem wp_lift {o : Option α} (h : ∃ a, o = some a ∧ Q a S) : wp0 (lift o S) Q X := by
  obtain ⟨a, rfl, q⟩ := h
  exact q
theorem w_var {i : Nat} (d : D) (h : env[i]? = some (some d)) (q : R d S) : wp0 (rVar i env S) R X := by
  unfold rVar
  rw [h]
  exact q
theorem w_C {d : D} (q : R d S) : wp0 (rC d env S) R X := q
theorem w_r2 {g : Op2} (h : wp0 (ra env S) (fun x S1 => wp0 (rb env S1) (fun y S2 => ∃ d, g S2 x y = some d ∧ R d S2) X) X) : wp0 (r2 g ra rb env S) R X :=
  wp_bind (wp_mono h (fun _ _ k => wp_bind (wp_mono k (fun _ _ z => wp_lift z) fun _ _ z => z)) fun _ _ z => z)
theorem w_r1 {g : Op1} (h : wp0 (ra env S) (fun x S1 => ∃ d, g S1 x = some d ∧ R d S1) X) : wp0 (r1 g ra env S) R X :=
  wp_bind (wp_mono h (fun _ _ z => wp_lift z) fun _ _ z => z)
theorem w_nil (q : A [] S) : wp0 (rNil env S) A X := q
theorem w_cons (h : wp0 (ra env S) (fun x S1 => wp0 (rs env S1) (fun xs S2 => A (x :: xs) S2) X) X) : wp0 (rCons ra rs env S) A X :=
  wp_bind (wp_mono h (fun _ _ k => wp_bind k) fun _ _ z => z)
theorem w_tup (h : wp0 (rs env S) (fun xs S1 => xs.length ≤ 100000 ∧ R (.tup xs) S1) X) : wp0 (rTup rs env S) R X :=
  wp_bind (wp_mono h (fun _ _ k => by rw [if_pos k.1]; exact k.2) fun _ _ z => z)
theorem w_lst (h : wp0 (rs env S) (fun xs S1 => xs.length ≤ 100000 ∧ R (.lst xs) S1) X) : wp0 (rLst rs env S) R X :=
  wp_bind (wp_mono h (fun _ _ k => by rw [if_pos k.1]; exact k.2) fun _ _ z => z)
theorem w_lstM (h : wp0 (rs env S) (fun xs S1 => xs.length ≤ 100000 ∧ R (.loc S1.length) (S1 ++ [.lst xs])) X) : wp0 (rLstM rs env S) R X :=
  wp_bind (wp_mono h (fun _ _ k => by rw [if_pos k.1]; exact k.2) fun _ _ z => z)
theorem w_listM (h : wp0 (ra env S) (fun d S1 => ∃ xs, listD S1 [d] = some (.lst xs) ∧ R (.loc S1.length) (S1 ++ [.lst xs])) X) : wp0 (rListM ra env S) R X :=
  wp_bind (wp_mono h (fun _ _ ⟨xs, e, k⟩ => by rw [e]; exact k) fun _ _ z => z)
theorem w_if (h : wp0 (rt env S) (fun b S1 => (b = true → wp0 (ra env S1) R X) ∧ (b = false → wp0 (rb env S1) R X)) X) : wp0 (rIf rt ra rb env S) R X :=
  wp_bind (wp_mono h (fun b _ k => by cases b; exact k.2 rfl; exact k.1 rfl) fun _ _ z => z)
theorem w_tOf (h : wp0 (ra env S) (fun x S1 => ∃ b, x = .bl b ∧ B b S1) X) : wp0 (tOf ra env S) B X :=
  wp_bind (wp_mono h (fun _ _ ⟨b, e, q⟩ => by subst e; exact q) fun _ _ z => z)
theorem w_tAnd (h : wp0 (rt env S) (fun b S1 => (b = true → wp0 (ru env S1) B X) ∧ (b = false → B false S1)) X) : wp0 (tAndR rt ru env S) B X :=
  wp_bind (wp_mono h (fun b _ k => by cases b; exact k.2 rfl; exact k.1 rfl) fun _ _ z => z)
theorem w_tOr (h : wp0 (rt env S) (fun b S1 => (b = true → B true S1) ∧ (b = false → wp0 (ru env S1) B X)) X) : wp0 (tOrR rt ru env S) B X :=
  wp_bind (wp_mono h (fun b _ k => by cases b; exact k.2 rfl; exact k.1 rfl) fun _ _ z => z)
theorem w_tNot (h : wp0 (rt env S) (fun b S1 => B (!b) S1) X) : wp0 (tNotR rt env S) B X := wp_bind h
theorem w_tYes (h : B true S) : wp0 (tYesR env S) B X := h
theorem w_vAnd (h : wp0 (ra env S) (fun x S1 => ∃ b, x = .bl b ∧ (b = true → wp0 (rb env S1) R X) ∧ (b = false → R (.bl false) S1)) X) : wp0 (vAnd ra rb env S) R X :=
  wp_bind (wp_mono h (fun _ _ ⟨b, e, k⟩ => by subst e; cases b; exact k.2 rfl; exact k.1 rfl) fun _ _ z => z)
theorem w_vOr (h : wp0 (ra env S) (fun x S1 => ∃ b, x = .bl b ∧ (b = true → R (.bl true) S1) ∧ (b = false → wp0 (rb env S1) R X)) X) : wp0 (vOr ra rb env S) R X :=
  wp_bind (wp_mono h (fun _ _ ⟨b, e, k⟩ => by subst e; cases b; exact k.2 rfl; exact k.1 rfl) fun _ _ z => z)
theorem w_vNot (h : wp0 (ra env S) (fun x S1 => ∃ b, x = .bl b ∧ R (.bl (!b)) S1) X) : wp0 (vNot ra env S) R X :=
  wp_bind (wp_mono h (fun _ _ ⟨b, e, q⟩ => by subst e; exact q) fun _ _ z => z)
theorem w_chain {g g' : Op2} (h : wp0 (ra env S) (fun x S1 => wp0 (rb env S1) (fun y S2 => ∃ b, g S2 x y = some (.bl b) ∧ (b = true → wp0 (rc env S2) (fun z S3 => ∃ d, g' S3 y z = some d ∧ R d S3) X) ∧ (b = false → R (.bl false) S2)) X) X) : wp0 (rChain g g' ra rb rc env S) R X :=
  wp_bind (wp_mono h (fun _ _ k => wp_bind (wp_mono k (fun _ _ ⟨b, e, k1, k2⟩ => by
    rw [e]
    cases b with
    | false => exact k2 rfl
    | true => exact wp_bind (r := lift (some (D.bl true)) _) (wp_bind (r := rc env _) (wp_mono (k1 rfl) (fun _ _ z => wp_lift z) fun _ _ z => z))) fun _ _ z => z)) fun _ _ z => z)
theorem w_call {m : FSem} (h : wp0 (rs env S) (fun ds S1 => wp0 (m S1 ds) R X) X) : wp0 (rCall m rs env S) R X := wp_bind h
theorem w_cb {g : OpN} (h : wp0 (rs env S) (fun ds S1 => ∃ d, g S1 ds = some d ∧ R d S1) X) : wp0 (rCB g rs env S) R X :=
  wp_bind (wp_mono h (fun _ _ z => wp_lift z) fun _ _ z => z)
theorem w_oNone {O : Option Int → Store → Prop} (h : O none S) : wp0 (oNone env S) O X := h
theorem w_oSome {O : Option Int → Store → Prop} (h : wp0 (ra env S) (fun d S1 => ∃ i, d = .int i ∧ O (some i) S1) X) : wp0 (oSome ra env S) O X :=
  wp_bind (wp_mono h (fun _ _ ⟨i, e, q⟩ => by subst e; exact q) fun _ _ z => z)
theorem w_sl {g : OpSl} {rl rh : Ev → Store → Res (Option Int)} (h : wp0 (ra env S) (fun x S1 => wp0 (rl env S1) (fun l S2 => wp0 (rh env S2) (fun hh S3 => ∃ d, g S3 x l hh = some d ∧ R d S3) X) X) X) : wp0 (rSl g ra rl rh env S) R X :=
  wp_bind (wp_mono h (fun _ _ k => wp_bind (wp_mono k (fun _ _ k => wp_bind (wp_mono k (fun _ _ z => wp_lift z) fun _ _ z => z)) fun _ _ z => z)) fun _ _ z => z)
theorem w_mt {tb : Store → D → Bool} {g : OpM} (h : wp0 (ra env S) (fun x S1 => tb S1 x = true ∧ wp0 (rs env S1) (fun xs S2 => ∃ d S3, g S2 x xs = some (d, S3) ∧ R d S3) X) X) : wp0 (rMt tb g ra rs env S) R X :=
  wp_bind (wp_mono h (fun _ _ ⟨e, k⟩ => by
    rw [if_pos e]
    exact wp_bind (wp_mono k (fun _ _ ⟨d, S3, e2, q⟩ => by rw [e2]; exact q) fun _ _ z => z)) fun _ _ z => z)
theorem w_fz (h : wp0 (ra env S) (fun d S1 => ∃ d' S2, fzD d S1 = some (d', S2) ∧ R d' S2) X) : wp0 (rFz ra env S) R X :=
  wp_bind (wp_mono h (fun _ _ ⟨d, S3, e2, q⟩ => by rw [e2]; exact q) fun _ _ z => z)
theorem w_any (h : wp0 (ra env S) (fun d S1 => (∃ ds, d = .lst ds ∧ A ds S1) ∨ (∃ ds, d = .tup ds ∧ A ds S1) ∨ (∃ s, d = .str s ∧ A (s.map fun c => .str [c]) S1)) X) : wp0 (iAny ra env S) A X :=
  wp_bind (wp_mono h (fun _ _ k => by rcases k with ⟨ds, e, q⟩ | ⟨ds, e, q⟩ | ⟨s, e, q⟩ <;> subst e <;> exact q) fun _ _ z => z)
theorem w_rng1 (h : wp0 (rs env S) (fun ds S1 => ∃ n : Int, ds = [.int n] ∧ (n < 100000 ∧ -100000 < n) ∧ A (intsFrom 0 n.toNat) S1) X) : wp0 (iRng1S rs env S) A X :=
  wp_bind (wp_mono h (fun _ _ ⟨n, e, b, q⟩ => by subst e; dsimp only; rw [if_pos b]; exact q) fun _ _ z => z)
theorem w_rng2 (h : wp0 (rs env S) (fun ds S1 => ∃ i n : Int, ds = [.int i, .int n] ∧ ((n < 100000 ∧ -100000 < n) ∧ (i < 100000 ∧ -100000 < i)) ∧ A (intsFrom i (n - i).toNat) S1) X) : wp0 (iRng2S rs env S) A X :=
  wp_bind (wp_mono h (fun _ _ ⟨i, n, e, b, q⟩ => by subst e; dsimp only; rw [if_pos b]; exact q) fun _ _ z => z)
theorem w_zip (h : wp0 (rs env S) (fun ds S1 => ∃ xs ys, ds = [.lst xs, .lst ys] ∧ A (zipD xs ys) S1) X) : wp0 (iZipR rs env S) A X :=
  wp_bind (wp_mono h (fun _ _ ⟨xs, ys, e, q⟩ => by subst e; exact q) fun _ _ z => z)
theorem w_enum (h : wp0 (rs env S) (fun ds S1 => ∃ x xs, ds = [x] ∧ itemsOf x = some xs ∧ A (enumFrom 0 xs) S1) X) : wp0 (iEnumR rs env S) A X :=
  wp_bind (wp_mono h (fun _ _ ⟨x, xs, e, e2, q⟩ => by
    subst e
    cases x <;> first | (cases e2; done) | (cases e2; exact q)) fun _ _ z => z)
/-! statements -/
theorem ws_some {fl : Flow} (h : Z fl S) : ws0 (some (fl, S)) Z := h
theorem s_next (h : Z (.nx env) S) : ws0 (sNext env S) Z := h
theorem seqZ_nx {k : Ev → Store → Prop} {e : Ev} (h : k e S) : seqZ Z k (.nx e) S := h
theorem seqZ_ct {k : Ev → Store → Prop} {e : Ev} (h : Z (.ct e) S) : seqZ Z k (.ct e) S := h
theorem seqZ_bk {k : Ev → Store → Prop} {e : Ev} (h : Z (.bk e) S) : seqZ Z k (.bk e) S := h
theorem seqZ_rt {k : Ev → Store → Prop} {d : D} (h : Z (.rt d) S) : seqZ Z k (.rt d) S := h
theorem seqZ_ex {k : Ev → Store → Prop} {c : Nat} {e : Ev} (h : Z (.ex c e) S) : seqZ Z k (.ex c e) S := h
theorem s_seq {s t : SM} (h : ws0 (s env S) (seqZ Z fun e S1 => ws0 (t e S1) Z)) : ws0 (sSeq s t env S) Z := by
  unfold sSeq
  cases e : s env S with
  | none => rw [e] at h; exact h
  | some p =>
    rw [e] at h
    obtain ⟨fl, S1⟩ := p
    cases fl <;> exact h
theorem s_expr (h : wp0 (ra env S) (fun _ S1 => Z (.nx env) S1) (fun c S => Z (.ex c env) S)) : ws0 (sExpr ra env S) Z := ws_st h
theorem s_ret (h : wp0 (ra env S) (fun d S1 => Z (.rt d) S1) (fun c S => Z (.ex c env) S)) : ws0 (sRet ra env S) Z := ws_st h
theorem s_set {i : Nat} (h : wp0 (ra env S) (fun d S1 => Z (.nx (env.set i (some d))) S1) (fun c S => Z (.ex c env) S)) : ws0 (sSet i ra env S) Z := ws_st h
theorem s_if {s t : SM} (h : wp0 (rt env S) (fun b S1 => (b = true → ws0 (s env S1) Z) ∧ (b = false → ws0 (t env S1) Z)) (fun c S => Z (.ex c env) S)) : ws0 (sIf rt s t env S) Z :=
  ws_st (wp_mono h (fun b _ k => by cases b; exact k.2 rfl; exact k.1 rfl) fun _ _ z => z)
theorem s_break (h : Z (.bk env) S) : ws0 (sBreak env S) Z := h
theorem s_cont (h : Z (.ct env) S) : ws0 (sCont env S) Z := h
theorem s_raise {c : Nat} (h : Z (.ex c env) S) : ws0 (sRaise c env S) Z := h
theorem s_par {i j : Nat} (h : wp0 (rs env S) (fun ds S1 => ∃ x y, ds = [x, y] ∧ Z (.nx ((env.set i (some x)).set j (some y))) S1) (fun c S => Z (.ex c env) S)) : ws0 (sPar i j rs env S) Z :=
  ws_st (wp_mono h (fun _ _ ⟨x, y, e, q⟩ => by subst e; exact q) fun _ _ z => z)
theorem s_asg {t : Tg} (h : wp0 (ra env S) (fun d S1 => ∃ e1, t.set env d = some e1 ∧ Z (.nx e1) S1) (fun c S => Z (.ex c env) S)) : ws0 (sAsg t ra env S) Z :=
  ws_st (wp_mono h (fun _ _ ⟨e1, e, q⟩ => by rw [e]; exact q) fun _ _ z => z)
theorem s_setIx {g : OpSet} (h : wp0 (ra env S) (fun v S1 => wp0 (rb env S1) (fun o S2 => wp0 (rc env S2) (fun i S3 => ∃ S4, g S3 o i v = some S4 ∧ Z (.nx env) S4) (fun c S => Z (.ex c env) S)) (fun c S => Z (.ex c env) S)) (fun c S => Z (.ex c env) S)) : ws0 (sSetIx g ra rb rc env S) Z :=
  ws_st (wp_mono h (fun _ _ k => ws_st (wp_mono k (fun _ _ k => ws_st (wp_mono k (fun _ _ ⟨S4, e, q⟩ => by rw [e]; exact q) fun _ _ z => z)) fun _ _ z => z)) fun _ _ z => z)
theorem s_augIx {gg gp : Op2} {g : OpSet} (h : wp0 (ra env S) (fun o S1 => wp0 (rb env S1) (fun i S2 => ∃ x, gg S2 o i = some x ∧ wp0 (rc env S2) (fun y S3 => ∃ z, gp S3 x y = some z ∧ ∃ S4, g S3 o i z = some S4 ∧ Z (.nx env) S4) (fun c S => Z (.ex c env) S)) (fun c S => Z (.ex c env) S)) (fun c S => Z (.ex c env) S)) : ws0 (sAugIx gg gp g ra rb rc env S) Z :=
  ws_st (wp_mono h (fun _ _ k => ws_st (wp_mono k (fun _ _ ⟨x, e, k⟩ => ws_st (by
    rw [e]
    exact ws_st (wp_mono k (fun _ _ ⟨z, e2, S4, e3, q⟩ => ws_st (by
      rw [e2]
      show ws0 (match g _ _ _ _ with | some S6 => some (Flow.nx env, S6) | none => none) Z
      rw [e3]
      exact q)) fun _ _ z => z))) fun _ _ z => z)) fun _ _ z => z)
theorem s_aug {i : Nat} {gp : Op2} (h : wp0 (rVar i env S) (fun x S0 => wp0 (ra env S0) (fun y S1 => ∃ z, gp S1 x y = some z ∧ Z (.nx (env.set i (some z))) S1) (fun c S => Z (.ex c env) S)) (fun c S => Z (.ex c env) S)) : ws0 (sAug i gp ra env S) Z :=
  ws_st (wp_mono h (fun _ _ k => ws_st (wp_mono k (fun _ _ ⟨z, e, q⟩ => by rw [e]; exact q) fun _ _ z => z)) fun _ _ z => z)
theorem s_for {t : Tg} {body : SM} (h : wp0 (rs env S) (fun items S1 => ws0 (forGo t body items env S1) Z) (fun c S => Z (.ex c env) S)) : ws0 (sFor t rs body env S) Z := ws_st h
theorem stepZ_nx {k : Ev → Store → Prop} {e : Ev} (h : k e S) : stepZ Z k (.nx e) S := h
theorem stepZ_ct {k : Ev → Store → Prop} {e : Ev} (h : k e S) : stepZ Z k (.ct e) S := h
theorem stepZ_bk {k : Ev → Store → Prop} {e : Ev} (h : Z (.nx e) S) : stepZ Z k (.bk e) S := h
theorem stepZ_rt {k : Ev → Store → Prop} {d : D} (h : Z (.rt d) S) : stepZ Z k (.rt d) S := h
theorem stepZ_ex {k : Ev → Store → Prop} {c : Nat} {e : Ev} (h : Z (.ex c e) S) : stepZ Z k (.ex c e) S := h
theorem go_nil {t : Tg} {body : SM} (h : Z (.nx env) S) : ws0 (forGo t body [] env S) Z := h
theorem go_cons {t : Tg} {body : SM} {d : D} {ds : List D} (h : ∃ e1, t.set env d = some e1 ∧ ws0 (body e1 S) (stepZ Z fun e S1 => ws0 (forGo t body ds e S1) Z)) : ws0 (forGo t body (d :: ds) env S) Z := by
  obtain ⟨e1, e, k⟩ := h
  unfold forGo
  rw [e]
  dsimp only
  cases e2 : body e1 S with
  | none => rw [e2] at k; exact k
  | some p =>
    rw [e2] at k
    obtain ⟨fl, S1⟩ := p
    cases fl <;> exact k
/-- a walk with an invariant -/
theorem go_inv {t : Tg} {body : SM} (I : List D → Ev → Store → Prop) (h0 : ∀ e S, I [] e S → Z (.nx e) S)
    (hs : ∀ d ds e S, I (d :: ds) e S → ∃ e1, t.set e d = some e1 ∧ ws0 (body e1 S) (stepZ Z fun e' S1 => I ds e' S1)) : ∀ (items : List D) (e : Ev) (S : Store), I items e S → ws0 (forGo t body items e S) Z
  | [], e, S, h => go_nil (h0 e S h)
  | d :: ds, e, S, h => by
    obtain ⟨e1, q1, q2⟩ := hs d ds e S h
    refine go_cons ⟨e1, q1, ws_mono q2 fun fl S1 k => ?_⟩
    cases fl with
    | nx e' => exact go_inv I h0 hs ds e' S1 k
    | ct e' => exact go_inv I h0 hs ds e' S1 k
    | bk e' => exact k
    | rt d => exact k
    | ex c e' => exact k
theorem whl_inv {body : SM} (I : Nat → Ev → Store → Prop)
    (hs : ∀ n e S, I (n + 1) e S → wp0 (rt e S) (fun b S1 => (b = true → ws0 (body e S1) (stepZ Z fun e' S2 => I n e' S2)) ∧ (b = false → Z (.nx e) S1)) (fun c S => Z (.ex c e) S)) (h0 : ∀ e S, ¬ I 0 e S) : ∀ (n : Nat) (e : Ev) (S : Store), I n e S → ws0 (sWhile n rt body e S) Z
  | 0, e, S, h => absurd h (h0 e S)
  | n + 1, e, S, h => by
    refine ws_st (wp_mono (hs n e S h) (fun b S1 k => ?_) fun _ _ z => z)
    cases b with
    | false => exact k.2 rfl
    | true =>
      have k := k.1 rfl
      show ws0 (match body e S1 with
        | some (.nx e, S') => whileGo rt body n e S'
        | some (.ct e, S') => whileGo rt body n e S'
        | some (.bk e, S') => some (.nx e, S')
        | r => r) Z
      cases e2 : body e S1 with
      | none => rw [e2] at k; exact k
      | some p =>
        rw [e2] at k
        obtain ⟨fl, S2⟩ := p
        cases fl with
        | nx e' => exact whl_inv I hs h0 n e' S2 k
        | ct e' => exact whl_inv I hs h0 n e' S2 k
        | bk e' => exact k
        | rt d => exact k
        | ex c e' => exact k
theorem whl_fuel {body : SM} {n : Nat} : ∀ (m : Nat), n ≤ m → ws0 (sWhile n rt body env S) Z → ws0 (sWhile m rt body env S) Z := by
  induction n generalizing env S with
  | zero => intro m _ h; exact False.elim h
  | succ n ih =>
    intro m hm h
    obtain ⟨m, rfl⟩ : ∃ k, m = k + 1 := ⟨m - 1, by omega⟩
    revert h
    show ws0 ((rt env S).st env fun b S1 => if b = true then (match body env S1 with
      | some (.nx e, S') => whileGo rt body n e S'
      | some (.ct e, S') => whileGo rt body n e S'
      | some (.bk e, S') => some (.nx e, S')
      | r => r) else some (.nx env, S1)) Z → ws0 ((rt env S).st env fun b S1 => if b = true then (match body env S1 with
      | some (.nx e, S') => whileGo rt body m e S'
      | some (.ct e, S') => whileGo rt body m e S'
      | some (.bk e, S') => some (.nx e, S')
      | r => r) else some (.nx env, S1)) Z
    cases rt env S with
    | stuck => exact id
    | exc c S1 => exact id
    | ok b S1 =>
      cases b with
      | false => exact id
      | true =>
        show ws0 (match body env S1 with
          | some (.nx e, S') => whileGo rt body n e S'
          | some (.ct e, S') => whileGo rt body n e S'
          | some (.bk e, S') => some (.nx e, S')
          | r => r) Z → ws0 (match body env S1 with
          | some (.nx e, S') => whileGo rt body m e S'
          | some (.ct e, S') => whileGo rt body m e S'
          | some (.bk e, S') => some (.nx e, S')
          | r => r) Z
        cases body env S1 with
        | none => exact id
        | some p =>
          obtain ⟨fl, S2⟩ := p
          cases fl with
          | nx e' => exact ih m (by omega)
          | ct e' => exact ih m (by omega)
          | _ => exact id
/-! list comprehensions -/
theorem w_lc {t : Tg} {ri : Ev → Store → Res (List D)} {re : Ev → Store → Res D} {vs : List Nat} (h : wp0 (ri env S) (fun items S1 => items.length ≤ 100000 ∧ wp0 (lcGo t rt re (wipeE env vs) items S1) (fun l S2 => R (.lst l) S2) X) X) : wp0 (rLc t ri rt re vs env S) R X :=
  wp_bind (wp_mono h (fun _ _ k => by rw [if_pos k.1]; exact wp_bind k.2) fun _ _ z => z)
theorem w_lcM {t : Tg} {ri : Ev → Store → Res (List D)} {re : Ev → Store → Res D} {vs : List Nat} (h : wp0 (ri env S) (fun items S1 => items.length ≤ 100000 ∧ wp0 (lcGo t rt re (wipeE env vs) items S1) (fun l S2 => R (.loc S2.length) (S2 ++ [.lst l])) X) X) : wp0 (rLcM t ri rt re vs env S) R X :=
  wp_bind (wp_mono h (fun _ _ k => by rw [if_pos k.1]; exact wp_bind k.2) fun _ _ z => z)
theorem lc_nil {t : Tg} {re : Ev → Store → Res D} (h : A [] S) : wp0 (lcGo t rt re env [] S) A X := h
theorem wp_noex {r : Res α} (h : wp0 r Q (fun _ _ => False)) : wp0 r.noex Q X := by
  cases r with
  | ok a S => exact h
  | exc c S => exact h
  | stuck => exact h
theorem lc_cons {t : Tg} {re : Ev → Store → Res D} {d : D} {ds : List D} (h : ∃ e1, t.set env d = some e1 ∧ wp0 (rt e1 S) (fun b S1 => (b = true → wp0 (re e1 S1) (fun v S2 => wp0 (lcGo t rt re env ds S2) (fun l S3 => A (v :: l) S3) X) (fun _ _ => False)) ∧ (b = false → wp0 (lcGo t rt re env ds S1) A X)) (fun _ _ => False)) : wp0 (lcGo t rt re env (d :: ds) S) A X := by
  obtain ⟨e1, e, k⟩ := h
  unfold lcGo
  rw [e]
  refine wp_bind (wp_noex (wp_mono k (fun b S1 k => ?_) fun _ _ z => z))
  cases b with
  | false => exact k.2 rfl
  | true => exact wp_bind (wp_noex (wp_mono (k.1 rfl) (fun v S2 k => wp_bind k) fun _ _ z => z))
/-- a comprehension that leaves the store alone -/
theorem lc_pure {t : Tg} {re : Ev → Store → Res D} (f : D → D) (items : List D) (hs : ∀ d ∈ items, ∃ e1, t.set env d = some e1 ∧ rt e1 S = .ok true S ∧ re e1 S = .ok (f d) S) (h : A (items.map f) S) : wp0 (lcGo t rt re env items S) A X := by
  induction items generalizing A with
  | nil => exact h
  | cons d ds ih =>
    obtain ⟨e1, q1, q2, q3⟩ := hs d List.mem_cons_self
    refine lc_cons ⟨e1, q1, ?_⟩
    rw [q2]
    refine ⟨fun _ => ?_, fun h => nomatch h⟩
    rw [q3]
    exact ih (A := fun l S3 => A (f d :: l) S3) (fun d' hd => hs d' (List.mem_cons_of_mem _ hd)) h
/-! a function -/
theorem fnZ_nx {e : Ev} (h : R .non S) : fnZ R X (.nx e) S := h
theorem fnZ_rt {d : D} (h : R d S) : fnZ R X (.rt d) S := h
theorem fnZ_ex {c : Nat} {e : Ev} (h : X c S) : fnZ R X (.ex c e) S := h
theorem w_fn {n p : Nat} {body : SM} {ds : List D} (h : ws0 (body (ds.map some ++ List.replicate (n - p) none) S) (fnZ R X)) : wp0 (fnSem n p body S ds) R X := by
  unfold fnSem
  revert h
  cases body (ds.map some ++ List.replicate (n - p) none) S with
  | none => exact id
  | some q =>
    obtain ⟨fl, S1⟩ := q
    cases fl <;> exact id
/-- what holds of every end is told as an equation -/
theorem wp_eq {α : Type} {r : Res α} {a : α} {S' : Store} (h : wp0 r (fun d S1 => d = a ∧ S1 = S') (fun _ _ => False)) : r = .ok a S' := by
  cases r with
  | ok d S1 => obtain ⟨e1, e2⟩ := h; rw [e1, e2]
  | exc => exact h.elim
  | stuck => exact h.elim
theorem wp_of {α : Type} {r : Res α} {a : α} {S' : Store} {Q : α → Store → Prop} {X : Nat → Store → Prop} (e : r = .ok a S') (h : Q a S') : wp0 r Q X := by
  rw [e]; exact h
end
end W0
@[irreducible] def wp {α : Type} (r : Res α) (Q : α → Store → Prop) (X : Nat → Store → Prop) : Prop := W0.wp0 r Q X
@[irreducible] def ws (r : Option (Flow × Store)) (Q : Flow → Store → Prop) : Prop := W0.ws0 r Q
theorem wp_e {α : Type} (r : Res α) (Q : α → Store → Prop) (X : Nat → Store → Prop) : wp r Q X = W0.wp0 r Q X := by unfold wp; rfl
theorem ws_e (r : Option (Flow × Store)) (Q : Flow → Store → Prop) : ws r Q = W0.ws0 r Q := by unfold ws; rfl
section
variable {α β : Type} {Q : α → Store → Prop} {R : D → Store → Prop} {B : Bool → Store → Prop} {A : List D → Store → Prop} {X : Nat → Store → Prop} {Z : Flow → Store → Prop} {env : Ev} {S : Store} {ra rb rc : Ev → Store → Res D} {rt ru : Ev → Store → Res Bool} {rs : Ev → Store → Res (List D)}
theorem wp_ok {a : α} (h : Q a S) : wp (.ok a S) Q X := by
  simp only [wp_e, ws_e] at *
  exact W0.wp_ok h
theorem wp_mono {r : Res α} {Q' : α → Store → Prop} {X' : Nat → Store → Prop} (h : wp r Q X) (k : ∀ a S, Q a S → Q' a S) (kx : ∀ c S, X c S → X' c S) : wp r Q' X' := by
  simp only [wp_e, ws_e] at *
  exact W0.wp_mono h k kx
theorem ws_mono {r : Option (Flow × Store)} {Z' : Flow → Store → Prop} (h : ws r Z) (k : ∀ a S, Z a S → Z' a S) : ws r Z' := by
  simp only [wp_e, ws_e] at *
  exact W0.ws_mono h k
theorem wp_bind {r : Res α} {f : α → Store → Res β} {Q : β → Store → Prop} (h : wp r (fun a S => wp (f a S) Q X) X) : wp (r.bind f) Q X := by
  simp only [wp_e, ws_e] at *
  exact W0.wp_bind h
theorem ws_st {r : Res α} {f : α → Store → Option (Flow × Store)} (h : wp r (fun a S => ws (f a S) Z) (fun c S => Z (.ex c env) S)) : ws (r.st env f) Z := by
  simp only [wp_e, ws_e] at *
  exact W0.ws_st h
theorem wp_lift {o : Option α} (h : ∃ a, o = some a ∧ Q a S) : wp (lift o S) Q X := by
  simp only [wp_e, ws_e] at *
  exact W0.wp_lift h
theorem w_var {i : Nat} (d : D) (h : env[i]? = some (some d)) (q : R d S) : wp (rVar i env S) R X := by
  simp only [wp_e, ws_e] at *
  exact W0.w_var d h q
theorem w_C {d : D} (q : R d S) : wp (rC d env S) R X := by
  simp only [wp_e, ws_e] at *
  exact W0.w_C q
theorem w_r2 {g : Op2} (h : wp (ra env S) (fun x S1 => wp (rb env S1) (fun y S2 => ∃ d, g S2 x y = some d ∧ R d S2) X) X) : wp (r2 g ra rb env S) R X := by
  simp only [wp_e, ws_e] at *
  exact W0.w_r2 h
theorem w_r1 {g : Op1} (h : wp (ra env S) (fun x S1 => ∃ d, g S1 x = some d ∧ R d S1) X) : wp (r1 g ra env S) R X := by
  simp only [wp_e, ws_e] at *
  exact W0.w_r1 h
theorem w_nil (q : A [] S) : wp (rNil env S) A X := by
  simp only [wp_e, ws_e] at *
  exact W0.w_nil q
theorem w_cons (h : wp (ra env S) (fun x S1 => wp (rs env S1) (fun xs S2 => A (x :: xs) S2) X) X) : wp (rCons ra rs env S) A X := by
  simp only [wp_e, ws_e] at *
  exact W0.w_cons h
theorem w_tup (h : wp (rs env S) (fun xs S1 => xs.length ≤ 100000 ∧ R (.tup xs) S1) X) : wp (rTup rs env S) R X := by
  simp only [wp_e, ws_e] at *
  exact W0.w_tup h
theorem w_lst (h : wp (rs env S) (fun xs S1 => xs.length ≤ 100000 ∧ R (.lst xs) S1) X) : wp (rLst rs env S) R X := by
  simp only [wp_e, ws_e] at *
  exact W0.w_lst h
theorem w_lstM (h : wp (rs env S) (fun xs S1 => xs.length ≤ 100000 ∧ R (.loc S1.length) (S1 ++ [.lst xs])) X) : wp (rLstM rs env S) R X := by
  simp only [wp_e, ws_e] at *
  exact W0.w_lstM h
theorem w_listM (h : wp (ra env S) (fun d S1 => ∃ xs, listD S1 [d] = some (.lst xs) ∧ R (.loc S1.length) (S1 ++ [.lst xs])) X) : wp (rListM ra env S) R X := by
  simp only [wp_e, ws_e] at *
  exact W0.w_listM h
theorem w_if (h : wp (rt env S) (fun b S1 => (b = true → wp (ra env S1) R X) ∧ (b = false → wp (rb env S1) R X)) X) : wp (rIf rt ra rb env S) R X := by
  simp only [wp_e, ws_e] at *
  exact W0.w_if h
theorem w_tOf (h : wp (ra env S) (fun x S1 => ∃ b, x = .bl b ∧ B b S1) X) : wp (tOf ra env S) B X := by
  simp only [wp_e, ws_e] at *
  exact W0.w_tOf h
theorem w_tAnd (h : wp (rt env S) (fun b S1 => (b = true → wp (ru env S1) B X) ∧ (b = false → B false S1)) X) : wp (tAndR rt ru env S) B X := by
  simp only [wp_e, ws_e] at *
  exact W0.w_tAnd h
theorem w_tOr (h : wp (rt env S) (fun b S1 => (b = true → B true S1) ∧ (b = false → wp (ru env S1) B X)) X) : wp (tOrR rt ru env S) B X := by
  simp only [wp_e, ws_e] at *
  exact W0.w_tOr h
theorem w_tNot (h : wp (rt env S) (fun b S1 => B (!b) S1) X) : wp (tNotR rt env S) B X := by
  simp only [wp_e, ws_e] at *
  exact W0.w_tNot h
theorem w_tYes (h : B true S) : wp (tYesR env S) B X := by
  simp only [wp_e, ws_e] at *
  exact W0.w_tYes h
theorem w_vAnd (h : wp (ra env S) (fun x S1 => ∃ b, x = .bl b ∧ (b = true → wp (rb env S1) R X) ∧ (b = false → R (.bl false) S1)) X) : wp (vAnd ra rb env S) R X := by
  simp only [wp_e, ws_e] at *
  exact W0.w_vAnd h
theorem w_vOr (h : wp (ra env S) (fun x S1 => ∃ b, x = .bl b ∧ (b = true → R (.bl true) S1) ∧ (b = false → wp (rb env S1) R X)) X) : wp (vOr ra rb env S) R X := by
  simp only [wp_e, ws_e] at *
  exact W0.w_vOr h
theorem w_vNot (h : wp (ra env S) (fun x S1 => ∃ b, x = .bl b ∧ R (.bl (!b)) S1) X) : wp (vNot ra env S) R X := by
  simp only [wp_e, ws_e] at *
  exact W0.w_vNot h
theorem w_chain {g g' : Op2} (h : wp (ra env S) (fun x S1 => wp (rb env S1) (fun y S2 => ∃ b, g S2 x y = some (.bl b) ∧ (b = true → wp (rc env S2) (fun z S3 => ∃ d, g' S3 y z = some d ∧ R d S3) X) ∧ (b = false → R (.bl false) S2)) X) X) : wp (rChain g g' ra rb rc env S) R X := by
  simp only [wp_e, ws_e] at *
  exact W0.w_chain h
theorem w_call {m : FSem} (h : wp (rs env S) (fun ds S1 => wp (m S1 ds) R X) X) : wp (rCall m rs env S) R X := by
  simp only [wp_e, ws_e] at *
  exact W0.w_call h
theorem w_cb {g : OpN} (h : wp (rs env S) (fun ds S1 => ∃ d, g S1 ds = some d ∧ R d S1) X) : wp (rCB g rs env S) R X := by
  simp only [wp_e, ws_e] at *
  exact W0.w_cb h
theorem w_oNone {O : Option Int → Store → Prop} (h : O none S) : wp (oNone env S) O X := by
  simp only [wp_e, ws_e] at *
  exact W0.w_oNone h
theorem w_oSome {O : Option Int → Store → Prop} (h : wp (ra env S) (fun d S1 => ∃ i, d = .int i ∧ O (some i) S1) X) : wp (oSome ra env S) O X := by
  simp only [wp_e, ws_e] at *
  exact W0.w_oSome h
theorem w_sl {g : OpSl} {rl rh : Ev → Store → Res (Option Int)} (h : wp (ra env S) (fun x S1 => wp (rl env S1) (fun l S2 => wp (rh env S2) (fun hh S3 => ∃ d, g S3 x l hh = some d ∧ R d S3) X) X) X) : wp (rSl g ra rl rh env S) R X := by
  simp only [wp_e, ws_e] at *
  exact W0.w_sl h
theorem w_mt {tb : Store → D → Bool} {g : OpM} (h : wp (ra env S) (fun x S1 => tb S1 x = true ∧ wp (rs env S1) (fun xs S2 => ∃ d S3, g S2 x xs = some (d, S3) ∧ R d S3) X) X) : wp (rMt tb g ra rs env S) R X := by
  simp only [wp_e, ws_e] at *
  exact W0.w_mt h
theorem w_fz (h : wp (ra env S) (fun d S1 => ∃ d' S2, fzD d S1 = some (d', S2) ∧ R d' S2) X) : wp (rFz ra env S) R X := by
  simp only [wp_e, ws_e] at *
  exact W0.w_fz h
theorem w_any (h : wp (ra env S) (fun d S1 => (∃ ds, d = .lst ds ∧ A ds S1) ∨ (∃ ds, d = .tup ds ∧ A ds S1) ∨ (∃ s, d = .str s ∧ A (s.map fun c => .str [c]) S1)) X) : wp (iAny ra env S) A X := by
  simp only [wp_e, ws_e] at *
  exact W0.w_any h
theorem w_rng1 (h : wp (rs env S) (fun ds S1 => ∃ n : Int, ds = [.int n] ∧ (n < 100000 ∧ -100000 < n) ∧ A (intsFrom 0 n.toNat) S1) X) : wp (iRng1S rs env S) A X := by
  simp only [wp_e, ws_e] at *
  exact W0.w_rng1 h
theorem w_rng2 (h : wp (rs env S) (fun ds S1 => ∃ i n : Int, ds = [.int i, .int n] ∧ ((n < 100000 ∧ -100000 < n) ∧ (i < 100000 ∧ -100000 < i)) ∧ A (intsFrom i (n - i).toNat) S1) X) : wp (iRng2S rs env S) A X := by
  simp only [wp_e, ws_e] at *
  exact W0.w_rng2 h
theorem w_zip (h : wp (rs env S) (fun ds S1 => ∃ xs ys, ds = [.lst xs, .lst ys] ∧ A (zipD xs ys) S1) X) : wp (iZipR rs env S) A X := by
  simp only [wp_e, ws_e] at *
  exact W0.w_zip h
theorem w_enum (h : wp (rs env S) (fun ds S1 => ∃ x xs, ds = [x] ∧ itemsOf x = some xs ∧ A (enumFrom 0 xs) S1) X) : wp (iEnumR rs env S) A X := by
  simp only [wp_e, ws_e] at *
  exact W0.w_enum h
theorem ws_some {fl : Flow} (h : Z fl S) : ws (some (fl, S)) Z := by
  simp only [wp_e, ws_e] at *
  exact W0.ws_some h
theorem s_next (h : Z (.nx env) S) : ws (sNext env S) Z := by
  simp only [wp_e, ws_e] at *
  exact W0.s_next h
theorem seqZ_nx {k : Ev → Store → Prop} {e : Ev} (h : k e S) : seqZ Z k (.nx e) S := W0.seqZ_nx h
theorem seqZ_ct {k : Ev → Store → Prop} {e : Ev} (h : Z (.ct e) S) : seqZ Z k (.ct e) S := W0.seqZ_ct h
theorem seqZ_bk {k : Ev → Store → Prop} {e : Ev} (h : Z (.bk e) S) : seqZ Z k (.bk e) S := W0.seqZ_bk h
theorem seqZ_rt {k : Ev → Store → Prop} {d : D} (h : Z (.rt d) S) : seqZ Z k (.rt d) S := W0.seqZ_rt h
theorem seqZ_ex {k : Ev → Store → Prop} {c : Nat} {e : Ev} (h : Z (.ex c e) S) : seqZ Z k (.ex c e) S := W0.seqZ_ex h
theorem s_seq {s t : SM} (h : ws (s env S) (seqZ Z fun e S1 => ws (t e S1) Z)) : ws (sSeq s t env S) Z := by
  simp only [wp_e, ws_e] at *
  exact W0.s_seq h
theorem s_expr (h : wp (ra env S) (fun _ S1 => Z (.nx env) S1) (fun c S => Z (.ex c env) S)) : ws (sExpr ra env S) Z := by
  simp only [wp_e, ws_e] at *
  exact W0.s_expr h
theorem s_ret (h : wp (ra env S) (fun d S1 => Z (.rt d) S1) (fun c S => Z (.ex c env) S)) : ws (sRet ra env S) Z := by
  simp only [wp_e, ws_e] at *
  exact W0.s_ret h
theorem s_set {i : Nat} (h : wp (ra env S) (fun d S1 => Z (.nx (env.set i (some d))) S1) (fun c S => Z (.ex c env) S)) : ws (sSet i ra env S) Z := by
  simp only [wp_e, ws_e] at *
  exact W0.s_set h
theorem s_if {s t : SM} (h : wp (rt env S) (fun b S1 => (b = true → ws (s env S1) Z) ∧ (b = false → ws (t env S1) Z)) (fun c S => Z (.ex c env) S)) : ws (sIf rt s t env S) Z := by
  simp only [wp_e, ws_e] at *
  exact W0.s_if h
theorem s_break (h : Z (.bk env) S) : ws (sBreak env S) Z := by
  simp only [wp_e, ws_e] at *
  exact W0.s_break h
theorem s_cont (h : Z (.ct env) S) : ws (sCont env S) Z := by
  simp only [wp_e, ws_e] at *
  exact W0.s_cont h
theorem s_raise {c : Nat} (h : Z (.ex c env) S) : ws (sRaise c env S) Z := by
  simp only [wp_e, ws_e] at *
  exact W0.s_raise h
theorem s_par {i j : Nat} (h : wp (rs env S) (fun ds S1 => ∃ x y, ds = [x, y] ∧ Z (.nx ((env.set i (some x)).set j (some y))) S1) (fun c S => Z (.ex c env) S)) : ws (sPar i j rs env S) Z := by
  simp only [wp_e, ws_e] at *
  exact W0.s_par h
theorem s_asg {t : Tg} (h : wp (ra env S) (fun d S1 => ∃ e1, t.set env d = some e1 ∧ Z (.nx e1) S1) (fun c S => Z (.ex c env) S)) : ws (sAsg t ra env S) Z := by
  simp only [wp_e, ws_e] at *
  exact W0.s_asg h
theorem s_setIx {g : OpSet} (h : wp (ra env S) (fun v S1 => wp (rb env S1) (fun o S2 => wp (rc env S2) (fun i S3 => ∃ S4, g S3 o i v = some S4 ∧ Z (.nx env) S4) (fun c S => Z (.ex c env) S)) (fun c S => Z (.ex c env) S)) (fun c S => Z (.ex c env) S)) : ws (sSetIx g ra rb rc env S) Z := by
  simp only [wp_e, ws_e] at *
  exact W0.s_setIx h
theorem s_augIx {gg gp : Op2} {g : OpSet} (h : wp (ra env S) (fun o S1 => wp (rb env S1) (fun i S2 => ∃ x, gg S2 o i = some x ∧ wp (rc env S2) (fun y S3 => ∃ z, gp S3 x y = some z ∧ ∃ S4, g S3 o i z = some S4 ∧ Z (.nx env) S4) (fun c S => Z (.ex c env) S)) (fun c S => Z (.ex c env) S)) (fun c S => Z (.ex c env) S)) : ws (sAugIx gg gp g ra rb rc env S) Z := by
  simp only [wp_e, ws_e] at *
  exact W0.s_augIx h
theorem s_aug {i : Nat} {gp : Op2} (h : wp (rVar i env S) (fun x S0 => wp (ra env S0) (fun y S1 => ∃ z, gp S1 x y = some z ∧ Z (.nx (env.set i (some z))) S1) (fun c S => Z (.ex c env) S)) (fun c S => Z (.ex c env) S)) : ws (sAug i gp ra env S) Z := by
  simp only [wp_e, ws_e] at *
  exact W0.s_aug h
theorem s_for {t : Tg} {body : SM} (h : wp (rs env S) (fun items S1 => ws (forGo t body items env S1) Z) (fun c S => Z (.ex c env) S)) : ws (sFor t rs body env S) Z := by
  simp only [wp_e, ws_e] at *
  exact W0.s_for h
theorem stepZ_nx {k : Ev → Store → Prop} {e : Ev} (h : k e S) : stepZ Z k (.nx e) S := W0.stepZ_nx h
theorem stepZ_ct {k : Ev → Store → Prop} {e : Ev} (h : k e S) : stepZ Z k (.ct e) S := W0.stepZ_ct h
theorem stepZ_bk {k : Ev → Store → Prop} {e : Ev} (h : Z (.nx e) S) : stepZ Z k (.bk e) S := W0.stepZ_bk h
theorem stepZ_rt {k : Ev → Store → Prop} {d : D} (h : Z (.rt d) S) : stepZ Z k (.rt d) S := W0.stepZ_rt h
theorem stepZ_ex {k : Ev → Store → Prop} {c : Nat} {e : Ev} (h : Z (.ex c e) S) : stepZ Z k (.ex c e) S := W0.stepZ_ex h
theorem go_nil {t : Tg} {body : SM} (h : Z (.nx env) S) : ws (forGo t body [] env S) Z := by
  simp only [wp_e, ws_e] at *
  exact W0.go_nil h
theorem go_cons {t : Tg} {body : SM} {d : D} {ds : List D} (h : ∃ e1, t.set env d = some e1 ∧ ws (body e1 S) (stepZ Z fun e S1 => ws (forGo t body ds e S1) Z)) : ws (forGo t body (d :: ds) env S) Z := by
  simp only [wp_e, ws_e] at *
  exact W0.go_cons h
theorem go_inv {t : Tg} {body : SM} (I : List D → Ev → Store → Prop) (h0 : ∀ e S, I [] e S → Z (.nx e) S)
    (hs : ∀ d ds e S, I (d :: ds) e S → ∃ e1, t.set e d = some e1 ∧ ws (body e1 S) (stepZ Z fun e' S1 => I ds e' S1)) : ∀ (items : List D) (e : Ev) (S : Store), I items e S → ws (forGo t body items e S) Z := by
  simp only [wp_e, ws_e] at *
  exact W0.go_inv I h0 hs
theorem whl_inv {body : SM} (I : Nat → Ev → Store → Prop)
    (hs : ∀ n e S, I (n + 1) e S → wp (rt e S) (fun b S1 => (b = true → ws (body e S1) (stepZ Z fun e' S2 => I n e' S2)) ∧ (b = false → Z (.nx e) S1)) (fun c S => Z (.ex c e) S)) (h0 : ∀ e S, ¬ I 0 e S) : ∀ (n : Nat) (e : Ev) (S : Store), I n e S → ws (sWhile n rt body e S) Z := by
  simp only [wp_e, ws_e] at *
  exact W0.whl_inv I hs h0
theorem whl_fuel {body : SM} {n : Nat} : ∀ (m : Nat), n ≤ m → ws (sWhile n rt body env S) Z → ws (sWhile m rt body env S) Z := by
  simp only [wp_e, ws_e] at *
  exact W0.whl_fuel 
theorem w_lc {t : Tg} {ri : Ev → Store → Res (List D)} {re : Ev → Store → Res D} {vs : List Nat} (h : wp (ri env S) (fun items S1 => items.length ≤ 100000 ∧ wp (lcGo t rt re (wipeE env vs) items S1) (fun l S2 => R (.lst l) S2) X) X) : wp (rLc t ri rt re vs env S) R X := by
  simp only [wp_e, ws_e] at *
  exact W0.w_lc h
theorem w_lcM {t : Tg} {ri : Ev → Store → Res (List D)} {re : Ev → Store → Res D} {vs : List Nat} (h : wp (ri env S) (fun items S1 => items.length ≤ 100000 ∧ wp (lcGo t rt re (wipeE env vs) items S1) (fun l S2 => R (.loc S2.length) (S2 ++ [.lst l])) X) X) : wp (rLcM t ri rt re vs env S) R X := by
  simp only [wp_e, ws_e] at *
  exact W0.w_lcM h
theorem lc_nil {t : Tg} {re : Ev → Store → Res D} (h : A [] S) : wp (lcGo t rt re env [] S) A X := by
  simp only [wp_e, ws_e] at *
  exact W0.lc_nil h
theorem wp_noex {r : Res α} (h : wp r Q (fun _ _ => False)) : wp r.noex Q X := by
  simp only [wp_e, ws_e] at *
  exact W0.wp_noex h
theorem lc_cons {t : Tg} {re : Ev → Store → Res D} {d : D} {ds : List D} (h : ∃ e1, t.set env d = some e1 ∧ wp (rt e1 S) (fun b S1 => (b = true → wp (re e1 S1) (fun v S2 => wp (lcGo t rt re env ds S2) (fun l S3 => A (v :: l) S3) X) (fun _ _ => False)) ∧ (b = false → wp (lcGo t rt re env ds S1) A X)) (fun _ _ => False)) : wp (lcGo t rt re env (d :: ds) S) A X := by
  simp only [wp_e, ws_e] at *
  exact W0.lc_cons h
theorem lc_pure {t : Tg} {re : Ev → Store → Res D} (f : D → D) (items : List D) (hs : ∀ d ∈ items, ∃ e1, t.set env d = some e1 ∧ rt e1 S = .ok true S ∧ re e1 S = .ok (f d) S) (h : A (items.map f) S) : wp (lcGo t rt re env items S) A X := by
  simp only [wp_e, ws_e] at *
  exact W0.lc_pure f items hs h
theorem fnZ_nx {e : Ev} (h : R .non S) : fnZ R X (.nx e) S := W0.fnZ_nx h
theorem fnZ_rt {d : D} (h : R d S) : fnZ R X (.rt d) S := W0.fnZ_rt h
theorem fnZ_ex {c : Nat} {e : Ev} (h : X c S) : fnZ R X (.ex c e) S := W0.fnZ_ex h
theorem w_fn {n p : Nat} {body : SM} {ds : List D} (h : ws (body (ds.map some ++ List.replicate (n - p) none) S) (fnZ R X)) : wp (fnSem n p body S ds) R X := by
  simp only [wp_e, ws_e] at *
  exact W0.w_fn h
theorem wp_eq {α : Type} {r : Res α} {a : α} {S' : Store} (h : wp r (fun d S1 => d = a ∧ S1 = S') (fun _ _ => False)) : r = .ok a S' := by
  simp only [wp_e, ws_e] at *
  exact W0.wp_eq h
theorem wp_of {α : Type} {r : Res α} {a : α} {S' : Store} {Q : α → Store → Prop} {X : Nat → Store → Prop} (e : r = .ok a S') (h : Q a S') : wp r Q X := by
  simp only [wp_e, ws_e] at *
  exact W0.wp_of e h
end
end L3
set_option Elab.async false
set_option linter.all false
set_option maxRecDepth 100000
set_option maxHeartbeats 2000000
/-! what the operations answer at plain data -/
namespace L3
open PySem PySem.Spec L2
noncomputable section
open Classical
/-- ints and texts, and lists and tuples of them, n deep -/
def D.pl : Nat → D → Bool
  | _, .int _ => true
  | _, .str _ => true
  | _, .non => true
  | n + 1, .lst ds => ds.all (D.pl n)
  | n + 1, .tup ds => ds.all (D.pl n)
  | _, _ => false
theorem pl_int (n : Nat) (i : Int) : D.pl n (.int i) = true := by cases n <;> rfl
theorem pl_str (n : Nat) (s : List Nat) : D.pl n (.str s) = true := by cases n <;> rfl
theorem pl_flat : ∀ (n : Nat) (d : D), D.pl n d = true → d.flat = true ∧ d.py.depth ≤ n := by
  intro n
  induction n with
  | zero =>
    intro d h
    cases d <;> first | (cases h; done) | exact ⟨rfl, Nat.zero_le _⟩
  | succ n ih =>
    have al : ∀ ds : List D, ds.all (D.pl n) = true → D.flats ds = true ∧ PyData.depthAll (D.pys ds) ≤ n := by
      intro ds
      induction ds with
      | nil => exact fun _ => ⟨rfl, Nat.zero_le _⟩
      | cons d ds ih2 =>
        intro h
        rw [List.all_cons, Bool.and_eq_true] at h
        obtain ⟨a, b⟩ := ih d h.1
        obtain ⟨a', b'⟩ := ih2 h.2
        refine ⟨by simp [D.flats, a, a'], ?_⟩
        simp only [D.pys, PyData.depthAll]
        exact Nat.max_le.mpr ⟨b, b'⟩
    intro d h
    cases d with
    | int => exact ⟨rfl, Nat.zero_le _⟩
    | str => exact ⟨rfl, Nat.zero_le _⟩
    | non => exact ⟨rfl, Nat.zero_le _⟩
    | lst ds =>
      refine ⟨(al ds h).1, ?_⟩
      simp only [D.py, PyData.depth]
      exact Nat.succ_le_succ (al ds h).2
    | tup ds =>
      refine ⟨(al ds h).1, ?_⟩
      simp only [D.py, PyData.depth]
      exact Nat.succ_le_succ (al ds h).2
    | _ => cases h
theorem tx_inj {s t : List Nat} : tx s = tx t ↔ s = t := by
  constructor
  · intro h
    have h := congrArg (fun z : Str => z.cps.toList) h
    simpa [tx] using h
  · intro h; rw [h]
theorem pl_eqv : ∀ (n : Nat) (x y : D), D.pl n x = true → D.pl n y = true → (PyData.eqv x.py y.py = true ↔ x = y) := by
  intro n
  induction n with
  | zero =>
    intro x y hx hy
    cases x <;> first | (cases hx; done) | skip
    all_goals (cases y <;> first | (cases hy; done) | skip)
    all_goals simp [D.py, PyData.eqv, tx_inj]
  | succ n ih =>
    have al : ∀ xs ys : List D, xs.all (D.pl n) = true → ys.all (D.pl n) = true → (PyData.eqvAll (D.pys xs) (D.pys ys) = true ↔ xs = ys) := by
      intro xs
      induction xs with
      | nil => intro ys _ _; cases ys <;> simp [D.pys, PyData.eqvAll]
      | cons x xs ih2 =>
        intro ys hx hy
        cases ys with
        | nil => simp [D.pys, PyData.eqvAll]
        | cons y ys =>
          rw [List.all_cons, Bool.and_eq_true] at hx hy
          simp only [D.pys, PyData.eqvAll, Bool.and_eq_true, ih x y hx.1 hy.1, ih2 ys hx.2 hy.2, List.cons.injEq]
    intro x y hx hy
    cases x <;> first | (cases hx; done) | skip
    all_goals (cases y <;> first | (cases hy; done) | skip)
    all_goals first | (simp [D.py, PyData.eqv, tx_inj]; done) | skip
    · rename_i xs ys
      simp only [D.py, PyData.eqv, D.lst.injEq]
      exact al xs ys hx hy
    · rename_i xs ys
      simp only [D.py, PyData.eqv, D.tup.injEq]
      exact al xs ys hx hy
theorem un_pl {n : Nat} {S : Store} {d : D} (h : D.pl n d = true) : unloc S d = d := by
  cases d <;> first | rfl | (cases n <;> cases h)
theorem pl_pre {n : Nat} {x y : D} (hn : n ≤ 60) (hx : D.pl n x = true) (hy : D.pl n y = true) : eqPre x y = true := by
  obtain ⟨a, b⟩ := pl_flat n x hx
  obtain ⟨c, d⟩ := pl_flat n y hy
  simp only [eqPre, a, c, Bool.and_self, Bool.true_and, Bool.and_eq_true, decide_eq_true_eq]
  omega
theorem pl_dec {n : Nat} {x y : D} (hx : D.pl n x = true) (hy : D.pl n y = true) : PyData.eqv x.py y.py = decide (x = y) := by
  rw [Bool.eq_iff_iff, decide_eq_true_eq]
  exact pl_eqv n x y hx hy
theorem eqD_u {n : Nat} {S : Store} {x y : D} (hn : n ≤ 60) (hx : D.pl n (unloc S x) = true) (hy : D.pl n (unloc S y) = true) : eqD S x y = some (.bl (decide (unloc S x = unloc S y))) := by
  unfold eqD
  rw [if_pos (pl_pre hn hx hy), pl_dec hx hy]
theorem neD_u {n : Nat} {S : Store} {x y : D} (hn : n ≤ 60) (hx : D.pl n (unloc S x) = true) (hy : D.pl n (unloc S y) = true) : neD S x y = some (.bl (!decide (unloc S x = unloc S y))) := by
  unfold neD
  rw [if_pos (pl_pre hn hx hy), pl_dec hx hy]
theorem eqD_pl (n : Nat) {S : Store} {x y : D} (hn : n ≤ 60) (hx : D.pl n x = true) (hy : D.pl n y = true) : eqD S x y = some (.bl (decide (x = y))) := by
  have q := eqD_u (S := S) (x := x) (y := y) hn (by rw [un_pl hx]; exact hx) (by rw [un_pl hy]; exact hy)
  rwa [un_pl hx, un_pl hy] at q
theorem neD_pl (n : Nat) {S : Store} {x y : D} (hn : n ≤ 60) (hx : D.pl n x = true) (hy : D.pl n y = true) : neD S x y = some (.bl (!decide (x = y))) := by
  have q := neD_u (S := S) (x := x) (y := y) hn (by rw [un_pl hx]; exact hx) (by rw [un_pl hy]; exact hy)
  rwa [un_pl hx, un_pl hy] at q
theorem eqD_ii {S : Store} {i j : Int} : eqD S (.int i) (.int j) = some (.bl (decide (i = j))) := by
  rw [eqD_pl 0 (by decide) rfl rfl]; simp
theorem eqD_ss {S : Store} {i j : List Nat} : eqD S (.str i) (.str j) = some (.bl (decide (i = j))) := by
  rw [eqD_pl 0 (by decide) rfl rfl]; simp
theorem neD_ii {S : Store} {i j : Int} : neD S (.int i) (.int j) = some (.bl (!decide (i = j))) := by
  rw [neD_pl 0 (by decide) rfl rfl]; simp
theorem neD_ss {S : Store} {i j : List Nat} : neD S (.str i) (.str j) = some (.bl (!decide (i = j))) := by
  rw [neD_pl 0 (by decide) rfl rfl]; simp
theorem eqD_bb {S : Store} {i j : Bool} : eqD S (.bl i) (.bl j) = some (.bl (decide (i = j))) := by
  cases i <;> cases j <;> rfl
theorem isD_bb {S : Store} {i j : Bool} : isD S (.bl i) (.bl j) = some (.bl (decide (i = j))) := by
  cases i <;> cases j <;> rfl
theorem pl_strs (n : Nat) (xs : List (List Nat)) : D.pl (n + 1) (.lst (xs.map .str)) = true := by
  show (xs.map D.str).all (D.pl n) = true
  rw [List.all_map, List.all_eq_true]
  exact fun x _ => pl_str n x
theorem pl_ints (n : Nat) (xs : List Int) : D.pl (n + 1) (.lst (xs.map .int)) = true := by
  show (xs.map D.int).all (D.pl n) = true
  rw [List.all_map, List.all_eq_true]
  exact fun x _ => pl_int n x
theorem str_map_inj {xs ys : List (List Nat)} : xs.map D.str = ys.map D.str ↔ xs = ys := by
  induction xs generalizing ys with
  | nil => cases ys <;> simp
  | cons x xs ih => cases ys with
    | nil => simp
    | cons y ys => simp [ih]
theorem int_map_inj {xs ys : List Int} : xs.map D.int = ys.map D.int ↔ xs = ys := by
  induction xs generalizing ys with
  | nil => cases ys <;> simp
  | cons x xs ih => cases ys with
    | nil => simp
    | cons y ys => simp [ih]
theorem neD_strs {S : Store} {xs ys : List (List Nat)} : neD S (.lst (xs.map .str)) (.lst (ys.map .str)) = some (.bl (!decide (xs = ys))) := by
  rw [neD_pl 1 (by decide) (pl_strs 0 xs) (pl_strs 0 ys)]
  simp only [D.lst.injEq, str_map_inj]
theorem eqD_strs {S : Store} {xs ys : List (List Nat)} : eqD S (.lst (xs.map .str)) (.lst (ys.map .str)) = some (.bl (decide (xs = ys))) := by
  rw [eqD_pl 1 (by decide) (pl_strs 0 xs) (pl_strs 0 ys)]
  simp only [D.lst.injEq, str_map_inj]
theorem neD_ints {S : Store} {xs ys : List Int} : neD S (.lst (xs.map .int)) (.lst (ys.map .int)) = some (.bl (!decide (xs = ys))) := by
  rw [neD_pl 1 (by decide) (pl_ints 0 xs) (pl_ints 0 ys)]
  simp only [D.lst.injEq, int_map_inj]
theorem eqD_ints {S : Store} {xs ys : List Int} : eqD S (.lst (xs.map .int)) (.lst (ys.map .int)) = some (.bl (decide (xs = ys))) := by
  rw [eqD_pl 1 (by decide) (pl_ints 0 xs) (pl_ints 0 ys)]
  simp only [D.lst.injEq, int_map_inj]
theorem neD_nil {S : Store} {xs : List (List Nat)} : neD S (.lst (xs.map .str)) (.lst []) = some (.bl (!decide (xs = []))) := neD_strs (ys := [])
theorem eqD_nil {S : Store} {xs : List (List Nat)} : eqD S (.lst (xs.map .str)) (.lst []) = some (.bl (decide (xs = []))) := eqD_strs (ys := [])
theorem neD_loc {S : Store} {i : Nat} {xs ys : List (List Nat)} (h : S[i]? = some (.lst (xs.map .str))) : neD S (.loc i) (.lst (ys.map .str)) = some (.bl (!decide (xs = ys))) := by
  have e : unloc S (.loc i) = .lst (xs.map .str) := by simp only [unloc, h]
  have q := neD_u (n := 1) (S := S) (x := .loc i) (y := .lst (ys.map .str)) (by decide) (by rw [e]; exact pl_strs 0 xs) (pl_strs 0 ys)
  rw [q, e]
  show some (D.bl (!decide (D.lst _ = D.lst _))) = _
  simp only [D.lst.injEq, str_map_inj]
/-! order of int rows -/
theorem ltvs_ints : ∀ xs ys : List Int, LtD.ltvs (D.pys (xs.map .int)) (D.pys (ys.map .int)) = some (decide (xs < ys))
  | [], [] => by simp [D.pys, LtD.ltvs]
  | [], _ :: _ => by simp [D.pys, LtD.ltvs]
  | _ :: _, [] => by simp [D.pys, LtD.ltvs]
  | x :: xs, y :: ys => by
    rw [List.map_cons, List.map_cons, D.pys, D.pys, LtD.ltvs, ltvs_ints xs ys]
    have q : PyData.eqv (D.py (.int x)) (D.py (.int y)) = true ↔ x = y := by simp [D.py, PyData.eqv]
    show (if PyData.eqv (D.py (.int x)) (D.py (.int y)) = true then some (decide (xs < ys)) else some (decide (x < y))) = some (decide (x :: xs < y :: ys))
    by_cases h : x = y
    · rw [if_pos (q.mpr h)]
      simp [List.cons_lt_cons_iff, h]
    · rw [if_neg (fun z => h (q.mp z))]
      simp [List.cons_lt_cons_iff, h]
theorem ltDD_tup {S : Store} {xs ys : List Int} : ltDD S (.tup (xs.map .int)) (.tup (ys.map .int)) = some (.bl (decide (xs < ys))) := by
  show (if eqPre (.tup (xs.map .int)) (.tup (ys.map .int)) = true then (LtD.ltvs (D.pys (xs.map .int)) (D.pys (ys.map .int))).map fun k => D.bl k else none) = _
  have p : ∀ zs : List Int, D.pl 1 (.tup (zs.map .int)) = true := fun zs => pl_ints 0 zs
  rw [if_pos (pl_pre (n := 1) (by decide) (p xs) (p ys)), ltvs_ints]
  rfl
theorem ltDD_lst {S : Store} {xs ys : List Int} : ltDD S (.lst (xs.map .int)) (.lst (ys.map .int)) = some (.bl (decide (xs < ys))) := by
  show (if eqPre (.lst (xs.map .int)) (.lst (ys.map .int)) = true then (LtD.ltvs (D.pys (xs.map .int)) (D.pys (ys.map .int))).map fun k => D.bl k else none) = _
  rw [if_pos (pl_pre (n := 1) (by decide) (pl_ints 0 xs) (pl_ints 0 ys)), ltvs_ints]
  rfl
theorem ltDD_ii {S : Store} {i j : Int} : ltDD S (.int i) (.int j) = some (.bl (decide (i < j))) := rfl
theorem pl_tupI (n : Nat) (xs : List Int) : D.pl (n + 1) (.tup (xs.map .int)) = true := pl_ints n xs
theorem eqD_tupI {S : Store} {xs ys : List Int} : eqD S (.tup (xs.map .int)) (.tup (ys.map .int)) = some (.bl (decide (xs = ys))) := by
  rw [eqD_pl 1 (by decide) (pl_tupI 0 xs) (pl_tupI 0 ys)]
  simp only [D.tup.injEq, int_map_inj]
/-! membership -/
theorem flt_pl {d : D} (h : D.pl 0 d = true) : d.flt = true := by
  cases d <;> first | rfl | cases h
theorem inB_dec {x : D} {ds : List D} (hx : D.pl 0 x = true) (hd : ds.all (D.pl 0) = true) : inB x ds = decide (x ∈ ds) := by
  rw [Bool.eq_iff_iff, decide_eq_true_eq]
  unfold inB
  rw [List.any_eq_true]
  rw [List.all_eq_true] at hd
  constructor
  · rintro ⟨z, hz, e⟩
    rw [pl_eqv 0 z x (hd z hz) hx] at e
    rw [← e]; exact hz
  · intro h
    exact ⟨x, h, (pl_eqv 0 x x hx hx).mpr rfl⟩
theorem inD2_tup {S : Store} {x : D} {ds : List D} (hx : D.pl 0 x = true) (hd : ds.all (D.pl 0) = true) : inD2 S x (.tup ds) = some (.bl (decide (x ∈ ds))) := by
  have e : (x.flt && ds.all D.flt) = true := by
    rw [flt_pl hx, Bool.true_and, List.all_eq_true]
    rw [List.all_eq_true] at hd
    exact fun z hz => flt_pl (hd z hz)
  show (if (x.flt && ds.all D.flt) = true then some (inB x ds) else none).map (fun b => D.bl b) = _
  rw [if_pos e, inB_dec hx hd]
  rfl
theorem ninD2_tup {S : Store} {x : D} {ds : List D} (hx : D.pl 0 x = true) (hd : ds.all (D.pl 0) = true) : ninD2 S x (.tup ds) = some (.bl (!decide (x ∈ ds))) := by
  have e : (x.flt && ds.all D.flt) = true := by
    rw [flt_pl hx, Bool.true_and, List.all_eq_true]
    rw [List.all_eq_true] at hd
    exact fun z hz => flt_pl (hd z hz)
  show (if (x.flt && ds.all D.flt) = true then some (inB x ds) else none).map (fun b => D.bl (!b)) = _
  rw [if_pos e, inB_dec hx hd]
  rfl
theorem inD2_str {S : Store} {c : Nat} {s : List Nat} : inD2 S (.str [c]) (.str s) = some (.bl (decide (c ∈ s))) := by
  show some (D.bl _) = _
  congr 3
theorem add_ss {S : Store} {s t : List Nat} (h : s.length + t.length ≤ 100000) : addD S (.str s) (.str t) = some (.str (s ++ t)) := if_pos h
theorem add_ii {S : Store} {i j : Int} : addD S (.int i) (.int j) = some (.int (i + j)) := rfl
theorem add_tt {S : Store} {s t : List D} (h : s.length + t.length ≤ 100000) : addD S (.tup s) (.tup t) = some (.tup (s ++ t)) := if_pos h
theorem add_ll {S : Store} {s t : List D} (h : s.length + t.length ≤ 100000) : addD S (.lst s) (.lst t) = some (.lst (s ++ t)) := if_pos h
theorem mod_ii {S : Store} {i j : Int} (h : 0 < j) : modD S (.int i) (.int j) = some (.int (i % j)) := if_pos h
theorem fdiv_ii {S : Store} {i j : Int} (h : 0 < j ∧ j < 1073741824) : fdivD S (.int i) (.int j) = some (.int (i / j)) := if_pos h
theorem mul_ii {S : Store} {i j : Int} (h : i.natAbs < 2 ^ 64 ∨ j.natAbs < 2 ^ 64) : mulD S (.int i) (.int j) = some (.int (i * j)) := if_pos h
theorem pow_ii {S : Store} {i j : Int} (h : 0 ≤ j ∧ j ≤ 1000 ∧ i.natAbs < 2 ^ 64) : powD S (.int i) (.int j) = some (.int (i ^ j.toNat)) := if_pos h
theorem len_s {S : Store} {s : List Nat} (h : s.length ≤ 100000) : lenD S [.str s] = some (.int s.length) := if_pos h
theorem len_l {S : Store} {s : List D} : lenD S [.lst s] = some (.int s.length) := rfl
theorem len_t {S : Store} {s : List D} : lenD S [.tup s] = some (.int s.length) := rfl
theorem len_loc {S : Store} {i : Nat} {s : List D} (h : S[i]? = some (.lst s)) : lenD S [.loc i] = some (.int s.length) := by
  show ((seqD S (.loc i)).bind fun ds => some (D.int ds.length)) = _
  simp only [seqD, h]; rfl
theorem ix_t {S : Store} {ds : List D} {i : Int} : ixD S (.tup ds) (.int i) = atI ds i := rfl
theorem ix_l {S : Store} {ds : List D} {i : Int} : ixD S (.lst ds) (.int i) = atI ds i := rfl
theorem ix_s {S : Store} {s : List Nat} {i : Int} (h : s.length ≤ 100000) : ixD S (.str s) (.int i) = (atI s i).map fun c => .str [c] := if_pos h
theorem ix_loc {S : Store} {ds : List D} {j : Nat} {i : Int} (h : S[j]? = some (.lst ds)) : ixD S (.loc j) (.int i) = atI ds i := by
  show (seqD S (.loc j)).bind _ = _
  simp only [seqD, h]; rfl
theorem lower_s {S : Store} {s : List Nat} (h : asc s = true ∧ s.length ≤ 100000) : lowerD S (.str s) [] = some (.str (s.map loA), S) := if_pos h
theorem upper_s {S : Store} {s : List Nat} (h : asc s = true ∧ s.length ≤ 100000) : upperD S (.str s) [] = some (.str (s.map upA), S) := if_pos h
theorem isdigit_s {S : Store} {s : List Nat} (h : asc s = true) : isdigitD S (.str s) [] = some (.bl (!s.isEmpty && s.all isDig), S) := if_pos h
theorem isupper_s {S : Store} {s : List Nat} (h : asc s = true) : isupperD S (.str s) [] = some (.bl (s.any isUp && !s.any isLo), S) := if_pos h
theorem int_s {S : Store} {s : List Nat} (h : figs s = true ∧ s.length ≤ 640) : intD S [.str s] = some (.int (digV s)) := if_pos h
theorem bls_map {α : Type} (f : α → Bool) (xs : List α) : blsOf (xs.map fun x => .bl (f x)) = some (xs.map f) := by
  induction xs with
  | nil => rfl
  | cons x xs ih => simp [blsOf, ih]
theorem strs_map (xs : List (List Nat)) : strsOf (xs.map .str) = some xs := by
  induction xs with
  | nil => rfl
  | cons x xs ih => simp [strsOf, ih]
end
end L3
set_option Elab.async false
set_option linter.all false
set_option maxRecDepth 100000
set_option maxHeartbeats 2000000
/-! comparing: plain mathematics -/
namespace L3
open L2
structure TC {α : Type} (c : α → α → Int) : Prop where
  sw : ∀ a b, c b a = - c a b
  rng : ∀ a b, c a b = -1 ∨ c a b = 0 ∨ c a b = 1
  tr : ∀ a b d, c a b ≤ 0 → c b d ≤ 0 → c a d ≤ 0
namespace TC
variable {α β : Type} {c c' : α → α → Int}
theorem rf (t : TC c) (a : α) : c a a = 0 := by have := t.sw a a; omega
theorem eq (t : TC c) {a b : α} (h : c a b = 0) (d : α) : c a d = c b d := by
  have h' := t.sw a b
  have p1 := t.tr a b d
  have p2 := t.tr b a d
  have p3 := t.tr d a b
  have p4 := t.tr d b a
  have q1 := t.sw a d
  have q2 := t.sw b d
  have r1 := t.rng a d
  have r2 := t.rng b d
  omega
theorem eq2 (t : TC c) {a b : α} (h : c a b = 0) (d : α) : c d a = c d b := by
  have := t.eq h d
  have q1 := t.sw a d
  have q2 := t.sw b d
  omega
theorem lt (t : TC c) {a b d : α} (h : c a b = -1) (h2 : c b d ≤ 0) : c a d = -1 := by
  have p := t.tr a b d (by omega) h2
  have r := t.rng a d
  rcases r with r | r | r
  · exact r
  · have := t.eq r b
    have q := t.sw d b
    omega
  · omega
theorem lt2 (t : TC c) {a b d : α} (h : c a b ≤ 0) (h2 : c b d = -1) : c a d = -1 := by
  have r := t.rng a b
  rcases r with r | r | r
  · exact t.lt r (by omega)
  · rw [t.eq r d]; exact h2
  · omega
theorem map (t : TC c) (f : β → α) : TC fun a b => c (f a) (f b) := ⟨fun a b => t.sw _ _, fun a b => t.rng _ _, fun a b d => t.tr _ _ _⟩
theorem zero : TC fun _ _ : α => 0 := ⟨fun _ _ => rfl, fun _ _ => .inr (.inl rfl), fun _ _ _ _ _ => by omega⟩
theorem sgn (t : TC c) {s : Int} (h : s = 1 ∨ s = -1) : TC fun a b => s * c a b := by
  rcases h with rfl | rfl
  · simpa using t
  · refine ⟨fun a b => ?_, fun a b => ?_, fun a b d h1 h2 => ?_⟩
    · have := t.sw a b; show -1 * c b a = -(-1 * c a b); omega
    · have := t.rng a b; show -1 * c a b = -1 ∨ -1 * c a b = 0 ∨ -1 * c a b = 1; omega
    · have := t.tr d b a
      have q1 := t.sw a b
      have q2 := t.sw b d
      have q3 := t.sw a d
      change -1 * c a b ≤ 0 at h1
      change -1 * c b d ≤ 0 at h2
      show -1 * c a d ≤ 0
      omega
end TC
def thenC {α : Type} (c c' : α → α → Int) : α → α → Int := fun a b => if c a b = 0 then c' a b else c a b
theorem TC.then {α : Type} {c c' : α → α → Int} (t : TC c) (t' : TC c') : TC (thenC c c') := by
  refine ⟨fun a b => ?_, fun a b => ?_, fun a b d h1 h2 => ?_⟩
  · have h := t.sw a b
    have h' := t'.sw a b
    unfold thenC
    split <;> split <;> omega
  · have h := t.rng a b
    have h' := t'.rng a b
    unfold thenC
    split <;> omega
  · unfold thenC at *
    have r1 := t.rng a b
    have r2 := t.rng b d
    have r3 := t.rng a d
    by_cases e1 : c a b = 0
    · rw [if_pos e1] at h1
      have q := t.eq e1 d
      by_cases e2 : c b d = 0
      · rw [if_pos e2] at h2
        rw [if_pos (by omega)]
        exact t'.tr a b d h1 h2
      · rw [if_neg e2] at h2
        rw [if_neg (by omega)]
        omega
    · rw [if_neg e1] at h1
      have q : c a d = -1 := by
        have l : c a b = -1 := by omega
        by_cases e2 : c b d = 0
        · exact t.lt l (by omega)
        · rw [if_neg e2] at h2
          exact t.lt l h2
      rw [if_neg (by omega)]
      omega
def cmpI (a b : Int) : Int := if a = b then 0 else if a < b then -1 else 1
theorem TC.int : TC cmpI := ⟨fun a b => by unfold cmpI; split <;> split <;> (try split) <;> (try split) <;> omega, fun a b => by unfold cmpI; split <;> (try split) <;> omega, fun a b d h1 h2 => by unfold cmpI at *; split at h1 <;> split at h2 <;> split <;> (try split) <;> (try split at h1) <;> (try split at h2) <;> omega⟩
def lexM {α : Type} (c : α → α → Int) (e : Int) : List α → List α → Int
  | [], [] => 0
  | [], _ :: _ => e
  | _ :: _, [] => -e
  | x :: xs, y :: ys => if c x y = 0 then lexM c e xs ys else c x y
theorem TC.lex {α : Type} {c : α → α → Int} (t : TC c) {e : Int} (he : e = 1 ∨ e = -1) : TC (lexM c e) := by
  refine ⟨fun a => ?_, fun a => ?_, fun a => ?_⟩
  · induction a with
    | nil => intro b; cases b <;> simp [lexM]
    | cons x xs ih =>
      intro b
      cases b with
      | nil => simp [lexM]
      | cons y ys =>
        have h := t.sw x y
        have := ih ys
        simp only [lexM]
        split <;> split <;> omega
  · induction a with
    | nil => intro b; cases b <;> simp [lexM]; omega
    | cons x xs ih =>
      intro b
      cases b with
      | nil => simp only [lexM]; omega
      | cons y ys =>
        have h := t.rng x y
        have := ih ys
        simp only [lexM]
        split <;> omega
  · induction a with
    | nil =>
      intro b d h1 h2
      cases b <;> cases d <;> simp only [lexM] at * <;> omega
    | cons x xs ih =>
      intro b d h1 h2
      cases b with
      | nil => cases d <;> simp only [lexM] at * <;> omega
      | cons y ys =>
        cases d with
        | nil => simp only [lexM] at *; omega
        | cons z zs =>
          simp only [lexM] at *
          by_cases e1 : c x y = 0
          · rw [if_pos e1] at h1
            have q := t.eq e1 z
            by_cases e2 : c y z = 0
            · rw [if_pos e2] at h2
              rw [if_pos (by omega)]
              exact ih ys zs h1 h2
            · rw [if_neg e2] at h2
              rw [if_neg (by omega)]
              omega
          · rw [if_neg e1] at h1
            have r1 := t.rng x y
            have r2 := t.rng y z
            have q : c x z = -1 := by
              have l : c x y = -1 := by omega
              by_cases e2 : c y z = 0
              · exact t.lt l (by omega)
              · rw [if_neg e2] at h2
                exact t.lt l h2
            rw [if_neg (by omega)]
            omega
/-- the first parting of two rows, item by item -/
def zipM {α : Type} (c : α → α → Int) : List α → List α → Int
  | x :: xs, y :: ys => if c x y = 0 then zipM c xs ys else c x y
  | _, _ => 0
theorem lex_zip {α : Type} (c : α → α → Int) (e : Int) : ∀ xs ys : List α, lexM c e xs ys = if zipM c xs ys = 0 then (if xs.length = ys.length then 0 else if xs.length < ys.length then e else -e) else zipM c xs ys
  | [], [] => by simp [lexM, zipM]
  | [], _ :: _ => by simp [lexM, zipM]
  | _ :: _, [] => by simp [lexM, zipM]
  | x :: xs, y :: ys => by
    simp only [lexM, zipM, List.length_cons]
    have ih := lex_zip c e xs ys
    by_cases h : c x y = 0
    · rw [if_pos h, if_pos h, ih]
      simp
    · rw [if_neg h, if_neg h, if_neg h]
theorem lex_map {α β : Type} (c : β → β → Int) (e : Int) (f : α → β) : ∀ xs ys : List α, lexM c e (xs.map f) (ys.map f) = lexM (fun a b => c (f a) (f b)) e xs ys
  | [], [] => rfl
  | [], _ :: _ => rfl
  | _ :: _, [] => rfl
  | x :: xs, y :: ys => by simp only [List.map_cons, lexM, lex_map c e f xs ys]
theorem lex_congr {α : Type} {c c' : α → α → Int} {e : Int} : ∀ {xs ys : List α}, (∀ x ∈ xs, ∀ y ∈ ys, c x y = c' x y) → lexM c e xs ys = lexM c' e xs ys
  | [], [], _ => rfl
  | [], _ :: _, _ => rfl
  | _ :: _, [], _ => rfl
  | x :: xs, y :: ys, h => by
    simp only [lexM]
    rw [h x (by simp) y (by simp), lex_congr (xs := xs) (ys := ys) fun a ha b hb => h a (by simp [ha]) b (by simp [hb])]
/-- rows of ints in their order -/
def cmpL : List Int → List Int → Int := lexM cmpI (-1)
theorem TC.ints : TC cmpL := TC.int.lex (.inr rfl)
theorem cmpL_lt : ∀ a b : List Int, cmpL a b = if a = b then 0 else if a < b then -1 else 1
  | [], [] => rfl
  | [], _ :: _ => by simp [cmpL, lexM]
  | _ :: _, [] => by simp [cmpL, lexM]
  | x :: xs, y :: ys => by
    have ih := cmpL_lt xs ys
    show (if cmpI x y = 0 then cmpL xs ys else cmpI x y) = _
    rw [ih]
    unfold cmpI
    by_cases h : x = y
    · subst h
      simp [List.cons_lt_cons_iff]
    · by_cases h2 : x < y
      · simp [List.cons_lt_cons_iff, h, h2]
      · simp [List.cons_lt_cons_iff, h, h2]
theorem cmpL_cons (a b : Int) (as bs : List Int) : cmpL (a :: as) (b :: bs) = if a = b then cmpL as bs else if a < b then -1 else 1 := by
  show (if cmpI a b = 0 then cmpL as bs else cmpI a b) = _
  unfold cmpI
  by_cases h : a = b
  · simp [h]
  · by_cases h2 : a < b <;> simp [h, h2]
/-! stores -/
theorem st_get {S : Store} {a : Cell} : (S ++ [a])[S.length]? = some a := by simp
theorem st_set {S : Store} {a b : Cell} : (S ++ [a]).set S.length b = S ++ [b] := by simp
theorem st_get2 {S : Store} {a : Cell} {i : Nat} (h : i < S.length) : (S ++ [a])[i]? = S[i]? := List.getElem?_append_left h
theorem fz_new {S : Store} {ds : List D} : fzD (.loc S.length) (S ++ [.lst ds]) = some (.lst ds, S ++ [.dead]) := by
  simp only [fzD, st_get, st_set]
theorem fz_str {S : Store} {s : List Nat} : fzD (.str s) S = some (.str s, S) := rfl
theorem app_new {S : Store} {ds : List D} {d : D} (h : ds.length < 100000) : appendD (S ++ [.lst ds]) (.loc S.length) [d] = some (.non, S ++ [.lst (ds ++ [d])]) := by
  simp only [appendD, st_get, st_set, if_pos h]
theorem atI_nat {α : Type} (xs : List α) (i : Nat) : atI xs (i : Int) = xs[i]? := by
  unfold atI ixN
  rw [if_pos (by omega)]
  by_cases h : (i : Int) < (xs.length : Int)
  · rw [if_pos h]; simp
  · rw [if_neg h]
    simp
    omega
theorem ixN_last {α : Type} (xs : List α) (x : α) : L2.ixN (xs ++ [x]).length (-1) = some xs.length := by
  unfold L2.ixN
  rw [if_neg (by decide), if_pos (by simp; omega), List.length_append]
  show some ((-1 + ((xs.length + 1 : Nat) : Int)).toNat) = _
  congr 1
  omega
theorem atI_last {α : Type} (xs : List α) (x : α) : atI (xs ++ [x]) (-1) = some x := by
  unfold atI
  rw [ixN_last]
  simp
theorem set_last {α : Type} (xs : List α) (x y : α) : (xs ++ [x]).set xs.length y = xs ++ [y] := by simp
theorem lc_map {ι : Type} {t : Tg} {rt : Ev → Store → Res Bool} {re : Ev → Store → Res D} {env : Ev} {S : Store} {A : List D → Store → Prop} {X : Nat → Store → Prop} (g f : ι → D) (l : List ι)
    (hs : ∀ i ∈ l, ∃ e1, t.set env (g i) = some e1 ∧ rt e1 S = .ok true S ∧ re e1 S = .ok (f i) S) (h : A (l.map f) S) : wp (lcGo t rt re env (l.map g) S) A X := by
  induction l generalizing A with
  | nil => exact lc_nil h
  | cons d ds ih =>
    obtain ⟨e1, q1, q2, q3⟩ := hs d List.mem_cons_self
    refine lc_cons ⟨e1, q1, ?_⟩
    rw [q2]
    refine wp_ok ⟨fun _ => ?_, fun h => nomatch h⟩
    rw [q3]
    exact wp_ok (ih (A := fun l S3 => A (f d :: l) S3) (fun d' hd => hs d' (List.mem_cons_of_mem _ hd)) h)
end L3
namespace L3
theorem tyL_new {S : Store} {ds : List D} : tyList (S ++ [.lst ds]) (.loc S.length) = true := by simp only [tyList, seqD, st_get]; rfl
theorem len_lt {ds : List D} {n : Nat} (h : Nat.ble (ds.length + 1) n = true) : ds.length < n := Nat.le_of_ble_eq_true h
end L3
namespace L3
section
variable {R : D → Store → Prop} {X : Nat → Store → Prop} {Z : Flow → Store → Prop} {S : Store}
theorem seqZ_nxs {k : Ev → Store → Prop} {env e : Ev} {i : Nat} {v : Option D} (he : env.set i v = e) (h : k e S) : seqZ Z k (.nx (env.set i v)) S := by subst he; exact h
theorem stepZ_nxs {k : Ev → Store → Prop} {env e : Ev} {i : Nat} {v : Option D} (he : env.set i v = e) (h : k e S) : stepZ Z k (.nx (env.set i v)) S := by subst he; exact h
theorem w_fn2 {n p : Nat} {body : SM} {ds : List D} {e : Ev} (he : ds.map some ++ List.replicate (n - p) none = e) (h : ws (body e S) (fnZ R X)) : wp (fnSem n p body S ds) R X := by
  subst he; exact w_fn h
end
end L3
namespace L3
theorem atI_zero {α : Type} (x : α) (xs : List α) : L2.atI (x :: xs) 0 = some x := by
  have h := atI_nat (x :: xs) 0
  simpa using h
end L3
namespace L3
open L2
theorem ixD_last {S : Store} {xs : List D} {x : D} : ixD (S ++ [.lst (xs ++ [x])]) (.loc S.length) (.int (-1)) = some x := by
  rw [ix_loc st_get, atI_last]
theorem getL_last {S : Store} {xs : List D} {x : D} : getLD (S ++ [.lst (xs ++ [x])]) (.loc S.length) (.int (-1)) = some x := by
  simp only [getLD, seqD, st_get]
  exact atI_last xs x
theorem set_new {S : Store} {xs : List D} {x v : D} : setD (S ++ [.lst (xs ++ [x])]) (.loc S.length) (.int (-1)) v = some (S ++ [.lst (xs ++ [v])]) := by
  show (match (S ++ [Cell.lst (xs ++ [x])])[S.length]? with
    | some (.lst ds) => (ixN ds.length (-1)).map fun m => (S ++ [Cell.lst (xs ++ [x])]).set S.length (.lst (ds.set m v))
    | _ => none) = _
  rw [st_get]
  show (ixN (xs ++ [x]).length (-1)).map _ = _
  rw [ixN_last]
  show some ((S ++ [Cell.lst (xs ++ [x])]).set S.length (.lst ((xs ++ [x]).set xs.length v))) = _
  rw [st_set]
  have e := set_last xs x v
  rw [e]
end L3
namespace L3
theorem ws_env {m : SM} {e e' : Ev} {S : Store} {Z : Flow → Store → Prop} (he : e = e') (h : ws (m e' S) Z) : ws (m e S) Z := by subst he; exact h
end L3
namespace L3
/-- a comprehension with a test, whose parts may leave things behind -/
theorem lc_test {ι : Type} {t : Tg} {rt : Ev → Store → Res Bool} {re : Ev → Store → Res D} {env : Ev} {S : Store} {A : List D → Store → Prop} {X : Nat → Store → Prop} (g f : ι → D) (p : ι → Bool) (l : List ι)
    (hs : ∀ i ∈ l, ∃ e1, t.set env (g i) = some e1 ∧ ∀ T, wp (rt e1 (S ++ T)) (fun b S1 => b = p i ∧ (∃ T', S1 = S ++ T') ∧ (b = true → wp (re e1 S1) (fun d S2 => d = f i ∧ ∃ T', S2 = S ++ T') fun _ _ => False)) fun _ _ => False)
    (h : ∀ T, A ((l.filter p).map f) (S ++ T)) : ∀ T, wp (lcGo t rt re env (l.map g) (S ++ T)) A X := by
  induction l generalizing A with
  | nil => exact fun T => lc_nil (h T)
  | cons d ds ih =>
    intro T
    obtain ⟨e1, q1, q2⟩ := hs d List.mem_cons_self
    refine lc_cons ⟨e1, q1, wp_mono (q2 T) (fun b S1 hb => ?_) fun _ _ z => z⟩
    obtain ⟨hb1, ⟨T', rfl⟩, hb2⟩ := hb
    refine ⟨fun e => ?_, fun e => ?_⟩
    · refine wp_mono (hb2 e) (fun v S2 hv => ?_) fun _ _ z => z
      obtain ⟨rfl, T2, rfl⟩ := hv
      refine ih (A := fun l S3 => A (f d :: l) S3) (fun d' hd => hs d' (List.mem_cons_of_mem _ hd)) (fun T3 => ?_) T2
      have q := h T3
      rw [List.filter_cons, if_pos (by rw [← hb1]; exact e)] at q
      exact q
    · refine ih (fun d' hd => hs d' (List.mem_cons_of_mem _ hd)) (fun T3 => ?_) T'
      have q := h T3
      rw [List.filter_cons, if_neg (by rw [← hb1, e]; decide)] at q
      exact q
/-- a comprehension whose element may leave things behind -/
theorem lc_each {ι : Type} {t : Tg} {re : Ev → Store → Res D} {env : Ev} {S : Store} {A : List D → Store → Prop} {X : Nat → Store → Prop} (g f : ι → D) (l : List ι)
    (hs : ∀ i ∈ l, ∃ e1, t.set env (g i) = some e1 ∧ ∀ T, wp (re e1 (S ++ T)) (fun d S2 => d = f i ∧ ∃ T', S2 = S ++ T') fun _ _ => False)
    (h : ∀ T, A (l.map f) (S ++ T)) : ∀ T, wp (lcGo t tYesR re env (l.map g) (S ++ T)) A X := by
  refine lc_test g f (fun _ => true) l (fun i hi => ?_) (fun T => ?_)
  · obtain ⟨e1, q1, q2⟩ := hs i hi
    exact ⟨e1, q1, fun T => w_tYes ⟨rfl, ⟨T, rfl⟩, fun _ => q2 T⟩⟩
  · rw [List.filter_eq_self.mpr fun _ _ => rfl]
    exact h T
end L3
namespace L3
theorem wp_env {α : Type} {m : Ev → Store → Res α} {e e' : Ev} {S : Store} {Q : α → Store → Prop} {X : Nat → Store → Prop} (he : e = e') (h : wp (m e' S) Q X) : wp (m e S) Q X := by subst he; exact h
end L3
namespace L3
def fzZ (i : Nat) (Z : Flow → Store → Prop) : Flow → Store → Prop := fun fl S1 => match fl with
  | .nx e => ∃ d d' S2, e[i]? = some (some d) ∧ fzD d S1 = some (d', S2) ∧ Z (.nx (e.set i (some d'))) S2
  | fl => Z fl S1
theorem s_sfz {i : Nat} {m : SM} {env : Ev} {S : Store} {Z : Flow → Store → Prop} (h : ws (m env S) (fzZ i Z)) : ws (sFz i m env S) Z := by
  rw [ws_e] at *
  unfold sFz
  cases e : m env S with
  | none => rw [e] at h; exact h.elim
  | some p =>
    rw [e] at h
    obtain ⟨fl, S1⟩ := p
    cases fl with
    | nx e1 =>
      obtain ⟨d, d', S2, h1, h2, h3⟩ := h
      dsimp only
      rw [h1]
      dsimp only
      rw [h2]
      exact h3
    | _ => exact h
end L3
namespace L3
theorem lc_test0 {ι : Type} {t : Tg} {rt : Ev → Store → Res Bool} {re : Ev → Store → Res D} {env : Ev} {S : Store} {A : List D → Store → Prop} {X : Nat → Store → Prop} (g f : ι → D) (p : ι → Bool) (l : List ι)
    (hs : ∀ i ∈ l, ∃ e1, t.set env (g i) = some e1 ∧ ∀ T, wp (rt e1 (S ++ T)) (fun b S1 => b = p i ∧ (∃ T', S1 = S ++ T') ∧ (b = true → wp (re e1 S1) (fun d S2 => d = f i ∧ ∃ T', S2 = S ++ T') fun _ _ => False)) fun _ _ => False)
    (h : ∀ T, A ((l.filter p).map f) (S ++ T)) : wp (lcGo t rt re env (l.map g) S) A X := by
  have q := lc_test (A := A) (X := X) g f p l hs h []
  rwa [List.append_nil] at q
theorem lc_each0 {ι : Type} {t : Tg} {re : Ev → Store → Res D} {env : Ev} {S : Store} {A : List D → Store → Prop} {X : Nat → Store → Prop} (g f : ι → D) (l : List ι)
    (hs : ∀ i ∈ l, ∃ e1, t.set env (g i) = some e1 ∧ ∀ T, wp (re e1 (S ++ T)) (fun d S2 => d = f i ∧ ∃ T', S2 = S ++ T') fun _ _ => False)
    (h : ∀ T, A (l.map f) (S ++ T)) : wp (lcGo t tYesR re env (l.map g) S) A X := by
  have q := lc_each (A := A) (X := X) g f l hs h []
  rwa [List.append_nil] at q
end L3
namespace L3
/-- a comprehension with an invariant on what is made and on the store -/
theorem lc_inv {t : Tg} {re : Ev → Store → Res D} {env : Ev} {A : List D → Store → Prop} {X : Nat → Store → Prop} (I : List D → Store → Prop) :
    ∀ (items : List D) (S : Store) (acc : List D), I acc S → (∀ d ∈ items, ∀ acc S, I acc S → ∃ e1, t.set env d = some e1 ∧ wp (re e1 S) (fun v S' => I (acc ++ [v]) S') fun _ _ => False) →
      (∀ l S', l.length = items.length → I (acc ++ l) S' → A l S') → wp (lcGo t tYesR re env items S) A X
  | [], S, acc, h0, _, h => lc_nil (h [] S rfl (by simpa using h0))
  | d :: ds, S, acc, h0, hs, h => by
    obtain ⟨e1, q1, q2⟩ := hs d List.mem_cons_self acc S h0
    refine lc_cons ⟨e1, q1, w_tYes ⟨fun _ => ?_, fun e => nomatch e⟩⟩
    refine wp_mono q2 (fun v S2 hv => ?_) fun _ _ z => z
    exact lc_inv (A := fun l S3 => A (v :: l) S3) I ds S2 (acc ++ [v]) hv (fun d' hd => hs d' (List.mem_cons_of_mem _ hd)) fun l S' hl hi => h (v :: l) S' (by simp [hl]) (by simpa using hi)
end L3
set_option Elab.async false
set_option linter.all false
set_option maxRecDepth 100000
set_option maxHeartbeats 2000000
/-! try, += of a list, dict displays: what they answer -/
namespace L3
open PySem PySem.Spec L2
def tryZ (n i j : Nat) (Z : Flow → Store → Prop) : Flow → Store → Prop := fun fl S => match fl with
  | .ex c env => c < n ∧ Z (.nx ((env.set j (some (.loc S.length))).set i none)) (S ++ [.exn c])
  | fl => Z fl S
section
variable {n i j : Nat} {Z : Flow → Store → Prop} {env e' : Ev} {S : Store} {m : SM}
theorem s_try (h : ws (m env S) (tryZ n i j Z)) : ws (sTry n i j m env S) Z := by
  rw [ws_e] at *
  unfold sTry
  cases e : m env S with
  | none => rw [e] at h; exact h.elim
  | some p =>
    rw [e] at h
    obtain ⟨fl, S1⟩ := p
    cases fl with
    | ex c e1 =>
      obtain ⟨h1, h2⟩ := h
      dsimp only
      rw [if_pos h1]
      exact h2
    | _ => exact h
theorem tryZ_nx (h : Z (.nx env) S) : tryZ n i j Z (.nx env) S := h
theorem tryZ_rt {d : D} (h : Z (.rt d) S) : tryZ n i j Z (.rt d) S := h
theorem tryZ_bk (h : Z (.bk env) S) : tryZ n i j Z (.bk env) S := h
theorem tryZ_ct (h : Z (.ct env) S) : tryZ n i j Z (.ct env) S := h
theorem tryZ_ex {c : Nat} (hc : c < n) (h : Z (.nx ((env.set j (some (.loc S.length))).set i none)) (S ++ [.exn c])) : tryZ n i j Z (.ex c env) S := ⟨hc, h⟩
theorem s_augL {k : Nat} {re : Ev → Store → Res D} (he : env[i]? = some (some (.loc k))) (h : wp (re env S) (fun y S1 => ∃ ds es, y = .lst es ∧ S1[k]? = some (.lst ds) ∧ ds.length + es.length ≤ 100000 ∧ Z (.nx (env.set i (some (.loc k)))) (S1.set k (.lst (ds ++ es)))) (fun c S1 => Z (.ex c env) S1)) : ws (sAugL i re env S) Z := by
  rw [ws_e]
  rw [wp_e] at h
  unfold sAugL rVar
  rw [he]
  show W0.ws0 ((re env S).st env _) Z
  cases e : re env S with
  | ok y S1 =>
    rw [e] at h
    obtain ⟨ds, es, rfl, h1, h2, h3⟩ := h
    show W0.ws0 (match (D.loc k), D.lst es with
      | .loc n, .lst es => match S1[n]? with
        | some (.lst ds) => if ds.length + es.length ≤ 100000 then some (Flow.nx (env.set i (some (.loc n))), S1.set n (.lst (ds ++ es))) else none
        | _ => none
      | _, _ => none) Z
    dsimp only
    rw [h1]
    dsimp only
    rw [if_pos h2]
    exact h3
  | exc c S1 => rw [e] at h; exact h
  | stuck => rw [e] at h; exact h.elim
theorem w_dct {ks : List (List Nat)} {rs : Ev → Store → Res (List D)} {Q : D → Store → Prop} {X : Nat → Store → Prop} (h : wp (rs env S) (fun xs S1 => xs.length = ks.length ∧ Q (.dct ks xs) S1) X) : wp (rDct ks rs env S) Q X := by
  simp only [wp_e] at *
  exact W0.wp_bind (W0.wp_mono h (fun xs S1 k => by rw [if_pos k.1]; exact k.2) fun _ _ z => z)
end
end L3
set_option Elab.async false
set_option linter.all false
set_option maxRecDepth 100000
set_option maxHeartbeats 4000000
namespace G
open PySem PySem.Spec L2 L3
def top (i : Nat) : Stmt := PySem.Challenge.pw_orderrules_k12_whole_forms.main.body.getD i (.Pass ⟨0, 0, 0, 0⟩)
structure Gb (K : PySem.W.Frag) (mg : Str → Option Value) (Y : Pc) : Prop where
  b_bool : mg "bool" = none
  b_int : mg "int" = none
  b_isinstance : mg "isinstance" = none
  b_len : mg "len" = none
  b_list : mg "list" = none
  b_range : mg "range" = none
  b_str : mg "str" = none
  b_tuple : mg "tuple" = none
  c_BARS : ∃ a, mg "BARS" = some (.ref a) ∧ ∀ H, SqT K H a ([[97, 104, 101, 97, 100], [98, 101, 104, 105, 110, 100]].map fun l => .str (tx l))
  c_CASES : ∃ a, mg "CASES" = some (.ref a) ∧ ∀ H, SqT K H a ([[97, 112, 97, 114, 116], [109, 105, 120, 101, 100], [116, 111, 103, 101, 116, 104, 101, 114], [108, 97, 115, 116]].map fun l => .str (tx l))
  c_ENDS : ∃ a, mg "ENDS" = some (.ref a) ∧ ∀ H, SqT K H a ([[102, 105, 114, 115, 116], [98, 101, 104, 105, 110, 100]].map fun l => .str (tx l))
  c_NUMBERS : ∃ a, mg "NUMBERS" = some (.ref a) ∧ ∀ H, SqT K H a ([[115, 105, 103, 110, 115], [110, 117, 109, 98, 101, 114, 115], [115, 116, 114, 105, 99, 116]].map fun l => .str (tx l))
  x_BadNumber : ExcD K mg "BadNumber" (Y.xc 3)
  x_BadRule : ExcD K mg "BadRule" (Y.xc 1)
  x_BadText : ExcD K mg "BadText" (Y.xc 2)
  x_NotFound : ExcD K mg "NotFound" (Y.xc 4)
  x_OrderError : ExcD K mg "OrderError" (Y.xc 0)
  t_BadNumber : TyO K mg Y "BadNumber" [false, false, false, true, false]
  t_BadRule : TyO K mg Y "BadRule" [false, true, false, false, false]
  t_BadText : TyO K mg Y "BadText" [false, false, true, false, false]
  t_NotFound : TyO K mg Y "NotFound" [false, false, false, false, true]
  t_OrderError : TyO K mg Y "OrderError" [true, true, true, true, true]
  t_ValueError : TyB K mg Y "ValueError" [true, true, true, true, true]
  m_OrderError : ExmL K mg Y "OrderError" 5
def b_is_int : SM := (sRet (vAnd (r1 (isiD .int) (rVar 0)) (vAnd (vNot (r1 (isiD .bool) (rVar 0))) (rChain leD leD (rVar 1) (rVar 0) (rVar 2)))))
def m_is_int : FSem := fnSem 3 3 b_is_int
def b_is_word : SM := (sRet (vAnd (r1 (isiD .str) (rVar 0)) (r2 inD2 (rVar 0) (rVar 1))))
def m_is_word : FSem := fnSem 2 2 b_is_word
def b_is_rule : SM := (sSeq (sIf (tOrR (tNotR (tOf (r1 (isiD .tuple) (rVar 0)))) (tOf (r2 neD (rCB lenD (rCons (rVar 0) rNil)) (rC (.int 5))))) (sRet (rC (.bl false))) sNext) (sSeq (sIf (tOrR (tNotR (tOf (rCall m_is_word (rCons (r2 ixD (rVar 0) (rC (.int 0))) (rCons (rC (.tup ([[97, 112, 97, 114, 116], [109, 105, 120, 101, 100], [116, 111, 103, 101, 116, 104, 101, 114], [108, 97, 115, 116]].map .str))) rNil))))) (tNotR (tOf (rCall m_is_word (rCons (r2 ixD (rVar 0) (rC (.int 1))) (rCons (rC (.tup ([[115, 105, 103, 110, 115], [110, 117, 109, 98, 101, 114, 115], [115, 116, 114, 105, 99, 116]].map .str))) rNil)))))) (sRet (rC (.bl false))) sNext) (sRet (vAnd (rCall m_is_word (rCons (r2 ixD (rVar 0) (rC (.int 2))) (rCons (rC (.tup ([[97, 104, 101, 97, 100], [98, 101, 104, 105, 110, 100]].map .str))) rNil))) (vAnd (rCall m_is_word (rCons (r2 ixD (rVar 0) (rC (.int 3))) (rCons (rC (.tup ([[102, 105, 114, 115, 116], [98, 101, 104, 105, 110, 100]].map .str))) rNil))) (rCall m_is_int (rCons (r2 ixD (rVar 0) (rC (.int 4))) (rCons (rC (.int 0)) (rCons (rC (.int 1)) rNil)))))))))
def m_is_rule : FSem := fnSem 1 1 b_is_rule
def b_check_rule : SM := (sIf (tNotR (tOf (rCall m_is_rule (rCons (rVar 0) rNil)))) (sRaise 1) sNext)
def m_check_rule : FSem := fnSem 1 1 b_check_rule
def b_all_rules : SM := (sSeq (sSet 0 (rLstM rNil)) (sSeq (sFor (.one 1) (iAny (rC (.tup ([[97, 112, 97, 114, 116], [109, 105, 120, 101, 100], [116, 111, 103, 101, 116, 104, 101, 114], [108, 97, 115, 116]].map .str)))) (sFor (.one 2) (iAny (rC (.tup ([[115, 105, 103, 110, 115], [110, 117, 109, 98, 101, 114, 115], [115, 116, 114, 105, 99, 116]].map .str)))) (sFor (.one 3) (iAny (rC (.tup ([[97, 104, 101, 97, 100], [98, 101, 104, 105, 110, 100]].map .str)))) (sFor (.one 4) (iAny (rC (.tup ([[102, 105, 114, 115, 116], [98, 101, 104, 105, 110, 100]].map .str)))) (sAugL 0 (rLc (.one 5) (iAny (rTup (rCons (rC (.int 0)) (rCons (rC (.int 1)) rNil)))) tYesR (rTup (rCons (rVar 1) (rCons (rVar 2) (rCons (rVar 3) (rCons (rVar 4) (rCons (rVar 5) rNil)))))) [5])))))) (sRet (rFz (rVar 0)))))
def m_all_rules : FSem := fnSem 6 0 b_all_rules
def b_format_rule : SM := (sSeq (sExpr (rCall m_check_rule (rCons (rVar 0) rNil))) (sRet (rMt tyStr joinD (rC (.str [32])) (rCons (rLc (.one 1) (iAny (rVar 0)) tYesR (rCB strD (rCons (rVar 1) rNil)) [1]) rNil))))
def m_format_rule : FSem := fnSem 2 1 b_format_rule
def b_item_in : SM := (sRet (rIf (tOf (r2 inD2 (rVar 0) (rTup (rCons (rC (.str [48])) (rCons (rC (.str [49])) rNil))))) (rCB intD (rCons (rVar 0) rNil)) (rVar 0)))
def m_item_in : FSem := fnSem 1 1 b_item_in
def b_parse_rule : SM := (sSeq (sIf (tNotR (tOf (r1 (isiD .str) (rVar 0)))) (sRaise 2) sNext) (sSeq (sSet 1 (rCB tupleD (rCons (rLc (.one 2) (iAny (rMt tyStr splitD (rVar 0) (rCons (rC (.str [32])) rNil))) tYesR (rCall m_item_in (rCons (rVar 2) rNil)) [2]) rNil))) (sSeq (sIf (tNotR (tOf (rCall m_is_rule (rCons (rVar 1) rNil)))) (sRaise 2) sNext) (sRet (rVar 1)))))
def m_parse_rule : FSem := fnSem 3 1 b_parse_rule
def b__law_start : SM := (sRet (rLstM (rCons (rIf (tOf (r2 neD (rVar 0) (rLst rNil))) (rListM (rVar 0)) (rLstM (rCons (rC (.int 0)) rNil))) (rCons (rC (.int 0)) rNil))))
def m__law_start : FSem := fnSem 1 1 b__law_start
def b__law_draw : SM := (sSeq (sSet 2 (r2 ixD (rVar 0) (rC (.int 0)))) (sSeq (sSetIx setD (r2 addD (r2 ixD (rVar 0) (rC (.int 1))) (rC (.int 1))) (rVar 0) (rC (.int 1))) (sSeq (sSet 3 (r2 modD (r2 ixD (rVar 0) (rC (.int 1))) (rCB lenD (rCons (rVar 2) rNil)))) (sSeq (sSet 4 (r2 ixD (rVar 2) (rVar 3))) (sSeq (sIf (tOf (r2 geD (rVar 4) (rC (.int 1000000000000000000)))) (sSeq (sSetIx setD (r2 fdivD (rVar 4) (rVar 1)) (rVar 2) (rVar 3)) (sRet (r2 modD (rVar 4) (rVar 1)))) sNext) (sSeq (sSet 5 (r2 modD (r2 addD (rVar 4) (r2 mulD (rC (.int 104729)) (r2 ixD (rVar 0) (rC (.int 1))))) (rC (.int 4294967291)))) (sSeq (sSet 5 (r2 modD (r2 powD (rVar 5) (rC (.int 5))) (rC (.int 4294967279)))) (sRet (r2 modD (r2 fdivD (r2 modD (r2 addD (r2 mulD (r2 fdivD (rVar 5) (rC (.int 64))) (rC (.int 69621))) (rVar 5)) (rC (.int 4294967231))) (rC (.int 8))) (rVar 1))))))))))
def m__law_draw : FSem := fnSem 6 2 b__law_draw
def b__law_pick : SM := (sRet (r2 ixD (rVar 1) (rCall m__law_draw (rCons (rVar 0) (rCons (rCB lenD (rCons (rVar 1) rNil)) rNil)))))
def m__law_pick : FSem := fnSem 2 2 b__law_pick
def b__law_error : SM := (sSeq (sSet 1 (rLst (rCons (r1 (isxD [false, true, false, false, false]) (rVar 0)) (rCons (r1 (isxD [false, false, true, false, false]) (rVar 0)) (rCons (r1 (isxD [false, false, false, true, false]) (rVar 0)) (rCons (r1 (isxD [false, false, false, false, true]) (rVar 0)) rNil)))))) (sSeq (sIf (tOrR (tOf (r2 neD (rMt tyList countD (rVar 1) (rCons (rC (.bl true)) rNil)) (rC (.int 1)))) (tOrR (tNotR (tOf (r1 (isxD [true, true, true, true, true]) (rVar 0)))) (tNotR (tOf (r1 (isxD [true, true, true, true, true]) (rVar 0)))))) (sRet (rC (.str [111, 100, 100]))) sNext) (sRet (r2 ixD (rLst (rCons (rC (.str [114, 117, 108, 101])) (rCons (rC (.str [116, 101, 120, 116])) (rCons (rC (.str [110, 117, 109, 98, 101, 114])) (rCons (rC (.str [110, 111, 110, 101])) rNil))))) (rMt tyList indexD (rVar 1) (rCons (rC (.bl true)) rNil))))))
def m__law_error : FSem := fnSem 2 1 b__law_error
def b__law_words : SM := (sRet (rLst (rCons (rLst (rCons (rC (.str [97, 112, 97, 114, 116])) (rCons (rC (.str [109, 105, 120, 101, 100])) (rCons (rC (.str [116, 111, 103, 101, 116, 104, 101, 114])) (rCons (rC (.str [108, 97, 115, 116])) rNil))))) (rCons (rLst (rCons (rC (.str [115, 105, 103, 110, 115])) (rCons (rC (.str [110, 117, 109, 98, 101, 114, 115])) (rCons (rC (.str [115, 116, 114, 105, 99, 116])) rNil)))) (rCons (rLst (rCons (rC (.str [97, 104, 101, 97, 100])) (rCons (rC (.str [98, 101, 104, 105, 110, 100])) rNil))) (rCons (rLst (rCons (rC (.str [102, 105, 114, 115, 116])) (rCons (rC (.str [98, 101, 104, 105, 110, 100])) rNil))) rNil))))))
def m__law_words : FSem := fnSem 0 0 b__law_words
def b__law_rule : SM := (sRet (r2 addD (rCB tupleD (rCons (rLc (.one 1) (iAny (rCall m__law_words rNil)) tYesR (rCall m__law_pick (rCons (rVar 0) (rCons (rVar 1) rNil))) [1]) rNil)) (rTup (rCons (rCall m__law_draw (rCons (rVar 0) (rCons (rC (.int 2)) rNil))) rNil))))
def m__law_rule : FSem := fnSem 2 1 b__law_rule
def b__law_rules : SM := (sSeq (sSet 0 (rLst (rCons (rTup rNil) rNil))) (sSeq (sFor (.one 1) (iAny (r2 addD (rCall m__law_words rNil) (rLst (rCons (rLst (rCons (rC (.int 0)) (rCons (rC (.int 1)) rNil))) rNil)))) (sSeq (sSet 2 (rLst rNil)) (sSeq (sFor (.one 3) (iAny (rVar 0)) (sSet 2 (r2 addD (rVar 2) (rLc (.one 4) (iAny (rVar 1)) tYesR (r2 addD (rVar 3) (rTup (rCons (rVar 4) rNil))) [4])))) (sSet 0 (rVar 2))))) (sRet (rVar 0))))
def m__law_rules : FSem := fnSem 5 0 b__law_rules
def b__law_parsed : SM := (sSeq (sSet 1 (rC .non)) (sSeq (sSet 2 (rC .non)) (sSeq (sTry 5 3 2 (sSet 1 (rCall m_parse_rule (rCons (rVar 0) rNil)))) (sRet (rIf (tOf (r2 isD (rVar 2) (rC .non))) (rVar 1) (rCall m__law_error (rCons (rVar 2) rNil)))))))
def m__law_parsed : FSem := fnSem 4 1 b__law_parsed
def b__law_rejected : SM := (sSeq (sSet 0 (rLst (rCons (rC .non) (rCons (rC (.int 5)) (rCons (rC (.str [])) (rCons (rC (.str [32])) (rCons (rC (.str [97, 112, 97, 114, 116, 32, 115, 105, 103, 110, 115, 32, 97, 104, 101, 97, 100, 32, 102, 105, 114, 115, 116])) (rCons (rC (.str [97, 112, 97, 114, 116, 32, 115, 105, 103, 110, 115, 32, 97, 104, 101, 97, 100, 32, 102, 105, 114, 115, 116, 32, 48, 32])) (rCons (rC (.str [32, 97, 112, 97, 114, 116, 32, 115, 105, 103, 110, 115, 32, 97, 104, 101, 97, 100, 32, 102, 105, 114, 115, 116, 32, 48])) (rCons (rC (.str [97, 112, 97, 114, 116, 32, 32, 115, 105, 103, 110, 115, 32, 97, 104, 101, 97, 100, 32, 102, 105, 114, 115, 116, 32, 48])) rNil)))))))))) (sSeq (sSet 0 (r2 addD (rVar 0) (rLst (rCons (rC (.str [65, 112, 97, 114, 116, 32, 115, 105, 103, 110, 115, 32, 97, 104, 101, 97, 100, 32, 102, 105, 114, 115, 116, 32, 48])) (rCons (rC (.str [97, 112, 97, 114, 116, 32, 115, 105, 103, 110, 115, 32, 97, 104, 101, 97, 100, 32, 102, 105, 114, 115, 116, 32, 50])) (rCons (rC (.str [97, 112, 97, 114, 116, 32, 115, 105, 103, 110, 115, 32, 97, 104, 101, 97, 100, 32, 108, 97, 115, 116, 32, 48])) (rCons (rC (.str [115, 105, 103, 110, 115, 32, 97, 112, 97, 114, 116, 32, 97, 104, 101, 97, 100, 32, 102, 105, 114, 115, 116, 32, 48])) (rCons (rC (.str [97, 112, 97, 114, 116, 32, 115, 105, 103, 110, 115, 32, 102, 105, 114, 115, 116, 32, 97, 104, 101, 97, 100, 32, 48])) rNil)))))))) (sSeq (sSet 0 (r2 addD (rVar 0) (rLst (rCons (rC (.str [97, 112, 97, 114, 116, 44, 115, 105, 103, 110, 115, 44, 97, 104, 101, 97, 100, 44, 102, 105, 114, 115, 116, 44, 48])) (rCons (rC (.str [97, 112, 97, 114, 116, 32, 115, 105, 103, 110, 115, 32, 97, 104, 101, 97, 100, 32, 102, 105, 114, 115, 116, 32, 48, 48])) (rCons (rC (.str [97, 112, 97, 114, 116, 32, 115, 105, 103, 110, 115, 32, 97, 104, 101, 97, 100, 32, 102, 105, 114, 115, 116, 32, 48, 32, 48])) (rCons (rC (.str [97, 112, 97, 114, 116, 32, 115, 105, 103, 110, 115, 32, 97, 104, 101, 97, 100, 32, 102, 105, 114, 115, 116, 32, 48, 10])) (rCons (rLst (rCons (rC (.str [97, 112, 97, 114, 116, 32, 115, 105, 103, 110, 115, 32, 97, 104, 101, 97, 100, 32, 102, 105, 114, 115, 116, 32, 48])) rNil)) rNil)))))))) (sSeq (sSet 0 (r2 addD (rVar 0) (rLst (rCons (rTup (rCons (rC (.str [97, 112, 97, 114, 116])) (rCons (rC (.str [115, 105, 103, 110, 115])) (rCons (rC (.str [97, 104, 101, 97, 100])) (rCons (rC (.str [102, 105, 114, 115, 116])) (rCons (rC (.int 0)) rNil)))))) (rCons (rC (.str [97, 112, 97, 114, 116, 32, 115, 105, 103, 110, 115, 9, 97, 104, 101, 97, 100, 32, 102, 105, 114, 115, 116, 32, 48])) (rCons (rC (.str [97, 112, 97, 114, 116, 32, 115, 105, 103, 110, 115, 32, 97, 104, 101, 97, 100, 32, 102, 105, 114, 115, 116, 32, 45, 49])) (rCons (rC (.str [48, 32, 115, 105, 103, 110, 115, 32, 97, 104, 101, 97, 100, 32, 102, 105, 114, 115, 116, 32, 48])) (rCons (rC (.str [97, 112, 97, 114, 116, 32, 115, 105, 103, 110, 32, 97, 104, 101, 97, 100, 32, 102, 105, 114, 115, 116, 32, 48])) (rCons (r2 mulSD (rC (.str [49])) (rC (.int 4000))) rNil))))))))) (sRet (r2 eqD (rLc (.one 1) (iAny (rVar 0)) tYesR (rCall m__law_parsed (rCons (rVar 1) rNil)) [1]) (r2 mulD (rLst (rCons (rC (.str [116, 101, 120, 116])) rNil)) (rC (.int 24)))))))))
def m__law_rejected : FSem := fnSem 2 0 b__law_rejected
def b_law : SM := (sSeq (sSet 1 (rCall m__law_start (rCons (rVar 0) rNil))) (sSeq (sSet 2 (rCall m__law_rule (rCons (rVar 1) rNil))) (sSeq (sSet 3 (rCall m_format_rule (rCons (rVar 2) rNil))) (sSeq (sIf (tOrR (tOf (r2 neD (rVar 3) (rMt tyStr joinD (rC (.str [32])) (rCons (rLc (.one 4) (iAny (rVar 2)) tYesR (rCB strD (rCons (rVar 4) rNil)) [4]) rNil)))) (tOf (r2 neD (rCall m__law_parsed (rCons (rVar 3) rNil)) (rVar 2)))) (sRet (rC (.bl false))) sNext) (sSeq (sSet 5 (rLst (rCons (rC (.str [48])) (rCons (rC (.str [49])) (rCons (rC (.str [50])) (rCons (rC (.str [32])) (rCons (rC (.str [97, 112, 97, 114, 116])) (rCons (rC (.str [108, 97, 115, 116])) (rCons (rC (.str [102, 105, 114, 115, 116])) (rCons (rC (.str [98, 101, 104, 105, 110, 100])) (rCons (rC (.str [120])) (rCons (rC (.str [])) (rCons (rC (.str [115])) rNil))))))))))))) (sSeq (sFor (.one 6) (iRng1S (rCons (rC (.int 16)) rNil)) (sSeq (sPar 7 8 (rCons (rCall m__law_draw (rCons (rVar 1) (rCons (r2 addD (rCB lenD (rCons (rVar 3) rNil)) (rC (.int 1))) rNil))) (rCons (rCall m__law_pick (rCons (rVar 1) (rCons (rVar 5) rNil))) rNil))) (sSeq (sSet 9 (rCall m__law_pick (rCons (rVar 1) (rCons (rLst (rCons (r2 addD (r2 addD (rSl slD (rVar 3) oNone (oSome (rVar 7))) (rVar 8)) (rSl slD (rVar 3) (oSome (r2 addD (rVar 7) (rC (.int 1)))) oNone)) (rCons (r2 addD (r2 addD (rSl slD (rVar 3) oNone (oSome (rVar 7))) (rVar 8)) (rSl slD (rVar 3) (oSome (rVar 7)) oNone)) (rCons (r2 addD (r2 addD (r2 addD (rSl slD (rVar 3) oNone (oSome (rVar 7))) (rC (.str [32]))) (rVar 8)) (rSl slD (rVar 3) (oSome (rVar 7)) oNone)) rNil)))) rNil)))) (sSeq (sSet 10 (rCall m__law_parsed (rCons (rVar 9) rNil))) (sSeq (sIf (tAndR (tOf (r2 neD (rVar 10) (rC (.str [116, 101, 120, 116])))) (tOf (r2 neD (rMt tyStr joinD (rC (.str [32])) (rCons (rLc (.one 4) (iAny (rVar 10)) tYesR (rCB strD (rCons (rVar 4) rNil)) [4]) rNil)) (rVar 9)))) (sRet (rC (.bl false))) sNext) (sIf (tAndR (tOf (r2 neD (rVar 10) (rC (.str [116, 101, 120, 116])))) (tOf (r2 isnD (rCall m_is_rule (rCons (rVar 10) rNil)) (rC (.bl true))))) (sRet (rC (.bl false))) sNext)))))) (sRet (vAnd (rCall m__law_rejected rNil) (vAnd (r2 eqD (rCall m_all_rules rNil) (rCall m__law_rules rNil)) (vAnd (r2 eqD (rCB lenD (rCons (rCall m_all_rules rNil) rNil)) (rC (.int 96))) (r2 eqD (rCall m__law_parsed (rCons (rC (.str [108, 97, 115, 116, 32, 115, 116, 114, 105, 99, 116, 32, 98, 101, 104, 105, 110, 100, 32, 98, 101, 104, 105, 110, 100, 32, 49])) rNil)) (rTup (rCons (rC (.str [108, 97, 115, 116])) (rCons (rC (.str [115, 116, 114, 105, 99, 116])) (rCons (rC (.str [98, 101, 104, 105, 110, 100])) (rCons (rC (.str [98, 101, 104, 105, 110, 100])) (rCons (rC (.int 1)) rNil)))))))))))))))))
def m_law : FSem := fnSem 11 1 b_law
section
variable {P : Program} {w : World} {K : PySem.W.Frag} {mg : Str → Option Value} {base : Heap} {Y : Pc}
abbrev s_is_int : Stmt := top 6
theorem sc_is_int : FnScope ["value", "low", "high"] ["value", "low", "high"] (defScope s_is_int) := ⟨rfl, rfl, rfl, by decide +kernel, rfl, by decide +kernel, by decide +kernel⟩
theorem ok_is_int {f : Addr} {fd : FuncData} (G : Gb K mg Y)  (Fu : FunD K "is_int" "is_int" (defArgs s_is_int) (defBody s_is_int) (defScope s_is_int) [] [] f fd) (hm : mg "is_int" = some (.ref f)) : DefOk P w K mg base Y "is_int" 3 2 m_is_int := by
  refine defok (N := ["value", "low", "high"]) (ps := ["value", "low", "high"]) (k := 1) 3 3 Fu hm sc_is_int rfl rfl (fun _ _ _ _ _ _ us hl => match us, hl with | [_, _, _], _ => rfl) fun X W cdv A outer s H E hX C po tk => ?_
  subst hX
  exact (ss_one (ss_ret (se_and (se_isi .int (by decide +kernel) rfl G.b_isinstance G.b_int (se_var 0)) (se_and (se_not (se_isi .bool (by decide +kernel) rfl G.b_isinstance G.b_bool (se_var 0))) (se_one (se_chain sop_le sop_le (se_var 1) (se_var 0) (se_var 2)))))))
abbrev s_is_word : Stmt := top 12
theorem sc_is_word : FnScope ["value", "words"] ["value", "words"] (defScope s_is_word) := ⟨rfl, rfl, rfl, by decide +kernel, rfl, by decide +kernel, by decide +kernel⟩
theorem ok_is_word {f : Addr} {fd : FuncData} (G : Gb K mg Y)  (Fu : FunD K "is_word" "is_word" (defArgs s_is_word) (defBody s_is_word) (defScope s_is_word) [] [] f fd) (hm : mg "is_word" = some (.ref f)) : DefOk P w K mg base Y "is_word" 2 2 m_is_word := by
  refine defok (N := ["value", "words"]) (ps := ["value", "words"]) (k := 1) 2 2 Fu hm sc_is_word rfl rfl (fun _ _ _ _ _ _ us hl => match us, hl with | [_, _], _ => rfl) fun X W cdv A outer s H E hX C po tk => ?_
  subst hX
  exact (ss_one (ss_ret (se_and (se_isi .str (by decide +kernel) rfl G.b_isinstance G.b_str (se_var 0)) (se_one (se_cmp (sop_in C) (se_var 0) (se_var 1))))))
abbrev s_is_rule : Stmt := top 13
theorem sc_is_rule : FnScope ["value"] ["value"] (defScope s_is_rule) := ⟨rfl, rfl, rfl, by decide +kernel, rfl, by decide +kernel, by decide +kernel⟩
theorem ok_is_rule {f : Addr} {fd : FuncData} (G : Gb K mg Y) (d_is_word : DefOk P w K mg base Y "is_word" 2 2 m_is_word) (d_is_int : DefOk P w K mg base Y "is_int" 3 2 m_is_int) (Fu : FunD K "is_rule" "is_rule" (defArgs s_is_rule) (defBody s_is_rule) (defScope s_is_rule) [] [] f fd) (hm : mg "is_rule" = some (.ref f)) : DefOk P w K mg base Y "is_rule" 1 3 m_is_rule := by
  refine defok (N := ["value"]) (ps := ["value"]) (k := 2) 1 1 Fu hm sc_is_rule rfl rfl (fun _ _ _ _ _ _ us hl => match us, hl with | [_], _ => rfl) fun X W cdv A outer s H E hX C po tk => ?_
  subst hX
  exact (ss_cons (ss_if ((sw_or (sb_not (sb_val (se_isi .tuple (by decide +kernel) rfl G.b_isinstance G.b_tuple (se_var 0)))) (sw_or1 (sb_cmp (sop_ne C) (se_callB scall_len G.b_len (by decide +kernel) (sa_cons (se_var 0) sa_nil)) se_int)))).sb (ss_one (ss_ret se_bl)) ss_nil) (ss_cons (ss_if ((sw_or (sb_not (sb_val (se_def C d_is_word (by decide) (sa_cons (se_ix six (se_var 0) se_int) (sa_cons (se_gtup (ls := [[97, 112, 97, 114, 116], [109, 105, 120, 101, 100], [116, 111, 103, 101, 116, 104, 101, 114], [108, 97, 115, 116]]) G.c_CASES) sa_nil)) (len_cons (len_cons len_nil))))) (sw_or1 (sb_not (sb_val (se_def C d_is_word (by decide) (sa_cons (se_ix six (se_var 0) se_int) (sa_cons (se_gtup (ls := [[115, 105, 103, 110, 115], [110, 117, 109, 98, 101, 114, 115], [115, 116, 114, 105, 99, 116]]) G.c_NUMBERS) sa_nil)) (len_cons (len_cons len_nil)))))))).sb (ss_one (ss_ret se_bl)) ss_nil) (ss_one (ss_ret (se_and (se_def C d_is_word (by decide) (sa_cons (se_ix six (se_var 0) se_int) (sa_cons (se_gtup (ls := [[97, 104, 101, 97, 100], [98, 101, 104, 105, 110, 100]]) G.c_BARS) sa_nil)) (len_cons (len_cons len_nil))) (se_and (se_def C d_is_word (by decide) (sa_cons (se_ix six (se_var 0) se_int) (sa_cons (se_gtup (ls := [[102, 105, 114, 115, 116], [98, 101, 104, 105, 110, 100]]) G.c_ENDS) sa_nil)) (len_cons (len_cons len_nil))) (se_one (se_def C d_is_int (by decide) (sa_cons (se_ix six (se_var 0) se_int) (sa_cons se_int (sa_cons se_int sa_nil))) (len_cons (len_cons (len_cons len_nil)))))))))))
abbrev s_check_rule : Stmt := top 14
theorem sc_check_rule : FnScope ["value"] ["value"] (defScope s_check_rule) := ⟨rfl, rfl, rfl, by decide +kernel, rfl, by decide +kernel, by decide +kernel⟩
theorem ok_check_rule {f : Addr} {fd : FuncData} (G : Gb K mg Y) (d_is_rule : DefOk P w K mg base Y "is_rule" 1 3 m_is_rule) (Fu : FunD K "check_rule" "check_rule" (defArgs s_check_rule) (defBody s_check_rule) (defScope s_check_rule) [] [] f fd) (hm : mg "check_rule" = some (.ref f)) : DefOk P w K mg base Y "check_rule" 1 4 m_check_rule := by
  refine defok (N := ["value"]) (ps := ["value"]) (k := 3) 1 1 Fu hm sc_check_rule rfl rfl (fun _ _ _ _ _ _ us hl => match us, hl with | [_], _ => rfl) fun X W cdv A outer s H E hX C po tk => ?_
  subst hX
  exact (ss_one (ss_if (sb_not (sb_val (se_def C d_is_rule (by decide) (sa_cons (se_var 0) sa_nil) (len_cons len_nil)))) (ss_one (ss_raise 1 C.calm tk G.x_BadRule)) ss_nil))
abbrev s_all_rules : Stmt := top 15
theorem sc_all_rules : FnScope ["found", "case", "figures", "bars", "ends", "turned"] [] (defScope s_all_rules) := ⟨rfl, rfl, rfl, by decide +kernel, rfl, by decide +kernel, by decide +kernel⟩
theorem ok_all_rules {f : Addr} {fd : FuncData} (G : Gb K mg Y)  (Fu : FunD K "all_rules" "all_rules" (defArgs s_all_rules) (defBody s_all_rules) (defScope s_all_rules) [] [] f fd) (hm : mg "all_rules" = some (.ref f)) : DefOk P w K mg base Y "all_rules" 0 2 m_all_rules := by
  refine defok (N := ["found", "case", "figures", "bars", "ends", "turned"]) (ps := []) (k := 1) 6 0 Fu hm sc_all_rules rfl rfl (fun _ _ _ _ _ _ us hl => match us, hl with | [], _ => rfl) fun X W cdv A outer s H E hX C po tk => ?_
  subst hX
  exact (ss_cons (ss_set 0 (se_lstM sa_nil) C.nd) (ss_cons (ss_for po C (si_any (se_gtup (ls := [[97, 112, 97, 114, 116], [109, 105, 120, 101, 100], [116, 111, 103, 101, 116, 104, 101, 114], [108, 97, 115, 116]]) G.c_CASES)) (tg_one 1 C.nd) (ss_one (ss_for po C (si_any (se_gtup (ls := [[115, 105, 103, 110, 115], [110, 117, 109, 98, 101, 114, 115], [115, 116, 114, 105, 99, 116]]) G.c_NUMBERS)) (tg_one 2 C.nd) (ss_one (ss_for po C (si_any (se_gtup (ls := [[97, 104, 101, 97, 100], [98, 101, 104, 105, 110, 100]]) G.c_BARS)) (tg_one 3 C.nd) (ss_one (ss_for po C (si_any (se_gtup (ls := [[102, 105, 114, 115, 116], [98, 101, 104, 105, 110, 100]]) G.c_ENDS)) (tg_one 4 C.nd) (ss_one (ss_augL 0 (se_lc [("turned", 5)] C (si_any (se_tup (sa_cons se_int (sa_cons se_int sa_nil)))) (by kernel_rfl) (fun _ _ _ _ _ => (tg_one 5 C.nd)) (fun _ _ _ _ _ C => pts_yes) (fun _ _ _ _ _ C => (se_tup (sa_cons (se_var 1) (sa_cons (se_var 2) (sa_cons (se_var 3) (sa_cons (se_var 4) (sa_cons (se_var 5) sa_nil)))))))) C.nd))))))))) (ss_one (ss_ret (se_fz (se_var 0))))))
abbrev s_format_rule : Stmt := top 17
theorem sc_format_rule : FnScope ["rule", "one"] ["rule"] (defScope s_format_rule) := ⟨rfl, rfl, rfl, by decide +kernel, rfl, by decide +kernel, by decide +kernel⟩
theorem ok_format_rule {f : Addr} {fd : FuncData} (G : Gb K mg Y) (d_check_rule : DefOk P w K mg base Y "check_rule" 1 4 m_check_rule) (Fu : FunD K "format_rule" "format_rule" (defArgs s_format_rule) (defBody s_format_rule) (defScope s_format_rule) [] [] f fd) (hm : mg "format_rule" = some (.ref f)) : DefOk P w K mg base Y "format_rule" 1 5 m_format_rule := by
  refine defok (N := ["rule", "one"]) (ps := ["rule"]) (k := 4) 2 1 Fu hm sc_format_rule rfl rfl (fun _ _ _ _ _ _ us hl => match us, hl with | [_], _ => rfl) fun X W cdv A outer s H E hX C po tk => ?_
  subst hX
  exact (ss_cons (ss_expr (se_def C d_check_rule (by decide) (sa_cons (se_var 0) sa_nil) (len_cons len_nil))) (ss_one (ss_ret (se_bm smt_join PySem.F.plainAttrs_str PySem.F.slot_str_join PySem.F.type_str_join se_str (sa_cons (se_lc [("one", 1)] C (si_any (se_var 0)) (by kernel_rfl) (fun _ _ _ _ _ => (tg_one 1 C.nd)) (fun _ _ _ _ _ C => pts_yes) (fun _ _ _ _ _ C => (se_callTy scall_str G.b_str (by decide +kernel) (sa_cons (se_var 1) sa_nil)))) sa_nil)))))
abbrev s_item_in : Stmt := top 18
theorem sc_item_in : FnScope ["word"] ["word"] (defScope s_item_in) := ⟨rfl, rfl, rfl, by decide +kernel, rfl, by decide +kernel, by decide +kernel⟩
theorem ok_item_in {f : Addr} {fd : FuncData} (G : Gb K mg Y)  (Fu : FunD K "item_in" "item_in" (defArgs s_item_in) (defBody s_item_in) (defScope s_item_in) [] [] f fd) (hm : mg "item_in" = some (.ref f)) : DefOk P w K mg base Y "item_in" 1 2 m_item_in := by
  refine defok (N := ["word"]) (ps := ["word"]) (k := 1) 1 1 Fu hm sc_item_in rfl rfl (fun _ _ _ _ _ _ us hl => match us, hl with | [_], _ => rfl) fun X W cdv A outer s H E hX C po tk => ?_
  subst hX
  exact (ss_one (ss_ret (se_ifExp (sb_cmp (sop_in C) (se_var 0) (se_tup (sa_cons se_str (sa_cons se_str sa_nil)))) (se_callTy scall_int G.b_int (by decide +kernel) (sa_cons (se_var 0) sa_nil)) (se_var 0))))
abbrev s_parse_rule : Stmt := top 19
theorem sc_parse_rule : FnScope ["text", "found", "word"] ["text"] (defScope s_parse_rule) := ⟨rfl, rfl, rfl, by decide +kernel, rfl, by decide +kernel, by decide +kernel⟩
theorem ok_parse_rule {f : Addr} {fd : FuncData} (G : Gb K mg Y) (d_is_rule : DefOk P w K mg base Y "is_rule" 1 3 m_is_rule) (d_item_in : DefOk P w K mg base Y "item_in" 1 2 m_item_in) (Fu : FunD K "parse_rule" "parse_rule" (defArgs s_parse_rule) (defBody s_parse_rule) (defScope s_parse_rule) [] [] f fd) (hm : mg "parse_rule" = some (.ref f)) : DefOk P w K mg base Y "parse_rule" 1 4 m_parse_rule := by
  refine defok (N := ["text", "found", "word"]) (ps := ["text"]) (k := 3) 3 1 Fu hm sc_parse_rule rfl rfl (fun _ _ _ _ _ _ us hl => match us, hl with | [_], _ => rfl) fun X W cdv A outer s H E hX C po tk => ?_
  subst hX
  exact (ss_cons (ss_if (sb_not (sb_val (se_isi .str (by decide +kernel) rfl G.b_isinstance G.b_str (se_var 0)))) (ss_one (ss_raise 2 C.calm tk G.x_BadText)) ss_nil) (ss_cons (ss_set 1 (se_callTy scall_tuple G.b_tuple (by decide +kernel) (sa_cons (se_lc [("word", 2)] C (si_any (se_bm smt_split PySem.F.plainAttrs_str PySem.F.slot_str_split PySem.F.type_str_split (se_var 0) (sa_cons se_str sa_nil))) (by kernel_rfl) (fun _ _ _ _ _ => (tg_one 2 C.nd)) (fun _ _ _ _ _ C => pts_yes) (fun _ _ _ _ _ C => (se_def C d_item_in (by decide) (sa_cons (se_var 2) sa_nil) (len_cons len_nil)))) sa_nil)) C.nd) (ss_cons (ss_if (sb_not (sb_val (se_def C d_is_rule (by decide) (sa_cons (se_var 1) sa_nil) (len_cons len_nil)))) (ss_one (ss_raise 2 C.calm tk G.x_BadText)) ss_nil) (ss_one (ss_ret (se_var 1))))))
abbrev s__law_start : Stmt := top 21
theorem sc__law_start : FnScope ["_law_script"] ["_law_script"] (defScope s__law_start) := ⟨rfl, rfl, rfl, by decide +kernel, rfl, by decide +kernel, by decide +kernel⟩
theorem ok__law_start {f : Addr} {fd : FuncData} (G : Gb K mg Y)  (Fu : FunD K "_law_start" "_law_start" (defArgs s__law_start) (defBody s__law_start) (defScope s__law_start) [] [] f fd) (hm : mg "_law_start" = some (.ref f)) : DefOk P w K mg base Y "_law_start" 1 2 m__law_start := by
  refine defok (N := ["_law_script"]) (ps := ["_law_script"]) (k := 1) 1 1 Fu hm sc__law_start rfl rfl (fun _ _ _ _ _ _ us hl => match us, hl with | [_], _ => rfl) fun X W cdv A outer s H E hX C po tk => ?_
  subst hX
  exact (ss_one (ss_ret (se_lstM (sa_cons (se_ifExp (sb_cmp (sop_ne C) (se_var 0) (se_lst sa_nil)) (se_listM rfl G.b_list (se_var 0)) (se_lstM (sa_cons se_int sa_nil))) (sa_cons se_int sa_nil)))))
abbrev s__law_draw : Stmt := top 22
theorem sc__law_draw : FnScope ["_law_draws", "_law_limit", "_law_numbers", "_law_at", "_law_cell", "_law_mixed"] ["_law_draws", "_law_limit"] (defScope s__law_draw) := ⟨rfl, rfl, rfl, by decide +kernel, rfl, by decide +kernel, by decide +kernel⟩
theorem ok__law_draw {f : Addr} {fd : FuncData} (G : Gb K mg Y)  (Fu : FunD K "_law_draw" "_law_draw" (defArgs s__law_draw) (defBody s__law_draw) (defScope s__law_draw) [] [] f fd) (hm : mg "_law_draw" = some (.ref f)) : DefOk P w K mg base Y "_law_draw" 2 2 m__law_draw := by
  refine defok (N := ["_law_draws", "_law_limit", "_law_numbers", "_law_at", "_law_cell", "_law_mixed"]) (ps := ["_law_draws", "_law_limit"]) (k := 1) 6 2 Fu hm sc__law_draw rfl rfl (fun _ _ _ _ _ _ us hl => match us, hl with | [_, _], _ => rfl) fun X W cdv A outer s H E hX C po tk => ?_
  subst hX
  exact (ss_cons (ss_set 2 (se_ix six (se_var 0) se_int) C.nd) (ss_cons (ss_setix sset_list (se_bin sop_add (se_ix six (se_var 0) se_int) se_int) (se_var 0) se_int) (ss_cons (ss_set 3 (se_bin sop_mod (se_ix six (se_var 0) se_int) (se_callB scall_len G.b_len (by decide +kernel) (sa_cons (se_var 2) sa_nil))) C.nd) (ss_cons (ss_set 4 (se_ix six (se_var 2) (se_var 3)) C.nd) (ss_cons (ss_if (sb_cmp sop_ge (se_var 4) se_int) (ss_cons (ss_setix sset_list (se_bin sop_fdiv (se_var 4) (se_var 1)) (se_var 2) (se_var 3)) (ss_one (ss_ret (se_bin sop_mod (se_var 4) (se_var 1))))) ss_nil) (ss_cons (ss_set 5 (se_bin sop_mod (se_bin sop_add (se_var 4) (se_bin sop_mul se_int (se_ix six (se_var 0) se_int))) se_int) C.nd) (ss_cons (ss_set 5 (se_bin sop_mod (se_bin sop_pow (se_var 5) se_int) se_int) C.nd) (ss_one (ss_ret (se_bin sop_mod (se_bin sop_fdiv (se_bin sop_mod (se_bin sop_add (se_bin sop_mul (se_bin sop_fdiv (se_var 5) se_int) se_int) (se_var 5)) se_int) se_int) (se_var 1)))))))))))
abbrev s__law_pick : Stmt := top 23
theorem sc__law_pick : FnScope ["_law_draws", "_law_choices"] ["_law_draws", "_law_choices"] (defScope s__law_pick) := ⟨rfl, rfl, rfl, by decide +kernel, rfl, by decide +kernel, by decide +kernel⟩
theorem ok__law_pick {f : Addr} {fd : FuncData} (G : Gb K mg Y) (d__law_draw : DefOk P w K mg base Y "_law_draw" 2 2 m__law_draw) (Fu : FunD K "_law_pick" "_law_pick" (defArgs s__law_pick) (defBody s__law_pick) (defScope s__law_pick) [] [] f fd) (hm : mg "_law_pick" = some (.ref f)) : DefOk P w K mg base Y "_law_pick" 2 3 m__law_pick := by
  refine defok (N := ["_law_draws", "_law_choices"]) (ps := ["_law_draws", "_law_choices"]) (k := 2) 2 2 Fu hm sc__law_pick rfl rfl (fun _ _ _ _ _ _ us hl => match us, hl with | [_, _], _ => rfl) fun X W cdv A outer s H E hX C po tk => ?_
  subst hX
  exact (ss_one (ss_ret (se_ix six (se_var 1) (se_def C d__law_draw (by decide) (sa_cons (se_var 0) (sa_cons (se_callB scall_len G.b_len (by decide +kernel) (sa_cons (se_var 1) sa_nil)) sa_nil)) (len_cons (len_cons len_nil))))))
abbrev s__law_error : Stmt := top 24
theorem sc__law_error : FnScope ["_law_caught", "_law_kinds"] ["_law_caught"] (defScope s__law_error) := ⟨rfl, rfl, rfl, by decide +kernel, rfl, by decide +kernel, by decide +kernel⟩
theorem ok__law_error {f : Addr} {fd : FuncData} (G : Gb K mg Y)  (Fu : FunD K "_law_error" "_law_error" (defArgs s__law_error) (defBody s__law_error) (defScope s__law_error) [] [] f fd) (hm : mg "_law_error" = some (.ref f)) : DefOk P w K mg base Y "_law_error" 1 2 m__law_error := by
  refine defok (N := ["_law_caught", "_law_kinds"]) (ps := ["_law_caught"]) (k := 1) 2 1 Fu hm sc__law_error rfl rfl (fun _ _ _ _ _ _ us hl => match us, hl with | [_], _ => rfl) fun X W cdv A outer s H E hX C po tk => ?_
  subst hX
  exact (ss_cons (ss_set 1 (se_lst (sa_cons (se_isxO [false, true, false, false, false] G.t_BadRule G.b_isinstance (se_var 0)) (sa_cons (se_isxO [false, false, true, false, false] G.t_BadText G.b_isinstance (se_var 0)) (sa_cons (se_isxO [false, false, false, true, false] G.t_BadNumber G.b_isinstance (se_var 0)) (sa_cons (se_isxO [false, false, false, false, true] G.t_NotFound G.b_isinstance (se_var 0)) sa_nil))))) C.nd) (ss_cons (ss_if ((sw_or (sb_cmp (sop_ne C) (se_bm (smt_count C) PySem.F.plainAttrs_list PySem.F.slot_list_count PySem.F.type_list_count (se_var 1) (sa_cons se_bl sa_nil)) se_int) (sw_or (sb_not (sb_val (se_isxO [true, true, true, true, true] G.t_OrderError G.b_isinstance (se_var 0)))) (sw_or1 (sb_not (sb_val (se_isxB "ValueError" [true, true, true, true, true] G.t_ValueError G.b_isinstance (by decide +kernel) (se_var 0)))))))).sb (ss_one (ss_ret se_str)) ss_nil) (ss_one (ss_ret (se_ix six (se_lst (sa_cons se_str (sa_cons se_str (sa_cons se_str (sa_cons se_str sa_nil))))) (se_bm (smt_index C) PySem.F.plainAttrs_list PySem.F.slot_list_index PySem.F.type_list_index (se_var 1) (sa_cons se_bl sa_nil)))))))
abbrev s__law_words : Stmt := top 25
theorem sc__law_words : FnScope [] [] (defScope s__law_words) := ⟨rfl, rfl, rfl, by decide +kernel, rfl, by decide +kernel, by decide +kernel⟩
theorem ok__law_words {f : Addr} {fd : FuncData} (G : Gb K mg Y)  (Fu : FunD K "_law_words" "_law_words" (defArgs s__law_words) (defBody s__law_words) (defScope s__law_words) [] [] f fd) (hm : mg "_law_words" = some (.ref f)) : DefOk P w K mg base Y "_law_words" 0 2 m__law_words := by
  refine defok (N := []) (ps := []) (k := 1) 0 0 Fu hm sc__law_words rfl rfl (fun _ _ _ _ _ _ us hl => match us, hl with | [], _ => rfl) fun X W cdv A outer s H E hX C po tk => ?_
  subst hX
  exact (ss_one (ss_ret (se_lst (sa_cons (se_lst (sa_cons se_str (sa_cons se_str (sa_cons se_str (sa_cons se_str sa_nil))))) (sa_cons (se_lst (sa_cons se_str (sa_cons se_str (sa_cons se_str sa_nil)))) (sa_cons (se_lst (sa_cons se_str (sa_cons se_str sa_nil))) (sa_cons (se_lst (sa_cons se_str (sa_cons se_str sa_nil))) sa_nil)))))))
abbrev s__law_rule : Stmt := top 26
theorem sc__law_rule : FnScope ["_law_draws", "_law_words_here"] ["_law_draws"] (defScope s__law_rule) := ⟨rfl, rfl, rfl, by decide +kernel, rfl, by decide +kernel, by decide +kernel⟩
theorem ok__law_rule {f : Addr} {fd : FuncData} (G : Gb K mg Y) (d__law_draw : DefOk P w K mg base Y "_law_draw" 2 2 m__law_draw) (d__law_pick : DefOk P w K mg base Y "_law_pick" 2 3 m__law_pick) (d__law_words : DefOk P w K mg base Y "_law_words" 0 2 m__law_words) (Fu : FunD K "_law_rule" "_law_rule" (defArgs s__law_rule) (defBody s__law_rule) (defScope s__law_rule) [] [] f fd) (hm : mg "_law_rule" = some (.ref f)) : DefOk P w K mg base Y "_law_rule" 1 4 m__law_rule := by
  refine defok (N := ["_law_draws", "_law_words_here"]) (ps := ["_law_draws"]) (k := 3) 2 1 Fu hm sc__law_rule rfl rfl (fun _ _ _ _ _ _ us hl => match us, hl with | [_], _ => rfl) fun X W cdv A outer s H E hX C po tk => ?_
  subst hX
  exact (ss_one (ss_ret (se_bin sop_add (se_callTy scall_tuple G.b_tuple (by decide +kernel) (sa_cons (se_lc [("_law_words_here", 1)] C (si_any (se_def0 C d__law_words (by decide))) (by kernel_rfl) (fun _ _ _ _ _ => (tg_one 1 C.nd)) (fun _ _ _ _ _ C => pts_yes) (fun _ _ _ _ _ C => (se_def C d__law_pick (by decide) (sa_cons (se_var 0) (sa_cons (se_var 1) sa_nil)) (len_cons (len_cons len_nil))))) sa_nil)) (se_tup (sa_cons (se_def C d__law_draw (by decide) (sa_cons (se_var 0) (sa_cons se_int sa_nil)) (len_cons (len_cons len_nil))) sa_nil)))))
abbrev s__law_rules : Stmt := top 27
theorem sc__law_rules : FnScope ["_law_found", "_law_words_here", "_law_longer", "_law_rule_here", "_law_word"] [] (defScope s__law_rules) := ⟨rfl, rfl, rfl, by decide +kernel, rfl, by decide +kernel, by decide +kernel⟩
theorem ok__law_rules {f : Addr} {fd : FuncData} (G : Gb K mg Y) (d__law_words : DefOk P w K mg base Y "_law_words" 0 2 m__law_words) (Fu : FunD K "_law_rules" "_law_rules" (defArgs s__law_rules) (defBody s__law_rules) (defScope s__law_rules) [] [] f fd) (hm : mg "_law_rules" = some (.ref f)) : DefOk P w K mg base Y "_law_rules" 0 3 m__law_rules := by
  refine defok (N := ["_law_found", "_law_words_here", "_law_longer", "_law_rule_here", "_law_word"]) (ps := []) (k := 2) 5 0 Fu hm sc__law_rules rfl rfl (fun _ _ _ _ _ _ us hl => match us, hl with | [], _ => rfl) fun X W cdv A outer s H E hX C po tk => ?_
  subst hX
  exact (ss_cons (ss_set 0 (se_lst (sa_cons (se_tup sa_nil) sa_nil)) C.nd) (ss_cons (ss_for po C (si_any (se_bin sop_add (se_def0 C d__law_words (by decide)) (se_lst (sa_cons (se_lst (sa_cons se_int (sa_cons se_int sa_nil))) sa_nil)))) (tg_one 1 C.nd) (ss_cons (ss_set 2 (se_lst sa_nil) C.nd) (ss_cons (ss_for po C (si_any (se_var 0)) (tg_one 3 C.nd) (ss_one (ss_set 2 (se_bin sop_add (se_var 2) (se_lc [("_law_word", 4)] C (si_any (se_var 1)) (by kernel_rfl) (fun _ _ _ _ _ => (tg_one 4 C.nd)) (fun _ _ _ _ _ C => pts_yes) (fun _ _ _ _ _ C => (se_bin sop_add (se_var 3) (se_tup (sa_cons (se_var 4) sa_nil)))))) C.nd))) (ss_one (ss_set 0 (se_var 2) C.nd))))) (ss_one (ss_ret (se_var 0)))))
abbrev s__law_parsed : Stmt := top 28
theorem sc__law_parsed : FnScope ["_law_text", "_law_found", "_law_caught", "e"] ["_law_text"] (defScope s__law_parsed) := ⟨rfl, rfl, rfl, by decide +kernel, rfl, by decide +kernel, by decide +kernel⟩
theorem ok__law_parsed {f : Addr} {fd : FuncData} (G : Gb K mg Y) (d_parse_rule : DefOk P w K mg base Y "parse_rule" 1 4 m_parse_rule) (d__law_error : DefOk P w K mg base Y "_law_error" 1 2 m__law_error) (Fu : FunD K "_law_parsed" "_law_parsed" (defArgs s__law_parsed) (defBody s__law_parsed) (defScope s__law_parsed) [] [] f fd) (hm : mg "_law_parsed" = some (.ref f)) : DefOk P w K mg base Y "_law_parsed" 1 5 m__law_parsed := by
  refine defok (N := ["_law_text", "_law_found", "_law_caught", "e"]) (ps := ["_law_text"]) (k := 4) 4 1 Fu hm sc__law_parsed rfl rfl (fun _ _ _ _ _ _ us hl => match us, hl with | [_], _ => rfl) fun X W cdv A outer s H E hX C po tk => ?_
  subst hX
  exact (ss_cons (ss_set 1 se_non C.nd) (ss_cons (ss_set 2 se_non C.nd) (ss_cons (ss_tryO (n := "e") (m := "_law_caught") C G.m_OrderError (hb := fun _ _ _ tk po C => (ss_one (ss_set 1 (se_def C d_parse_rule (by decide) (sa_cons (se_var 0) sa_nil) (len_cons len_nil)) C.nd)))) (ss_one (ss_ret (se_ifExp (sb_cmp sop_is (se_var 2) se_non) (se_var 1) (se_def C d__law_error (by decide) (sa_cons (se_var 2) sa_nil) (len_cons len_nil))))))))
abbrev s__law_rejected : Stmt := top 29
theorem sc__law_rejected : FnScope ["_law_odd", "_law_bad"] [] (defScope s__law_rejected) := ⟨rfl, rfl, rfl, by decide +kernel, rfl, by decide +kernel, by decide +kernel⟩
theorem ok__law_rejected {f : Addr} {fd : FuncData} (G : Gb K mg Y) (d__law_parsed : DefOk P w K mg base Y "_law_parsed" 1 5 m__law_parsed) (Fu : FunD K "_law_rejected" "_law_rejected" (defArgs s__law_rejected) (defBody s__law_rejected) (defScope s__law_rejected) [] [] f fd) (hm : mg "_law_rejected" = some (.ref f)) : DefOk P w K mg base Y "_law_rejected" 0 6 m__law_rejected := by
  refine defok (N := ["_law_odd", "_law_bad"]) (ps := []) (k := 5) 2 0 Fu hm sc__law_rejected rfl rfl (fun _ _ _ _ _ _ us hl => match us, hl with | [], _ => rfl) fun X W cdv A outer s H E hX C po tk => ?_
  subst hX
  exact (ss_cons (ss_set 0 (se_lst (sa_cons se_non (sa_cons se_int (sa_cons se_str (sa_cons se_str (sa_cons se_str (sa_cons se_str (sa_cons se_str (sa_cons se_str sa_nil))))))))) C.nd) (ss_cons (ss_set 0 (se_bin sop_add (se_var 0) (se_lst (sa_cons se_str (sa_cons se_str (sa_cons se_str (sa_cons se_str (sa_cons se_str sa_nil))))))) C.nd) (ss_cons (ss_set 0 (se_bin sop_add (se_var 0) (se_lst (sa_cons se_str (sa_cons se_str (sa_cons se_str (sa_cons se_str (sa_cons (se_lst (sa_cons se_str sa_nil)) sa_nil))))))) C.nd) (ss_cons (ss_set 0 (se_bin sop_add (se_var 0) (se_lst (sa_cons (se_tup (sa_cons se_str (sa_cons se_str (sa_cons se_str (sa_cons se_str (sa_cons se_int sa_nil)))))) (sa_cons se_str (sa_cons se_str (sa_cons se_str (sa_cons se_str (sa_cons (se_bin sop_mulS se_str se_int) sa_nil)))))))) C.nd) (ss_one (ss_ret (se_cmp (sop_eq C) (se_lc [("_law_bad", 1)] C (si_any (se_var 0)) (by kernel_rfl) (fun _ _ _ _ _ => (tg_one 1 C.nd)) (fun _ _ _ _ _ C => pts_yes) (fun _ _ _ _ _ C => (se_def C d__law_parsed (by decide) (sa_cons (se_var 1) sa_nil) (len_cons len_nil)))) (se_bin sop_mul (se_lst (sa_cons se_str sa_nil)) se_int))))))))
abbrev s_law : Stmt := top 30
theorem sc_law : FnScope ["_law_script", "_law_draws", "_law_rule_here", "_law_text", "_law_one", "_law_marks", "_law_turn_here", "_law_at", "_law_mark", "_law_other", "_law_found"] ["_law_script"] (defScope s_law) := ⟨rfl, rfl, rfl, by decide +kernel, rfl, by decide +kernel, by decide +kernel⟩
theorem ok_law {f : Addr} {fd : FuncData} (G : Gb K mg Y) (d__law_start : DefOk P w K mg base Y "_law_start" 1 2 m__law_start) (d__law_rule : DefOk P w K mg base Y "_law_rule" 1 4 m__law_rule) (d_format_rule : DefOk P w K mg base Y "format_rule" 1 5 m_format_rule) (d__law_pick : DefOk P w K mg base Y "_law_pick" 2 3 m__law_pick) (d__law_parsed : DefOk P w K mg base Y "_law_parsed" 1 5 m__law_parsed) (d__law_rejected : DefOk P w K mg base Y "_law_rejected" 0 6 m__law_rejected) (d__law_draw : DefOk P w K mg base Y "_law_draw" 2 2 m__law_draw) (d_all_rules : DefOk P w K mg base Y "all_rules" 0 2 m_all_rules) (d__law_rules : DefOk P w K mg base Y "_law_rules" 0 3 m__law_rules) (d_is_rule : DefOk P w K mg base Y "is_rule" 1 3 m_is_rule) (Fu : FunD K "law" "law" (defArgs s_law) (defBody s_law) (defScope s_law) [] [] f fd) : FnOk P w K mg base (L2.CX P w) 7 f fd ["_law_script"] (spOf K Y m_law 1) := by
  refine fnokD (N := ["_law_script", "_law_draws", "_law_rule_here", "_law_text", "_law_one", "_law_marks", "_law_turn_here", "_law_at", "_law_mark", "_law_other", "_law_found"]) (ps := ["_law_script"]) (k := 6) 11 1 Fu sc_law rfl rfl fun X W cdv A outer s H E hX C po tk => ?_
  subst hX
  exact (ss_cons (ss_set 1 (se_def C d__law_start (by decide) (sa_cons (se_var 0) sa_nil) (len_cons len_nil)) C.nd) (ss_cons (ss_set 2 (se_def C d__law_rule (by decide) (sa_cons (se_var 1) sa_nil) (len_cons len_nil)) C.nd) (ss_cons (ss_set 3 (se_def C d_format_rule (by decide) (sa_cons (se_var 2) sa_nil) (len_cons len_nil)) C.nd) (ss_cons (ss_if ((sw_or (sb_cmp (sop_ne C) (se_var 3) (se_bm smt_join PySem.F.plainAttrs_str PySem.F.slot_str_join PySem.F.type_str_join se_str (sa_cons (se_lc [("_law_one", 4)] C (si_any (se_var 2)) (by kernel_rfl) (fun _ _ _ _ _ => (tg_one 4 C.nd)) (fun _ _ _ _ _ C => pts_yes) (fun _ _ _ _ _ C => (se_callTy scall_str G.b_str (by decide +kernel) (sa_cons (se_var 4) sa_nil)))) sa_nil))) (sw_or1 (sb_cmp (sop_ne C) (se_def C d__law_parsed (by decide) (sa_cons (se_var 3) sa_nil) (len_cons len_nil)) (se_var 2))))).sb (ss_one (ss_ret se_bl)) ss_nil) (ss_cons (ss_set 5 (se_lst (sa_cons se_str (sa_cons se_str (sa_cons se_str (sa_cons se_str (sa_cons se_str (sa_cons se_str (sa_cons se_str (sa_cons se_str (sa_cons se_str (sa_cons se_str (sa_cons se_str sa_nil)))))))))))) C.nd) (ss_cons (ss_for po C (si_range1 G.b_range (sa_cons se_int sa_nil)) (tg_one 6 C.nd) (ss_cons (ss_par 7 8 C.calm (sa_cons (se_def C d__law_draw (by decide) (sa_cons (se_var 1) (sa_cons (se_bin sop_add (se_callB scall_len G.b_len (by decide +kernel) (sa_cons (se_var 3) sa_nil)) se_int) sa_nil)) (len_cons (len_cons len_nil))) (sa_cons (se_def C d__law_pick (by decide) (sa_cons (se_var 1) (sa_cons (se_var 5) sa_nil)) (len_cons (len_cons len_nil))) sa_nil)) C.nd) (ss_cons (ss_set 9 (se_def C d__law_pick (by decide) (sa_cons (se_var 1) (sa_cons (se_lst (sa_cons (se_bin sop_add (se_bin sop_add (se_slice ssl (se_var 3) so_none (so_some (se_var 7))) (se_var 8)) (se_slice ssl (se_var 3) (so_some (se_bin sop_add (se_var 7) se_int)) so_none)) (sa_cons (se_bin sop_add (se_bin sop_add (se_slice ssl (se_var 3) so_none (so_some (se_var 7))) (se_var 8)) (se_slice ssl (se_var 3) (so_some (se_var 7)) so_none)) (sa_cons (se_bin sop_add (se_bin sop_add (se_bin sop_add (se_slice ssl (se_var 3) so_none (so_some (se_var 7))) se_str) (se_var 8)) (se_slice ssl (se_var 3) (so_some (se_var 7)) so_none)) sa_nil)))) sa_nil)) (len_cons (len_cons len_nil))) C.nd) (ss_cons (ss_set 10 (se_def C d__law_parsed (by decide) (sa_cons (se_var 9) sa_nil) (len_cons len_nil)) C.nd) (ss_cons (ss_if ((sw_and (sb_cmp (sop_ne C) (se_var 10) se_str) (sw_and1 (sb_cmp (sop_ne C) (se_bm smt_join PySem.F.plainAttrs_str PySem.F.slot_str_join PySem.F.type_str_join se_str (sa_cons (se_lc [("_law_one", 4)] C (si_any (se_var 10)) (by kernel_rfl) (fun _ _ _ _ _ => (tg_one 4 C.nd)) (fun _ _ _ _ _ C => pts_yes) (fun _ _ _ _ _ C => (se_callTy scall_str G.b_str (by decide +kernel) (sa_cons (se_var 4) sa_nil)))) sa_nil)) (se_var 9))))).sb (ss_one (ss_ret se_bl)) ss_nil) (ss_one (ss_if ((sw_and (sb_cmp (sop_ne C) (se_var 10) se_str) (sw_and1 (sb_cmp sop_isn (se_def C d_is_rule (by decide) (sa_cons (se_var 10) sa_nil) (len_cons len_nil)) se_bl)))).sb (ss_one (ss_ret se_bl)) ss_nil))))))) (ss_one (ss_ret (se_and (se_def0 C d__law_rejected (by decide)) (se_and (se_cmp (sop_eq C) (se_def0 C d_all_rules (by decide)) (se_def0 C d__law_rules (by decide))) (se_and (se_cmp (sop_eq C) (se_callB scall_len G.b_len (by decide +kernel) (sa_cons (se_def0 C d_all_rules (by decide)) sa_nil)) se_int) (se_one (se_cmp (sop_eq C) (se_def C d__law_parsed (by decide) (sa_cons se_str sa_nil) (len_cons len_nil)) (se_tup (sa_cons se_str (sa_cons se_str (sa_cons se_str (sa_cons se_str (sa_cons se_int sa_nil)))))))))))))))))))
end
end G
set_option Elab.async false
set_option linter.all false
set_option maxRecDepth 100000
set_option maxHeartbeats 4000000
namespace G
open PySem PySem.Spec L2 L3
noncomputable section
variable {Q : D → Store → Prop} {X : Nat → Store → Prop} {S : Store}
abbrev sApart : List Nat := [97, 112, 97, 114, 116]
abbrev sMixed : List Nat := [109, 105, 120, 101, 100]
abbrev sTogether : List Nat := [116, 111, 103, 101, 116, 104, 101, 114]
abbrev sLast : List Nat := [108, 97, 115, 116]
abbrev sSigns : List Nat := [115, 105, 103, 110, 115]
abbrev sNumbers : List Nat := [110, 117, 109, 98, 101, 114, 115]
abbrev sStrict : List Nat := [115, 116, 114, 105, 99, 116]
abbrev sAhead : List Nat := [97, 104, 101, 97, 100]
abbrev sBehind : List Nat := [98, 101, 104, 105, 110, 100]
abbrev sFirst : List Nat := [102, 105, 114, 115, 116]
abbrev sFig : List Nat := [48, 49, 50, 51, 52, 53, 54, 55, 56, 57]
def isSign (c : Nat) : Bool := isDig c || isUp c || isLo c || decide (c = 95)
theorem mem_fig {c : Nat} : c ∈ sFig ↔ isDig c = true := by
  simp [isDig]; omega
def rankM (cs br : List Nat) (c : Nat) : List Int :=
  if c = 95 then [if br = sAhead then 0 else 3, 0, 0]
  else if isDig c = true then [1, (c : Int) - 48, 0]
  else if cs = sApart then [2, if isUp c = true then 0 else 1, c]
  else [2, loA c, if cs = sMixed then (if isUp c = true then 0 else 1) else 0]
theorem sign_lt {c : Nat} (h : isSign c = true) : c < 128 := by
  simp [isSign, isDig, isUp, isLo] at h; omega
theorem asc1 {c : Nat} (h : c < 128) : asc [c] = true := by simp [asc, h]
theorem low_up : ∀ c, c < 128 → (([c] : List Nat) = [c].map loA ↔ isUp c = false) := by decide +kernel
/-- pieces of a text -/
def lastDig (acc : List (List Nat)) : Bool := match acc.getLast? with
  | some p => p.all isDig
  | none => false
def addLast (acc : List (List Nat)) (c : Nat) : List (List Nat) := match acc.getLast? with
  | some p => acc.dropLast ++ [p ++ [c]]
  | none => [[c]]
def stepC (b : Bool) (acc : List (List Nat)) (c : Nat) : List (List Nat) := if b = true ∧ isDig c = true ∧ lastDig acc = true then addLast acc c else acc ++ [[c]]
def cutM (b : Bool) (s : List Nat) : List (List Nat) := s.foldl (stepC b) []
theorem cut_snoc (b : Bool) (s : List Nat) (c : Nat) : cutM b (s ++ [c]) = stepC b (cutM b s) c := by simp [cutM, List.foldl_append]
theorem step_last (b : Bool) (acc : List (List Nat)) (c : Nat) : ∃ acc' p, stepC b acc c = acc' ++ [p ++ [c]] ∧ (p ++ [c]).all isDig = isDig c := by
  unfold stepC
  by_cases h : b = true ∧ isDig c = true ∧ lastDig acc = true
  · rw [if_pos h]
    obtain ⟨h1, h2, h3⟩ := h
    unfold lastDig at h3
    unfold addLast
    cases e : acc.getLast? with
    | none => rw [e] at h3; cases h3
    | some p =>
      rw [e] at h3
      have h3 : p.all isDig = true := h3
      exact ⟨acc.dropLast, p, rfl, by rw [List.all_append, h3]; simp [h2]⟩
  · rw [if_neg h]
    exact ⟨acc, [], rfl, by simp⟩
theorem cut_last (b : Bool) (s : List Nat) (c : Nat) : ∃ acc p, cutM b (s ++ [c]) = acc ++ [p] ∧ p.all isDig = isDig c := by
  rw [cut_snoc]
  obtain ⟨a, p, h1, h2⟩ := step_last b (cutM b s) c
  exact ⟨a, _, h1, h2⟩
theorem lastDig_snoc (acc : List (List Nat)) (p : List Nat) : lastDig (acc ++ [p]) = p.all isDig := by simp [lastDig]
theorem addLast_snoc (acc : List (List Nat)) (p : List Nat) (c : Nat) : addLast (acc ++ [p]) c = acc ++ [p ++ [c]] := by simp [addLast]
theorem cut_len (b : Bool) (s : List Nat) : (cutM b s).length ≤ s.length := by
  suffices h : ∀ (s : List Nat) (acc : List (List Nat)), (s.foldl (stepC b) acc).length ≤ acc.length + s.length by simpa [cutM] using h s []
  intro s
  induction s with
  | nil => simp
  | cons c s ih =>
    intro acc
    rw [List.foldl_cons]
    have h := ih (stepC b acc c)
    have q : (stepC b acc c).length ≤ acc.length + 1 := by
      unfold stepC
      split
      · unfold addLast
        cases e : acc.getLast? with
        | none => simp
        | some p => simp <;> omega
      · simp
    simp only [List.length_cons]
    omega
theorem cut_join (b : Bool) (s : List Nat) : (cutM b s).flatten = s := by
  suffices h : ∀ (s : List Nat) (acc : List (List Nat)), (s.foldl (stepC b) acc).flatten = acc.flatten ++ s by simpa [cutM] using h s []
  intro s
  induction s with
  | nil => simp
  | cons c s ih =>
    intro acc
    rw [List.foldl_cons, ih]
    have q : (stepC b acc c).flatten = acc.flatten ++ [c] := by
      unfold stepC
      split
      · rename_i h
        unfold addLast
        cases e : acc.getLast? with
        | none => rw [List.getLast?_eq_none_iff] at e; subst e; simp
        | some p =>
          obtain ⟨hne, rfl⟩ := List.getLast?_eq_some_iff.mp e |>.elim fun ys h => (⟨ys, h⟩ : ∃ ys, acc = ys ++ [p])
          simp
      · simp
    rw [q]; simp
/-- what a piece is -/
def Piece (p : List Nat) : Prop := (p ≠ [] ∧ p.all isDig = true) ∨ ∃ c, p = [c] ∧ isDig c = false
theorem cut_pieces (b : Bool) (s : List Nat) (hs : s.all isSign = true) : ∀ p ∈ cutM b s, Piece p ∧ p.all isSign = true := by
  suffices h : ∀ (s : List Nat) (acc : List (List Nat)), s.all isSign = true → (∀ p ∈ acc, Piece p ∧ p.all isSign = true) → ∀ p ∈ s.foldl (stepC b) acc, Piece p ∧ p.all isSign = true from h s [] hs (by simp)
  intro s
  induction s with
  | nil => exact fun acc _ h => h
  | cons c s ih =>
    intro acc hs ha
    rw [List.all_cons, Bool.and_eq_true] at hs
    rw [List.foldl_cons]
    refine ih _ hs.2 ?_
    unfold stepC
    split
    · rename_i h
      obtain ⟨h1, h2, h3⟩ := h
      unfold lastDig at h3
      unfold addLast
      cases e : acc.getLast? with
      | none => rw [e] at h3; cases h3
      | some p =>
        rw [e] at h3
        have h3 : p.all isDig = true := h3
        obtain ⟨ys, rfl⟩ := List.getLast?_eq_some_iff.mp e
        intro q hq
        simp only [List.dropLast_concat, List.mem_append, List.mem_singleton] at hq
        rcases hq with hq | rfl
        · exact ha q (by simp [hq])
        · refine ⟨.inl ⟨by simp, by rw [List.all_append, h3]; simp [h2]⟩, ?_⟩
          rw [List.all_append, (ha p (by simp)).2]
          simp [hs.1]
    · intro q hq
      rcases List.mem_append.mp hq with hq | hq
      · exact ha q hq
      · rw [List.mem_singleton.mp hq]
        refine ⟨?_, by simp [hs.1]⟩
        cases e : isDig c with
        | true => exact .inl ⟨by simp, by simp [e]⟩
        | false => exact .inr ⟨c, rfl, e⟩
end
end G
set_option Elab.async false
set_option linter.all false
set_option maxRecDepth 100000
set_option maxHeartbeats 400000
namespace G
open PySem PySem.Spec L2 L3
noncomputable section
variable {Q : D → Store → Prop} {X : Nat → Store → Prop} {S : Store}
abbrev signs (s : List Nat) : List D := s.map fun c => .str [c]
theorem is_int_w {v : Int} (h : ∀ d, d = .bl (decide (0 ≤ v ∧ v ≤ 1)) → Q d S) : wp (m_is_int S [.int v, .int 0, .int 1]) Q X := by
  unfold m_is_int b_is_int
  with_reducible refine w_fn2 (by simp only [List.map_cons, List.map_nil, List.replicate, List.cons_append, List.nil_append, Nat.reduceSub]; exact rfl) ?_
  repeat' first
    | with_reducible refine ⟨_, (rfl : leD _ _ _ = some _), ?_⟩
    | with_reducible refine w_var _ (by with_unfolding_all rfl) ?_
    | with_reducible refine seqZ_nxs (by simp only [List.set_cons_succ, List.set_cons_zero]; exact rfl) ?_
    | with_reducible refine stepZ_nxs (by simp only [List.set_cons_succ, List.set_cons_zero]; exact rfl) ?_
    | with_reducible refine s_seq ?_
    | with_reducible refine s_set ?_
    | with_reducible refine s_if ?_
    | with_reducible refine s_ret ?_
    | with_reducible refine s_expr ?_
    | with_reducible refine s_next ?_
    | with_reducible refine s_par ?_
    | with_reducible refine s_asg ?_
    | with_reducible refine s_setIx ?_
    | with_reducible refine s_augIx ?_
    | with_reducible refine s_aug ?_
    | with_reducible refine s_for ?_
    | with_reducible refine s_break ?_
    | with_reducible refine s_cont ?_
    | with_reducible refine s_raise ?_
    | with_reducible refine seqZ_nx ?_
    | with_reducible refine seqZ_rt ?_
    | with_reducible refine seqZ_ct ?_
    | with_reducible refine seqZ_bk ?_
    | with_reducible refine seqZ_ex ?_
    | with_reducible refine fnZ_nx ?_
    | with_reducible refine fnZ_rt ?_
    | with_reducible refine fnZ_ex ?_
    | with_reducible refine stepZ_nx ?_
    | with_reducible refine stepZ_rt ?_
    | with_reducible refine stepZ_ct ?_
    | with_reducible refine stepZ_bk ?_
    | with_reducible refine stepZ_ex ?_
    | with_reducible refine w_C ?_
    | with_reducible refine w_r2 ?_
    | with_reducible refine w_r1 ?_
    | with_reducible refine w_cons ?_
    | with_reducible refine w_nil ?_
    | with_reducible refine w_tup ?_
    | with_reducible refine w_lst ?_
    | with_reducible refine w_lstM ?_
    | with_reducible refine w_listM ?_
    | with_reducible refine w_if ?_
    | with_reducible refine w_tOf ?_
    | with_reducible refine w_tAnd ?_
    | with_reducible refine w_tOr ?_
    | with_reducible refine w_tNot ?_
    | with_reducible refine w_tYes ?_
    | with_reducible refine w_vAnd ?_
    | with_reducible refine w_vOr ?_
    | with_reducible refine w_vNot ?_
    | with_reducible refine w_chain ?_
    | with_reducible refine w_call ?_
    | with_reducible refine w_cb ?_
    | with_reducible refine w_oNone ?_
    | with_reducible refine w_oSome ?_
    | with_reducible refine w_sl ?_
    | with_reducible refine w_mt ?_
    | with_reducible refine w_fz ?_
    | with_reducible refine w_any ?_
    | with_reducible refine w_rng1 ?_
    | with_reducible refine w_rng2 ?_
    | with_reducible refine w_zip ?_
    | with_reducible refine w_enum ?_
    | with_reducible refine w_lc ?_
    | with_reducible refine w_lcM ?_
    | with_reducible refine lc_nil ?_
    | with_reducible refine go_nil ?_
    | with_reducible refine s_try ?_
    | with_reducible refine tryZ_nx ?_
    | with_reducible refine tryZ_rt ?_
    | with_reducible refine tryZ_bk ?_
    | with_reducible refine tryZ_ct ?_
    | with_reducible refine tryZ_ex (by decide) ?_
    | with_reducible refine w_dct ?_
    | with_reducible refine ⟨_, eqD_ii, ?_⟩
    | with_reducible refine ⟨_, eqD_ss, ?_⟩
    | with_reducible refine ⟨_, neD_ii, ?_⟩
    | with_reducible refine ⟨_, neD_ss, ?_⟩
    | with_reducible refine ⟨_, eqD_bb, ?_⟩
    | with_reducible refine ⟨_, isD_bb, ?_⟩
    | with_reducible refine ⟨_, ltDD_ii, ?_⟩
    | with_reducible refine ⟨_, add_ii, ?_⟩
    | with_reducible refine ⟨_, eqD_tupI, ?_⟩
    | with_reducible refine ⟨_, ltDD_tup, ?_⟩
    | with_reducible refine ⟨_, eqD_strs, ?_⟩
    | with_reducible refine ⟨_, neD_strs, ?_⟩
    | with_reducible refine ⟨_, inD2_str, ?_⟩
    | with_reducible refine ⟨_, neD_nil, ?_⟩
    | with_reducible refine ⟨_, eqD_nil, ?_⟩
    | with_reducible refine ⟨_, eqD_ints, ?_⟩
    | with_reducible refine ⟨_, neD_ints, ?_⟩
    | with_reducible refine ⟨_, ltDD_lst, ?_⟩
    | with_reducible refine ⟨Nat.le_of_ble_eq_true rfl, ?_⟩
    | with_reducible refine ⟨_, rfl, ?_⟩
    | with_reducible refine ⟨_, _, rfl, ?_⟩
    | with_reducible refine ⟨_, _, rfl, (by with_unfolding_all rfl : itemsOf _ = some _), ?_⟩
    | with_reducible refine ⟨_, (by with_unfolding_all rfl : ordD _ _ = some _), ?_⟩
    | with_reducible refine ⟨(by with_unfolding_all rfl : tyStr _ _ = true), ?_⟩
    | with_reducible refine ⟨_, (by with_unfolding_all rfl : negD _ _ = some _), ?_⟩
    | with_reducible refine ⟨_, (by with_unfolding_all rfl : isiD _ _ _ = some _), ?_⟩
    | with_reducible refine ⟨_, (by with_unfolding_all rfl : Tg.set _ _ _ = some _), ?_⟩
    | with_reducible refine ⟨_, _, rfl, ?_⟩
    | (with_reducible refine ⟨fun hb => ?_, fun hb => ?_⟩ <;> (try simp only [decide_eq_true_eq, decide_eq_false_iff_not, Bool.not_eq_true', Bool.not_eq_false', reduceCtorEq] at hb) <;> (try (exfalso; revert hb; decide)))
    | fail
  all_goals refine h _ ?_
  all_goals simp [hb]
theorem is_word_w {x : List Nat} {ws : List (List Nat)} (h : ∀ d, d = .bl (decide (x ∈ ws)) → Q d S) : wp (m_is_word S [.str x, .tup (ws.map .str)]) Q X := by
  unfold m_is_word b_is_word
  with_reducible refine w_fn2 (by simp only [List.map_cons, List.map_nil, List.replicate, List.cons_append, List.nil_append, Nat.reduceSub]; exact rfl) ?_
  repeat' first
    | (refine ⟨_, inD2_tup (pl_str 0 _) (by rw [List.all_map, List.all_eq_true]; exact fun x _ => pl_str 0 x), ?_⟩)
    | with_reducible refine w_var _ (by with_unfolding_all rfl) ?_
    | with_reducible refine seqZ_nxs (by simp only [List.set_cons_succ, List.set_cons_zero]; exact rfl) ?_
    | with_reducible refine stepZ_nxs (by simp only [List.set_cons_succ, List.set_cons_zero]; exact rfl) ?_
    | with_reducible refine s_seq ?_
    | with_reducible refine s_set ?_
    | with_reducible refine s_if ?_
    | with_reducible refine s_ret ?_
    | with_reducible refine s_expr ?_
    | with_reducible refine s_next ?_
    | with_reducible refine s_par ?_
    | with_reducible refine s_asg ?_
    | with_reducible refine s_setIx ?_
    | with_reducible refine s_augIx ?_
    | with_reducible refine s_aug ?_
    | with_reducible refine s_for ?_
    | with_reducible refine s_break ?_
    | with_reducible refine s_cont ?_
    | with_reducible refine s_raise ?_
    | with_reducible refine seqZ_nx ?_
    | with_reducible refine seqZ_rt ?_
    | with_reducible refine seqZ_ct ?_
    | with_reducible refine seqZ_bk ?_
    | with_reducible refine seqZ_ex ?_
    | with_reducible refine fnZ_nx ?_
    | with_reducible refine fnZ_rt ?_
    | with_reducible refine fnZ_ex ?_
    | with_reducible refine stepZ_nx ?_
    | with_reducible refine stepZ_rt ?_
    | with_reducible refine stepZ_ct ?_
    | with_reducible refine stepZ_bk ?_
    | with_reducible refine stepZ_ex ?_
    | with_reducible refine w_C ?_
    | with_reducible refine w_r2 ?_
    | with_reducible refine w_r1 ?_
    | with_reducible refine w_cons ?_
    | with_reducible refine w_nil ?_
    | with_reducible refine w_tup ?_
    | with_reducible refine w_lst ?_
    | with_reducible refine w_lstM ?_
    | with_reducible refine w_listM ?_
    | with_reducible refine w_if ?_
    | with_reducible refine w_tOf ?_
    | with_reducible refine w_tAnd ?_
    | with_reducible refine w_tOr ?_
    | with_reducible refine w_tNot ?_
    | with_reducible refine w_tYes ?_
    | with_reducible refine w_vAnd ?_
    | with_reducible refine w_vOr ?_
    | with_reducible refine w_vNot ?_
    | with_reducible refine w_chain ?_
    | with_reducible refine w_call ?_
    | with_reducible refine w_cb ?_
    | with_reducible refine w_oNone ?_
    | with_reducible refine w_oSome ?_
    | with_reducible refine w_sl ?_
    | with_reducible refine w_mt ?_
    | with_reducible refine w_fz ?_
    | with_reducible refine w_any ?_
    | with_reducible refine w_rng1 ?_
    | with_reducible refine w_rng2 ?_
    | with_reducible refine w_zip ?_
    | with_reducible refine w_enum ?_
    | with_reducible refine w_lc ?_
    | with_reducible refine w_lcM ?_
    | with_reducible refine lc_nil ?_
    | with_reducible refine go_nil ?_
    | with_reducible refine s_try ?_
    | with_reducible refine tryZ_nx ?_
    | with_reducible refine tryZ_rt ?_
    | with_reducible refine tryZ_bk ?_
    | with_reducible refine tryZ_ct ?_
    | with_reducible refine tryZ_ex (by decide) ?_
    | with_reducible refine w_dct ?_
    | with_reducible refine ⟨_, eqD_ii, ?_⟩
    | with_reducible refine ⟨_, eqD_ss, ?_⟩
    | with_reducible refine ⟨_, neD_ii, ?_⟩
    | with_reducible refine ⟨_, neD_ss, ?_⟩
    | with_reducible refine ⟨_, eqD_bb, ?_⟩
    | with_reducible refine ⟨_, isD_bb, ?_⟩
    | with_reducible refine ⟨_, ltDD_ii, ?_⟩
    | with_reducible refine ⟨_, add_ii, ?_⟩
    | with_reducible refine ⟨_, eqD_tupI, ?_⟩
    | with_reducible refine ⟨_, ltDD_tup, ?_⟩
    | with_reducible refine ⟨_, eqD_strs, ?_⟩
    | with_reducible refine ⟨_, neD_strs, ?_⟩
    | with_reducible refine ⟨_, inD2_str, ?_⟩
    | with_reducible refine ⟨_, neD_nil, ?_⟩
    | with_reducible refine ⟨_, eqD_nil, ?_⟩
    | with_reducible refine ⟨_, eqD_ints, ?_⟩
    | with_reducible refine ⟨_, neD_ints, ?_⟩
    | with_reducible refine ⟨_, ltDD_lst, ?_⟩
    | with_reducible refine ⟨Nat.le_of_ble_eq_true rfl, ?_⟩
    | with_reducible refine ⟨_, rfl, ?_⟩
    | with_reducible refine ⟨_, _, rfl, ?_⟩
    | with_reducible refine ⟨_, _, rfl, (by with_unfolding_all rfl : itemsOf _ = some _), ?_⟩
    | with_reducible refine ⟨_, (by with_unfolding_all rfl : ordD _ _ = some _), ?_⟩
    | with_reducible refine ⟨(by with_unfolding_all rfl : tyStr _ _ = true), ?_⟩
    | with_reducible refine ⟨_, (by with_unfolding_all rfl : negD _ _ = some _), ?_⟩
    | with_reducible refine ⟨_, (by with_unfolding_all rfl : isiD _ _ _ = some _), ?_⟩
    | with_reducible refine ⟨_, (by with_unfolding_all rfl : Tg.set _ _ _ = some _), ?_⟩
    | with_reducible refine ⟨_, _, rfl, ?_⟩
    | (with_reducible refine ⟨fun hb => ?_, fun hb => ?_⟩ <;> (try simp only [decide_eq_true_eq, decide_eq_false_iff_not, Bool.not_eq_true', Bool.not_eq_false', reduceCtorEq] at hb) <;> (try (exfalso; revert hb; decide)))
    | fail
  all_goals refine h _ ?_
  all_goals simp
/-- a rule of the program -/
structure RV (cs fg br en : List Nat) (tn : Int) : Prop where
  cs : cs ∈ [sApart, sMixed, sTogether, sLast]
  fg : fg ∈ [sSigns, sNumbers, sStrict]
  br : br ∈ [sAhead, sBehind]
  en : en ∈ [sFirst, sBehind]
  tn : tn = 0 ∨ tn = 1
abbrev ruleD (cs fg br en : List Nat) (tn : Int) : D := .tup [.str cs, .str fg, .str br, .str en, .int tn]
variable {cs fg br en : List Nat} {tn : Int}
theorem is_rule_w (r : RV cs fg br en tn) (h : Q (.bl true) S) : wp (m_is_rule S [ruleD cs fg br en tn]) Q X := by
  obtain ⟨h1, h2, h3, h4, h5⟩ := r
  unfold m_is_rule b_is_rule
  with_reducible refine w_fn2 (by simp only [List.map_cons, List.map_nil, List.replicate, List.cons_append, List.nil_append, Nat.reduceSub]; exact rfl) ?_
  repeat' first
    | (with_reducible refine ⟨_, len_t, ?_⟩)
    | ((with_reducible refine is_word_w fun _ hd => ?_) ; subst hd)
    | ((with_reducible refine is_int_w fun _ hd => ?_) ; subst hd)
    | with_reducible refine w_var _ (by with_unfolding_all rfl) ?_
    | with_reducible refine seqZ_nxs (by simp only [List.set_cons_succ, List.set_cons_zero]; exact rfl) ?_
    | with_reducible refine stepZ_nxs (by simp only [List.set_cons_succ, List.set_cons_zero]; exact rfl) ?_
    | with_reducible refine s_seq ?_
    | with_reducible refine s_set ?_
    | with_reducible refine s_if ?_
    | with_reducible refine s_ret ?_
    | with_reducible refine s_expr ?_
    | with_reducible refine s_next ?_
    | with_reducible refine s_par ?_
    | with_reducible refine s_asg ?_
    | with_reducible refine s_setIx ?_
    | with_reducible refine s_augIx ?_
    | with_reducible refine s_aug ?_
    | with_reducible refine s_for ?_
    | with_reducible refine s_break ?_
    | with_reducible refine s_cont ?_
    | with_reducible refine s_raise ?_
    | with_reducible refine seqZ_nx ?_
    | with_reducible refine seqZ_rt ?_
    | with_reducible refine seqZ_ct ?_
    | with_reducible refine seqZ_bk ?_
    | with_reducible refine seqZ_ex ?_
    | with_reducible refine fnZ_nx ?_
    | with_reducible refine fnZ_rt ?_
    | with_reducible refine fnZ_ex ?_
    | with_reducible refine stepZ_nx ?_
    | with_reducible refine stepZ_rt ?_
    | with_reducible refine stepZ_ct ?_
    | with_reducible refine stepZ_bk ?_
    | with_reducible refine stepZ_ex ?_
    | with_reducible refine w_C ?_
    | with_reducible refine w_r2 ?_
    | with_reducible refine w_r1 ?_
    | with_reducible refine w_cons ?_
    | with_reducible refine w_nil ?_
    | with_reducible refine w_tup ?_
    | with_reducible refine w_lst ?_
    | with_reducible refine w_lstM ?_
    | with_reducible refine w_listM ?_
    | with_reducible refine w_if ?_
    | with_reducible refine w_tOf ?_
    | with_reducible refine w_tAnd ?_
    | with_reducible refine w_tOr ?_
    | with_reducible refine w_tNot ?_
    | with_reducible refine w_tYes ?_
    | with_reducible refine w_vAnd ?_
    | with_reducible refine w_vOr ?_
    | with_reducible refine w_vNot ?_
    | with_reducible refine w_chain ?_
    | with_reducible refine w_call ?_
    | with_reducible refine w_cb ?_
    | with_reducible refine w_oNone ?_
    | with_reducible refine w_oSome ?_
    | with_reducible refine w_sl ?_
    | with_reducible refine w_mt ?_
    | with_reducible refine w_fz ?_
    | with_reducible refine w_any ?_
    | with_reducible refine w_rng1 ?_
    | with_reducible refine w_rng2 ?_
    | with_reducible refine w_zip ?_
    | with_reducible refine w_enum ?_
    | with_reducible refine w_lc ?_
    | with_reducible refine w_lcM ?_
    | with_reducible refine lc_nil ?_
    | with_reducible refine go_nil ?_
    | with_reducible refine s_try ?_
    | with_reducible refine tryZ_nx ?_
    | with_reducible refine tryZ_rt ?_
    | with_reducible refine tryZ_bk ?_
    | with_reducible refine tryZ_ct ?_
    | with_reducible refine tryZ_ex (by decide) ?_
    | with_reducible refine w_dct ?_
    | with_reducible refine ⟨_, eqD_ii, ?_⟩
    | with_reducible refine ⟨_, eqD_ss, ?_⟩
    | with_reducible refine ⟨_, neD_ii, ?_⟩
    | with_reducible refine ⟨_, neD_ss, ?_⟩
    | with_reducible refine ⟨_, eqD_bb, ?_⟩
    | with_reducible refine ⟨_, isD_bb, ?_⟩
    | with_reducible refine ⟨_, ltDD_ii, ?_⟩
    | with_reducible refine ⟨_, add_ii, ?_⟩
    | with_reducible refine ⟨_, eqD_tupI, ?_⟩
    | with_reducible refine ⟨_, ltDD_tup, ?_⟩
    | with_reducible refine ⟨_, eqD_strs, ?_⟩
    | with_reducible refine ⟨_, neD_strs, ?_⟩
    | with_reducible refine ⟨_, inD2_str, ?_⟩
    | with_reducible refine ⟨_, neD_nil, ?_⟩
    | with_reducible refine ⟨_, eqD_nil, ?_⟩
    | with_reducible refine ⟨_, eqD_ints, ?_⟩
    | with_reducible refine ⟨_, neD_ints, ?_⟩
    | with_reducible refine ⟨_, ltDD_lst, ?_⟩
    | with_reducible refine ⟨Nat.le_of_ble_eq_true rfl, ?_⟩
    | with_reducible refine ⟨_, rfl, ?_⟩
    | with_reducible refine ⟨_, _, rfl, ?_⟩
    | with_reducible refine ⟨_, _, rfl, (by with_unfolding_all rfl : itemsOf _ = some _), ?_⟩
    | with_reducible refine ⟨_, (by with_unfolding_all rfl : ordD _ _ = some _), ?_⟩
    | with_reducible refine ⟨(by with_unfolding_all rfl : tyStr _ _ = true), ?_⟩
    | with_reducible refine ⟨_, (by with_unfolding_all rfl : negD _ _ = some _), ?_⟩
    | with_reducible refine ⟨_, (by with_unfolding_all rfl : isiD _ _ _ = some _), ?_⟩
    | with_reducible refine ⟨_, (by with_unfolding_all rfl : Tg.set _ _ _ = some _), ?_⟩
    | with_reducible refine ⟨_, _, rfl, ?_⟩
    | (with_reducible refine ⟨fun hb => ?_, fun hb => ?_⟩ <;> (try simp only [decide_eq_true_eq, decide_eq_false_iff_not, Bool.not_eq_true', Bool.not_eq_false', reduceCtorEq] at hb) <;> (try (exfalso; revert hb; decide)))
    | fail
  all_goals first | exact absurd (by assumption) hb | (exfalso; simp at hb; done) | skip
  · exact absurd h1 (by assumption)
  · have e : (decide (0 ≤ tn ∧ tn ≤ 1)) = true := by simp; omega
    rw [e]; exact h
theorem check_rule_w (r : RV cs fg br en tn) (h : Q .non S) : wp (m_check_rule S [ruleD cs fg br en tn]) Q X := by
  unfold m_check_rule b_check_rule
  with_reducible refine w_fn2 (by simp only [List.map_cons, List.map_nil, List.replicate, List.cons_append, List.nil_append, Nat.reduceSub]; exact rfl) ?_
  repeat' first
    | with_reducible refine is_rule_w r ?_
    | with_reducible refine w_var _ (by with_unfolding_all rfl) ?_
    | with_reducible refine seqZ_nxs (by simp only [List.set_cons_succ, List.set_cons_zero]; exact rfl) ?_
    | with_reducible refine stepZ_nxs (by simp only [List.set_cons_succ, List.set_cons_zero]; exact rfl) ?_
    | with_reducible refine s_seq ?_
    | with_reducible refine s_set ?_
    | with_reducible refine s_if ?_
    | with_reducible refine s_ret ?_
    | with_reducible refine s_expr ?_
    | with_reducible refine s_next ?_
    | with_reducible refine s_par ?_
    | with_reducible refine s_asg ?_
    | with_reducible refine s_setIx ?_
    | with_reducible refine s_augIx ?_
    | with_reducible refine s_aug ?_
    | with_reducible refine s_for ?_
    | with_reducible refine s_break ?_
    | with_reducible refine s_cont ?_
    | with_reducible refine s_raise ?_
    | with_reducible refine seqZ_nx ?_
    | with_reducible refine seqZ_rt ?_
    | with_reducible refine seqZ_ct ?_
    | with_reducible refine seqZ_bk ?_
    | with_reducible refine seqZ_ex ?_
    | with_reducible refine fnZ_nx ?_
    | with_reducible refine fnZ_rt ?_
    | with_reducible refine fnZ_ex ?_
    | with_reducible refine stepZ_nx ?_
    | with_reducible refine stepZ_rt ?_
    | with_reducible refine stepZ_ct ?_
    | with_reducible refine stepZ_bk ?_
    | with_reducible refine stepZ_ex ?_
    | with_reducible refine w_C ?_
    | with_reducible refine w_r2 ?_
    | with_reducible refine w_r1 ?_
    | with_reducible refine w_cons ?_
    | with_reducible refine w_nil ?_
    | with_reducible refine w_tup ?_
    | with_reducible refine w_lst ?_
    | with_reducible refine w_lstM ?_
    | with_reducible refine w_listM ?_
    | with_reducible refine w_if ?_
    | with_reducible refine w_tOf ?_
    | with_reducible refine w_tAnd ?_
    | with_reducible refine w_tOr ?_
    | with_reducible refine w_tNot ?_
    | with_reducible refine w_tYes ?_
    | with_reducible refine w_vAnd ?_
    | with_reducible refine w_vOr ?_
    | with_reducible refine w_vNot ?_
    | with_reducible refine w_chain ?_
    | with_reducible refine w_call ?_
    | with_reducible refine w_cb ?_
    | with_reducible refine w_oNone ?_
    | with_reducible refine w_oSome ?_
    | with_reducible refine w_sl ?_
    | with_reducible refine w_mt ?_
    | with_reducible refine w_fz ?_
    | with_reducible refine w_any ?_
    | with_reducible refine w_rng1 ?_
    | with_reducible refine w_rng2 ?_
    | with_reducible refine w_zip ?_
    | with_reducible refine w_enum ?_
    | with_reducible refine w_lc ?_
    | with_reducible refine w_lcM ?_
    | with_reducible refine lc_nil ?_
    | with_reducible refine go_nil ?_
    | with_reducible refine s_try ?_
    | with_reducible refine tryZ_nx ?_
    | with_reducible refine tryZ_rt ?_
    | with_reducible refine tryZ_bk ?_
    | with_reducible refine tryZ_ct ?_
    | with_reducible refine tryZ_ex (by decide) ?_
    | with_reducible refine w_dct ?_
    | with_reducible refine ⟨_, eqD_ii, ?_⟩
    | with_reducible refine ⟨_, eqD_ss, ?_⟩
    | with_reducible refine ⟨_, neD_ii, ?_⟩
    | with_reducible refine ⟨_, neD_ss, ?_⟩
    | with_reducible refine ⟨_, eqD_bb, ?_⟩
    | with_reducible refine ⟨_, isD_bb, ?_⟩
    | with_reducible refine ⟨_, ltDD_ii, ?_⟩
    | with_reducible refine ⟨_, add_ii, ?_⟩
    | with_reducible refine ⟨_, eqD_tupI, ?_⟩
    | with_reducible refine ⟨_, ltDD_tup, ?_⟩
    | with_reducible refine ⟨_, eqD_strs, ?_⟩
    | with_reducible refine ⟨_, neD_strs, ?_⟩
    | with_reducible refine ⟨_, inD2_str, ?_⟩
    | with_reducible refine ⟨_, neD_nil, ?_⟩
    | with_reducible refine ⟨_, eqD_nil, ?_⟩
    | with_reducible refine ⟨_, eqD_ints, ?_⟩
    | with_reducible refine ⟨_, neD_ints, ?_⟩
    | with_reducible refine ⟨_, ltDD_lst, ?_⟩
    | with_reducible refine ⟨Nat.le_of_ble_eq_true rfl, ?_⟩
    | with_reducible refine ⟨_, rfl, ?_⟩
    | with_reducible refine ⟨_, _, rfl, ?_⟩
    | with_reducible refine ⟨_, _, rfl, (by with_unfolding_all rfl : itemsOf _ = some _), ?_⟩
    | with_reducible refine ⟨_, (by with_unfolding_all rfl : ordD _ _ = some _), ?_⟩
    | with_reducible refine ⟨(by with_unfolding_all rfl : tyStr _ _ = true), ?_⟩
    | with_reducible refine ⟨_, (by with_unfolding_all rfl : negD _ _ = some _), ?_⟩
    | with_reducible refine ⟨_, (by with_unfolding_all rfl : isiD _ _ _ = some _), ?_⟩
    | with_reducible refine ⟨_, (by with_unfolding_all rfl : Tg.set _ _ _ = some _), ?_⟩
    | with_reducible refine ⟨_, _, rfl, ?_⟩
    | (with_reducible refine ⟨fun hb => ?_, fun hb => ?_⟩ <;> (try simp only [decide_eq_true_eq, decide_eq_false_iff_not, Bool.not_eq_true', Bool.not_eq_false', reduceCtorEq] at hb) <;> (try (exfalso; revert hb; decide)))
    | fail
  exact h
/-- the looks of a rule -/
def numOf (fg : List Nat) : Bool := decide (fg ≠ sSigns)
def csOf (cs : List Nat) : List Nat := if cs = sLast then sTogether else cs
abbrev lookD (cs : List Nat) (n : Bool) (br en : List Nat) : D := .tup [.str cs, .int (if n = true then 1 else 0), .str br, .str en]
def looksM (cs fg : List Nat) : List (List Nat × Bool) :=
  [(csOf cs, numOf fg)] ++ (if fg = sStrict then [(csOf cs, false)] else []) ++ (if cs = sLast then [(sMixed, numOf fg)] else [])
end
end G
set_option Elab.async false
set_option linter.all false
set_option maxRecDepth 100000
set_option maxHeartbeats 400000
namespace G
open PySem PySem.Spec L2 L3
noncomputable section
variable {Q : D → Store → Prop} {X : Nat → Store → Prop} {S : Store} {cs fg br en : List Nat} {tn : Int}
def eM (en : List Nat) : Int := if en = sFirst then -1 else 1
/-- the key of a piece -/
def keyP (cs br : List Nat) (p : List Nat) : List Int := match p with
  | [] => []
  | c :: _ => if isDig c = true then [1, (digV p : Int), 0] else rankM cs br c
theorem piece_cases {p : List Nat} (h : Piece p) : ∃ c r, p = c :: r ∧ (isDig c = true → p.all isDig = true) ∧ (isDig c = false → r = []) := by
  rcases h with ⟨h1, h2⟩ | ⟨c, rfl, h⟩
  · cases p with
    | nil => exact absurd rfl h1
    | cons c r =>
      have h3 := h2
      rw [List.all_cons, Bool.and_eq_true] at h3
      exact ⟨c, r, rfl, fun _ => h2, fun e => by rw [h3.1] at e; cases e⟩
  · exact ⟨c, [], rfl, fun e => absurd (h.symm.trans e) (by decide), fun _ => rfl⟩
theorem dig_sign {c : Nat} (h : isDig c = true) : isSign c = true := by simp [isSign, h]
theorem rank_dig {c : Nat} (h : isDig c = true) : rankM cs br c = [1, (c : Int) - 48, 0] := by
  unfold rankM
  rw [if_neg (by intro e; subst e; cases h), if_pos h]
theorem rank_nd {c : Nat} (h : isDig c = false) : ∃ a b d, rankM cs br c = [a, b, d] ∧ a ≠ 1 := by
  unfold rankM
  split
  · refine ⟨_, _, _, rfl, ?_⟩; split <;> decide
  · rw [if_neg (by rw [h]; decide)]
    split <;> exact ⟨_, _, _, rfl, by decide⟩
theorem figs_all {s : List Nat} (h : s ≠ []) (h2 : s.all isDig = true) : figs s = true := by
  have e : s.isEmpty = false := by cases s; exact absurd rfl h; rfl
  unfold figs
  rw [e]
  exact h2
theorem key_nd {c d : Nat} {cr dr : List Nat} (hc : isDig c = false) : cmpL (rankM cs br c) (rankM cs br d) = cmpL (keyP cs br (c :: cr)) (keyP cs br (d :: dr)) := by
  cases hd : isDig d with
  | false => simp [keyP, hc, hd]
  | true =>
    obtain ⟨a, b, e, h1, h2⟩ := rank_nd (cs := cs) (br := br) hc
    simp only [keyP, hc, hd, h1, rank_dig hd, cmpL_cons, if_neg h2]
    simp [h2, cmpL_cons]
theorem key_dn {c d : Nat} {cr dr : List Nat} (hd : isDig d = false) : cmpL (rankM cs br c) (rankM cs br d) = cmpL (keyP cs br (c :: cr)) (keyP cs br (d :: dr)) := by
  rw [TC.ints.sw, TC.ints.sw (keyP cs br (d :: dr)), key_nd hd]
theorem key_dd {c d : Nat} {cr dr : List Nat} (hc : isDig c = true) (hd : isDig d = true) : cmpL (keyP cs br (c :: cr)) (keyP cs br (d :: dr)) = if (digV (c :: cr) : Int) = digV (d :: dr) then 0 else if (digV (c :: cr) : Int) < digV (d :: dr) then -1 else 1 := by
  simp only [keyP, hc, hd, if_true, cmpL_cons, if_true]
  rfl
theorem nfig {c : Nat} (h : ¬ c ∈ sFig) : isDig c = false := by
  rw [mem_fig] at h
  simpa using h
end
end G
set_option Elab.async false
set_option linter.all false
set_option maxRecDepth 100000
set_option maxHeartbeats 400000
namespace G
open PySem PySem.Spec L2 L3
noncomputable section
variable {Q : D → Store → Prop} {X : Nat → Store → Prop} {S : Store} {cs fg br en : List Nat} {tn : Int}
def cmpP (cs br p q : List Nat) : Int := cmpL (keyP cs br p) (keyP cs br q)
def lookM (cs : List Nat) (n : Bool) (br en a b : List Nat) : Int := lexM (cmpP cs br) (eM en) (cutM n a) (cutM n b)
def allM (br en a b : List Nat) : List (List Nat × Bool) → Int
  | [] => 0
  | p :: ls => if lookM p.1 p.2 br en a b = 0 then allM br en a b ls else lookM p.1 p.2 br en a b
def toldM (cs fg br en : List Nat) (tn : Int) (a b : List Nat) : Int := (if tn = 1 then -1 else 1) * allM br en a b (looksM cs fg)
theorem eM_or (en : List Nat) : eM en = 1 ∨ eM en = -1 := by unfold eM; split <;> simp
theorem TC.cmpP (cs br : List Nat) : TC (cmpP cs br) := TC.ints.map _
theorem TC.look (cs : List Nat) (n : Bool) (br en : List Nat) : TC (lookM cs n br en) := ((TC.cmpP cs br).lex (eM_or en)).map _
theorem TC.all (br en : List Nat) : ∀ ls : List (List Nat × Bool), TC fun a b => allM br en a b ls
  | [] => TC.zero
  | p :: ls => (TC.look p.1 p.2 br en).then (TC.all br en ls)
theorem TC.told (cs fg br en : List Nat) (tn : Int) : TC (toldM cs fg br en tn) := (TC.all br en (looksM cs fg)).sgn (by split <;> simp)
/-- a text that the program takes -/
structure TV (s : List Nat) : Prop where
  len : s.length ≤ 40
  all : s.all isSign = true
theorem len_flat {p : List Nat} : ∀ {l : List (List Nat)}, p ∈ l → p.length ≤ l.flatten.length
  | a :: l, h => by
    rw [List.flatten_cons, List.length_append]
    rcases List.mem_cons.mp h with rfl | h
    · omega
    · have := len_flat h; omega
theorem TV.piece {s : List Nat} (h : TV s) (n : Bool) : ∀ p ∈ cutM n s, Piece p ∧ p.all isSign = true ∧ p.length ≤ 640 := fun p hp => by
  obtain ⟨a, b⟩ := cut_pieces n s h.all p hp
  refine ⟨a, b, ?_⟩
  have e := congrArg List.length (cut_join n s)
  have q := len_flat hp
  have := h.len
  omega
theorem zip_nil {xs ys : List (List Nat)} {c : List Nat → List Nat → Int} (h : [] = zipD (xs.map .str) (ys.map .str)) : zipM c xs ys = 0 := by
  cases xs with
  | nil => rfl
  | cons x xs => cases ys with
    | nil => rfl
    | cons y ys => cases h
abbrev looksD (br en : List Nat) (ls : List (List Nat × Bool)) : List D := ls.map fun p => lookD p.1 p.2 br en
end
end G
set_option Elab.async false
set_option linter.all false
set_option maxRecDepth 100000
set_option maxHeartbeats 400000
namespace G
open PySem PySem.Spec L2 L3
noncomputable section
variable {Q : D → Store → Prop} {X : Nat → Store → Prop} {S R : Store} {cs fg br en : List Nat} {tn : Int}
/-- the store with the drawing -/
def DS (R S : Store) : Prop := ∃ (nums : List Int) (c : Int), S = .lst (nums.map .int) :: .lst [.loc 0, .int c] :: R ∧ nums ≠ [] ∧ 0 ≤ c
theorem neD_scr {ns : List Int} : neD S (.scr ns) (.lst []) = some (.bl (!decide (ns = []))) := by
  have e : ∀ ns : List Int, D.pys (ns.map .int) = ns.map PyData.int := by
    intro ns
    induction ns with
    | nil => rfl
    | cons a ns ih => show D.py (.int a) :: D.pys (ns.map .int) = _; rw [ih]; rfl
  have p : (D.scr ns).py = (D.lst (ns.map .int)).py := by
    show PyData.list _ = PyData.list _
    rw [e]
  have q := neD_ints (S := S) (xs := ns) (ys := [])
  unfold neD at q ⊢
  have u : unloc S (.lst (ns.map .int)) = .lst (ns.map .int) := rfl
  have u2 : unloc S (.scr ns) = .scr ns := rfl
  have f : (D.lst (ns.map .int)).flat = (D.scr ns).flat := (pl_flat 1 _ (pl_ints 0 ns)).1
  rw [u] at q
  rw [u2]
  unfold eqPre at q ⊢
  rw [← p, f] at q
  exact q
theorem start_w {ns : List Int} (hl : ns.length ≤ 63) (h : ∀ S', DS [] S' → Q (.loc 1) S') : wp (m__law_start [] [.scr ns]) Q X := by
  unfold m__law_start b__law_start
  with_reducible refine w_fn2 (by simp only [List.map_cons, List.map_nil, List.replicate, List.cons_append, List.nil_append, Nat.reduceSub]; exact rfl) ?_
  repeat' first
    | with_reducible refine ⟨_, neD_scr, ?_⟩
    | refine ⟨_, (rfl : listD _ [.scr _] = some (.lst _)), ?_⟩
    | with_reducible refine w_var _ (by with_unfolding_all rfl) ?_
    | with_reducible refine seqZ_nxs (by simp only [List.set_cons_succ, List.set_cons_zero]; exact rfl) ?_
    | with_reducible refine stepZ_nxs (by simp only [List.set_cons_succ, List.set_cons_zero]; exact rfl) ?_
    | with_reducible refine s_seq ?_
    | with_reducible refine s_set ?_
    | with_reducible refine s_if ?_
    | with_reducible refine s_ret ?_
    | with_reducible refine s_expr ?_
    | with_reducible refine s_next ?_
    | with_reducible refine s_par ?_
    | with_reducible refine s_asg ?_
    | with_reducible refine s_setIx ?_
    | with_reducible refine s_augIx ?_
    | with_reducible refine s_aug ?_
    | with_reducible refine s_for ?_
    | with_reducible refine s_break ?_
    | with_reducible refine s_cont ?_
    | with_reducible refine s_raise ?_
    | with_reducible refine seqZ_nx ?_
    | with_reducible refine seqZ_rt ?_
    | with_reducible refine seqZ_ct ?_
    | with_reducible refine seqZ_bk ?_
    | with_reducible refine seqZ_ex ?_
    | with_reducible refine fnZ_nx ?_
    | with_reducible refine fnZ_rt ?_
    | with_reducible refine fnZ_ex ?_
    | with_reducible refine stepZ_nx ?_
    | with_reducible refine stepZ_rt ?_
    | with_reducible refine stepZ_ct ?_
    | with_reducible refine stepZ_bk ?_
    | with_reducible refine stepZ_ex ?_
    | with_reducible refine w_C ?_
    | with_reducible refine w_r2 ?_
    | with_reducible refine w_r1 ?_
    | with_reducible refine w_cons ?_
    | with_reducible refine w_nil ?_
    | with_reducible refine w_tup ?_
    | with_reducible refine w_lst ?_
    | with_reducible refine w_lstM ?_
    | with_reducible refine w_listM ?_
    | with_reducible refine w_if ?_
    | with_reducible refine w_tOf ?_
    | with_reducible refine w_tAnd ?_
    | with_reducible refine w_tOr ?_
    | with_reducible refine w_tNot ?_
    | with_reducible refine w_tYes ?_
    | with_reducible refine w_vAnd ?_
    | with_reducible refine w_vOr ?_
    | with_reducible refine w_vNot ?_
    | with_reducible refine w_chain ?_
    | with_reducible refine w_call ?_
    | with_reducible refine w_cb ?_
    | with_reducible refine w_oNone ?_
    | with_reducible refine w_oSome ?_
    | with_reducible refine w_sl ?_
    | with_reducible refine w_mt ?_
    | with_reducible refine w_fz ?_
    | with_reducible refine w_any ?_
    | with_reducible refine w_rng1 ?_
    | with_reducible refine w_rng2 ?_
    | with_reducible refine w_zip ?_
    | with_reducible refine w_enum ?_
    | with_reducible refine w_lc ?_
    | with_reducible refine w_lcM ?_
    | with_reducible refine lc_nil ?_
    | with_reducible refine go_nil ?_
    | with_reducible refine s_try ?_
    | with_reducible refine tryZ_nx ?_
    | with_reducible refine tryZ_rt ?_
    | with_reducible refine tryZ_bk ?_
    | with_reducible refine tryZ_ct ?_
    | with_reducible refine tryZ_ex (by decide) ?_
    | with_reducible refine w_dct ?_
    | with_reducible refine ⟨_, eqD_ii, ?_⟩
    | with_reducible refine ⟨_, eqD_ss, ?_⟩
    | with_reducible refine ⟨_, neD_ii, ?_⟩
    | with_reducible refine ⟨_, neD_ss, ?_⟩
    | with_reducible refine ⟨_, eqD_bb, ?_⟩
    | with_reducible refine ⟨_, isD_bb, ?_⟩
    | with_reducible refine ⟨_, ltDD_ii, ?_⟩
    | with_reducible refine ⟨_, add_ii, ?_⟩
    | with_reducible refine ⟨_, eqD_tupI, ?_⟩
    | with_reducible refine ⟨_, ltDD_tup, ?_⟩
    | with_reducible refine ⟨_, eqD_strs, ?_⟩
    | with_reducible refine ⟨_, neD_strs, ?_⟩
    | with_reducible refine ⟨_, inD2_str, ?_⟩
    | with_reducible refine ⟨_, neD_nil, ?_⟩
    | with_reducible refine ⟨_, eqD_nil, ?_⟩
    | with_reducible refine ⟨_, eqD_ints, ?_⟩
    | with_reducible refine ⟨_, neD_ints, ?_⟩
    | with_reducible refine ⟨_, ltDD_lst, ?_⟩
    | with_reducible refine ⟨Nat.le_of_ble_eq_true rfl, ?_⟩
    | with_reducible refine ⟨_, rfl, ?_⟩
    | with_reducible refine ⟨_, _, rfl, ?_⟩
    | with_reducible refine ⟨_, _, rfl, (by with_unfolding_all rfl : itemsOf _ = some _), ?_⟩
    | with_reducible refine ⟨_, (by with_unfolding_all rfl : ordD _ _ = some _), ?_⟩
    | with_reducible refine ⟨(by with_unfolding_all rfl : tyStr _ _ = true), ?_⟩
    | with_reducible refine ⟨_, (by with_unfolding_all rfl : negD _ _ = some _), ?_⟩
    | with_reducible refine ⟨_, (by with_unfolding_all rfl : isiD _ _ _ = some _), ?_⟩
    | with_reducible refine ⟨_, (by with_unfolding_all rfl : Tg.set _ _ _ = some _), ?_⟩
    | with_reducible refine ⟨_, _, rfl, ?_⟩
    | (with_reducible refine ⟨fun hb => ?_, fun hb => ?_⟩ <;> (try simp only [decide_eq_true_eq, decide_eq_false_iff_not, Bool.not_eq_true', Bool.not_eq_false', reduceCtorEq] at hb) <;> (try (exfalso; revert hb; decide)))
    | fail
  · exact h _ ⟨ns, 0, rfl, by simpa using hb, by decide⟩
  · exact h _ ⟨[0], 0, rfl, by simp, by decide⟩
theorem dr_s1 {L : Cell} {c v : D} : setD (L :: .lst [.loc 0, c] :: R) (.loc 1) (.int 1) v = some (L :: .lst [.loc 0, v] :: R) := rfl
theorem dr_g0 {L : Cell} {c : D} : ixD (L :: .lst [.loc 0, c] :: R) (.loc 1) (.int 0) = some (.loc 0) := rfl
theorem dr_g1 {L : Cell} {c : D} : ixD (L :: .lst [.loc 0, c] :: R) (.loc 1) (.int 1) = some c := rfl
theorem draw_w {n : Int} (hS : DS R S) (hn : 0 < n ∧ n < 1073741824) (h : ∀ r S', 0 ≤ r → r < n → DS R S' → Q (.int r) S') : wp (m__law_draw S [.loc 1, .int n]) Q X := by
  obtain ⟨nums, c, rfl, hne, hc⟩ := hS
  have hlen : 0 < (nums.length : Int) := by
    cases nums with
    | nil => exact absurd rfl hne
    | cons => simp <;> omega
  have k1 := Int.emod_nonneg (c + 1) (by omega : (nums.length : Int) ≠ 0)
  have k2 := Int.emod_lt_of_pos (c + 1) hlen
  obtain ⟨k, hk⟩ : ∃ k : Nat, (c + 1) % (nums.length : Int) = (k : Int) := ⟨_, (Int.toNat_of_nonneg k1).symm⟩
  have hk2 : k < nums.length := by omega
  have at1 : ∀ (R' : Store), ixD (.lst (nums.map .int) :: R') (.loc 0) (.int ((c + 1) % (nums.length : Int))) = some (.int nums[k]) := by
    intro R'
    rw [ix_loc (ds := nums.map .int) rfl, hk, L3.atI_nat]
    simp [hk2]
  have st1 : ∀ (R' : Store) (v : Int), setD (.lst (nums.map .int) :: R') (.loc 0) (.int ((c + 1) % (nums.length : Int))) (.int v) = some (.lst ((nums.set k v).map .int) :: R') := by
    intro R' v
    show ((ixN (nums.map D.int).length ((c + 1) % (nums.length : Int))).map fun m => (Cell.lst (nums.map .int) :: R').set 0 (.lst ((nums.map D.int).set m (.int v)))) = _
    rw [hk]
    have e : ixN (nums.map D.int).length (k : Int) = some k := by
      unfold ixN
      rw [if_pos (by omega), if_pos (by simp <;> omega)]
      simp
    rw [e]
    simp [List.map_set]
  have ln : ∀ (R' : Store), lenD (.lst (nums.map .int) :: R') [.loc 0] = some (.int nums.length) := by
    intro R'
    rw [len_loc (s := nums.map .int) rfl]
    simp
  have md : ∀ a b : Int, 0 < b → 0 ≤ a % b ∧ a % b < b := fun a b hb => ⟨Int.emod_nonneg _ (by omega), Int.emod_lt_of_pos _ hb⟩
  have m1 := md (nums[k] + 104729 * (c + 1)) 4294967291 (by decide)
  have m2 := md (((nums[k] + 104729 * (c + 1)) % 4294967291) ^ 5) 4294967279 (by decide)
  have c1 : (0 : Int) < 4294967291 := by decide
  have c2 : (0 : Int) < 4294967279 := by decide
  have c3 : (0 : Int) < 4294967231 := by decide
  have c4 : (0 : Int) < 64 ∧ (64 : Int) < 1073741824 := by decide
  have c5 : (0 : Int) < 8 ∧ (8 : Int) < 1073741824 := by decide
  have c6 : (104729 : Int).natAbs < 2 ^ 64 := by decide
  have c7 : (69621 : Int).natAbs < 2 ^ 64 := by decide
  have c8 : (0 : Int) ≤ 5 ∧ (5 : Int) ≤ 1000 ∧ ((nums[k] + 104729 * (c + 1)) % 4294967291).natAbs < 2 ^ 64 := ⟨by decide, by decide, by omega⟩
  unfold m__law_draw b__law_draw
  with_reducible refine w_fn2 (by simp only [List.map_cons, List.map_nil, List.replicate, List.cons_append, List.nil_append, Nat.reduceSub]; exact rfl) ?_
  repeat' first
    | with_reducible refine ⟨_, ln _, ?_⟩
    | with_reducible refine ⟨_, at1 _, ?_⟩
    | with_reducible refine ⟨_, st1 _ _, ?_⟩
    | with_reducible refine ⟨_, dr_g0, ?_⟩
    | with_reducible refine ⟨_, dr_g1, ?_⟩
    | with_reducible refine ⟨_, dr_s1, ?_⟩
    | with_reducible refine ⟨_, (rfl : geD _ _ _ = some _), ?_⟩
    | with_reducible refine ⟨_, mod_ii hlen, ?_⟩
    | with_reducible refine ⟨_, mod_ii hn.1, ?_⟩
    | with_reducible refine ⟨_, fdiv_ii hn, ?_⟩
    | with_reducible refine ⟨_, mod_ii c1, ?_⟩
    | with_reducible refine ⟨_, mod_ii c2, ?_⟩
    | with_reducible refine ⟨_, mod_ii c3, ?_⟩
    | with_reducible refine ⟨_, fdiv_ii c4, ?_⟩
    | with_reducible refine ⟨_, fdiv_ii c5, ?_⟩
    | with_reducible refine ⟨_, mul_ii (.inl c6), ?_⟩
    | with_reducible refine ⟨_, mul_ii (.inr c7), ?_⟩
    | with_reducible refine ⟨_, pow_ii c8, ?_⟩
    | with_reducible refine w_var _ (by with_unfolding_all rfl) ?_
    | with_reducible refine seqZ_nxs (by simp only [List.set_cons_succ, List.set_cons_zero]; exact rfl) ?_
    | with_reducible refine stepZ_nxs (by simp only [List.set_cons_succ, List.set_cons_zero]; exact rfl) ?_
    | with_reducible refine s_seq ?_
    | with_reducible refine s_set ?_
    | with_reducible refine s_if ?_
    | with_reducible refine s_ret ?_
    | with_reducible refine s_expr ?_
    | with_reducible refine s_next ?_
    | with_reducible refine s_par ?_
    | with_reducible refine s_asg ?_
    | with_reducible refine s_setIx ?_
    | with_reducible refine s_augIx ?_
    | with_reducible refine s_aug ?_
    | with_reducible refine s_for ?_
    | with_reducible refine s_break ?_
    | with_reducible refine s_cont ?_
    | with_reducible refine s_raise ?_
    | with_reducible refine seqZ_nx ?_
    | with_reducible refine seqZ_rt ?_
    | with_reducible refine seqZ_ct ?_
    | with_reducible refine seqZ_bk ?_
    | with_reducible refine seqZ_ex ?_
    | with_reducible refine fnZ_nx ?_
    | with_reducible refine fnZ_rt ?_
    | with_reducible refine fnZ_ex ?_
    | with_reducible refine stepZ_nx ?_
    | with_reducible refine stepZ_rt ?_
    | with_reducible refine stepZ_ct ?_
    | with_reducible refine stepZ_bk ?_
    | with_reducible refine stepZ_ex ?_
    | with_reducible refine w_C ?_
    | with_reducible refine w_r2 ?_
    | with_reducible refine w_r1 ?_
    | with_reducible refine w_cons ?_
    | with_reducible refine w_nil ?_
    | with_reducible refine w_tup ?_
    | with_reducible refine w_lst ?_
    | with_reducible refine w_lstM ?_
    | with_reducible refine w_listM ?_
    | with_reducible refine w_if ?_
    | with_reducible refine w_tOf ?_
    | with_reducible refine w_tAnd ?_
    | with_reducible refine w_tOr ?_
    | with_reducible refine w_tNot ?_
    | with_reducible refine w_tYes ?_
    | with_reducible refine w_vAnd ?_
    | with_reducible refine w_vOr ?_
    | with_reducible refine w_vNot ?_
    | with_reducible refine w_chain ?_
    | with_reducible refine w_call ?_
    | with_reducible refine w_cb ?_
    | with_reducible refine w_oNone ?_
    | with_reducible refine w_oSome ?_
    | with_reducible refine w_sl ?_
    | with_reducible refine w_mt ?_
    | with_reducible refine w_fz ?_
    | with_reducible refine w_any ?_
    | with_reducible refine w_rng1 ?_
    | with_reducible refine w_rng2 ?_
    | with_reducible refine w_zip ?_
    | with_reducible refine w_enum ?_
    | with_reducible refine w_lc ?_
    | with_reducible refine w_lcM ?_
    | with_reducible refine lc_nil ?_
    | with_reducible refine go_nil ?_
    | with_reducible refine s_try ?_
    | with_reducible refine tryZ_nx ?_
    | with_reducible refine tryZ_rt ?_
    | with_reducible refine tryZ_bk ?_
    | with_reducible refine tryZ_ct ?_
    | with_reducible refine tryZ_ex (by decide) ?_
    | with_reducible refine w_dct ?_
    | with_reducible refine ⟨_, eqD_ii, ?_⟩
    | with_reducible refine ⟨_, eqD_ss, ?_⟩
    | with_reducible refine ⟨_, neD_ii, ?_⟩
    | with_reducible refine ⟨_, neD_ss, ?_⟩
    | with_reducible refine ⟨_, eqD_bb, ?_⟩
    | with_reducible refine ⟨_, isD_bb, ?_⟩
    | with_reducible refine ⟨_, ltDD_ii, ?_⟩
    | with_reducible refine ⟨_, add_ii, ?_⟩
    | with_reducible refine ⟨_, eqD_tupI, ?_⟩
    | with_reducible refine ⟨_, ltDD_tup, ?_⟩
    | with_reducible refine ⟨_, eqD_strs, ?_⟩
    | with_reducible refine ⟨_, neD_strs, ?_⟩
    | with_reducible refine ⟨_, inD2_str, ?_⟩
    | with_reducible refine ⟨_, neD_nil, ?_⟩
    | with_reducible refine ⟨_, eqD_nil, ?_⟩
    | with_reducible refine ⟨_, eqD_ints, ?_⟩
    | with_reducible refine ⟨_, neD_ints, ?_⟩
    | with_reducible refine ⟨_, ltDD_lst, ?_⟩
    | with_reducible refine ⟨Nat.le_of_ble_eq_true rfl, ?_⟩
    | with_reducible refine ⟨_, rfl, ?_⟩
    | with_reducible refine ⟨_, _, rfl, ?_⟩
    | with_reducible refine ⟨_, _, rfl, (by with_unfolding_all rfl : itemsOf _ = some _), ?_⟩
    | with_reducible refine ⟨_, (by with_unfolding_all rfl : ordD _ _ = some _), ?_⟩
    | with_reducible refine ⟨(by with_unfolding_all rfl : tyStr _ _ = true), ?_⟩
    | with_reducible refine ⟨_, (by with_unfolding_all rfl : negD _ _ = some _), ?_⟩
    | with_reducible refine ⟨_, (by with_unfolding_all rfl : isiD _ _ _ = some _), ?_⟩
    | with_reducible refine ⟨_, (by with_unfolding_all rfl : Tg.set _ _ _ = some _), ?_⟩
    | with_reducible refine ⟨_, _, rfl, ?_⟩
    | (with_reducible refine ⟨fun hb => ?_, fun hb => ?_⟩ <;> (try simp only [decide_eq_true_eq, decide_eq_false_iff_not, Bool.not_eq_true', Bool.not_eq_false', reduceCtorEq] at hb) <;> (try (exfalso; revert hb; decide)))
    | fail
  · exact h _ _ (md _ _ hn.1).1 (md _ _ hn.1).2 ⟨nums.set k (nums[k] / n), c + 1, rfl, fun e => hne (List.eq_nil_of_length_eq_zero (by have := congrArg List.length e; simpa using this)), by omega⟩
  · exact h _ _ (md _ _ hn.1).1 (md _ _ hn.1).2 ⟨nums, c + 1, rfl, hne, by omega⟩
theorem pick_w {ds : List D} (hS : DS R S) (hd : ds ≠ [] ∧ ds.length ≤ 100000) (h : ∀ d S', d ∈ ds → DS R S' → Q d S') : wp (m__law_pick S [.loc 1, .lst ds]) Q X := by
  have hp : (0 : Int) < (ds.length : Int) ∧ (ds.length : Int) < 1073741824 := by
    obtain ⟨h1, h2⟩ := hd
    cases ds with
    | nil => exact absurd rfl h1
    | cons => simp at h2 ⊢; omega
  unfold m__law_pick b__law_pick
  with_reducible refine w_fn2 (by simp only [List.map_cons, List.map_nil, List.replicate, List.cons_append, List.nil_append, Nat.reduceSub]; exact rfl) ?_
  repeat' first
    | with_reducible refine ⟨_, len_l, ?_⟩
    | (with_reducible refine draw_w hS hp fun r S' r0 r1 hS' => ?_)
    | with_reducible refine w_var _ (by with_unfolding_all rfl) ?_
    | with_reducible refine seqZ_nxs (by simp only [List.set_cons_succ, List.set_cons_zero]; exact rfl) ?_
    | with_reducible refine stepZ_nxs (by simp only [List.set_cons_succ, List.set_cons_zero]; exact rfl) ?_
    | with_reducible refine s_seq ?_
    | with_reducible refine s_set ?_
    | with_reducible refine s_if ?_
    | with_reducible refine s_ret ?_
    | with_reducible refine s_expr ?_
    | with_reducible refine s_next ?_
    | with_reducible refine s_par ?_
    | with_reducible refine s_asg ?_
    | with_reducible refine s_setIx ?_
    | with_reducible refine s_augIx ?_
    | with_reducible refine s_aug ?_
    | with_reducible refine s_for ?_
    | with_reducible refine s_break ?_
    | with_reducible refine s_cont ?_
    | with_reducible refine s_raise ?_
    | with_reducible refine seqZ_nx ?_
    | with_reducible refine seqZ_rt ?_
    | with_reducible refine seqZ_ct ?_
    | with_reducible refine seqZ_bk ?_
    | with_reducible refine seqZ_ex ?_
    | with_reducible refine fnZ_nx ?_
    | with_reducible refine fnZ_rt ?_
    | with_reducible refine fnZ_ex ?_
    | with_reducible refine stepZ_nx ?_
    | with_reducible refine stepZ_rt ?_
    | with_reducible refine stepZ_ct ?_
    | with_reducible refine stepZ_bk ?_
    | with_reducible refine stepZ_ex ?_
    | with_reducible refine w_C ?_
    | with_reducible refine w_r2 ?_
    | with_reducible refine w_r1 ?_
    | with_reducible refine w_cons ?_
    | with_reducible refine w_nil ?_
    | with_reducible refine w_tup ?_
    | with_reducible refine w_lst ?_
    | with_reducible refine w_lstM ?_
    | with_reducible refine w_listM ?_
    | with_reducible refine w_if ?_
    | with_reducible refine w_tOf ?_
    | with_reducible refine w_tAnd ?_
    | with_reducible refine w_tOr ?_
    | with_reducible refine w_tNot ?_
    | with_reducible refine w_tYes ?_
    | with_reducible refine w_vAnd ?_
    | with_reducible refine w_vOr ?_
    | with_reducible refine w_vNot ?_
    | with_reducible refine w_chain ?_
    | with_reducible refine w_call ?_
    | with_reducible refine w_cb ?_
    | with_reducible refine w_oNone ?_
    | with_reducible refine w_oSome ?_
    | with_reducible refine w_sl ?_
    | with_reducible refine w_mt ?_
    | with_reducible refine w_fz ?_
    | with_reducible refine w_any ?_
    | with_reducible refine w_rng1 ?_
    | with_reducible refine w_rng2 ?_
    | with_reducible refine w_zip ?_
    | with_reducible refine w_enum ?_
    | with_reducible refine w_lc ?_
    | with_reducible refine w_lcM ?_
    | with_reducible refine lc_nil ?_
    | with_reducible refine go_nil ?_
    | with_reducible refine s_try ?_
    | with_reducible refine tryZ_nx ?_
    | with_reducible refine tryZ_rt ?_
    | with_reducible refine tryZ_bk ?_
    | with_reducible refine tryZ_ct ?_
    | with_reducible refine tryZ_ex (by decide) ?_
    | with_reducible refine w_dct ?_
    | with_reducible refine ⟨_, eqD_ii, ?_⟩
    | with_reducible refine ⟨_, eqD_ss, ?_⟩
    | with_reducible refine ⟨_, neD_ii, ?_⟩
    | with_reducible refine ⟨_, neD_ss, ?_⟩
    | with_reducible refine ⟨_, eqD_bb, ?_⟩
    | with_reducible refine ⟨_, isD_bb, ?_⟩
    | with_reducible refine ⟨_, ltDD_ii, ?_⟩
    | with_reducible refine ⟨_, add_ii, ?_⟩
    | with_reducible refine ⟨_, eqD_tupI, ?_⟩
    | with_reducible refine ⟨_, ltDD_tup, ?_⟩
    | with_reducible refine ⟨_, eqD_strs, ?_⟩
    | with_reducible refine ⟨_, neD_strs, ?_⟩
    | with_reducible refine ⟨_, inD2_str, ?_⟩
    | with_reducible refine ⟨_, neD_nil, ?_⟩
    | with_reducible refine ⟨_, eqD_nil, ?_⟩
    | with_reducible refine ⟨_, eqD_ints, ?_⟩
    | with_reducible refine ⟨_, neD_ints, ?_⟩
    | with_reducible refine ⟨_, ltDD_lst, ?_⟩
    | with_reducible refine ⟨Nat.le_of_ble_eq_true rfl, ?_⟩
    | with_reducible refine ⟨_, rfl, ?_⟩
    | with_reducible refine ⟨_, _, rfl, ?_⟩
    | with_reducible refine ⟨_, _, rfl, (by with_unfolding_all rfl : itemsOf _ = some _), ?_⟩
    | with_reducible refine ⟨_, (by with_unfolding_all rfl : ordD _ _ = some _), ?_⟩
    | with_reducible refine ⟨(by with_unfolding_all rfl : tyStr _ _ = true), ?_⟩
    | with_reducible refine ⟨_, (by with_unfolding_all rfl : negD _ _ = some _), ?_⟩
    | with_reducible refine ⟨_, (by with_unfolding_all rfl : isiD _ _ _ = some _), ?_⟩
    | with_reducible refine ⟨_, (by with_unfolding_all rfl : Tg.set _ _ _ = some _), ?_⟩
    | with_reducible refine ⟨_, _, rfl, ?_⟩
    | (with_reducible refine ⟨fun hb => ?_, fun hb => ?_⟩ <;> (try simp only [decide_eq_true_eq, decide_eq_false_iff_not, Bool.not_eq_true', Bool.not_eq_false', reduceCtorEq] at hb) <;> (try (exfalso; revert hb; decide)))
    | fail
  obtain ⟨k, rfl⟩ : ∃ k : Nat, r = (k : Int) := ⟨_, (Int.toNat_of_nonneg r0).symm⟩
  have hk : k < ds.length := by omega
  refine ⟨ds[k], ?_, fnZ_rt (h _ _ (List.getElem_mem hk) hS')⟩
  rw [ix_l, L3.atI_nat]
  simp [hk]
theorem words_w (h : Q (.lst [.lst [.str sApart, .str sMixed, .str sTogether, .str sLast], .lst [.str sSigns, .str sNumbers, .str sStrict], .lst [.str sAhead, .str sBehind], .lst [.str sFirst, .str sBehind]]) S) : wp (m__law_words S []) Q X := by
  unfold m__law_words b__law_words
  with_reducible refine w_fn2 (by simp only [List.map_cons, List.map_nil, List.replicate, List.cons_append, List.nil_append, Nat.reduceSub]; exact rfl) ?_
  repeat' first
    | with_reducible refine w_var _ (by with_unfolding_all rfl) ?_
    | with_reducible refine seqZ_nxs (by simp only [List.set_cons_succ, List.set_cons_zero]; exact rfl) ?_
    | with_reducible refine stepZ_nxs (by simp only [List.set_cons_succ, List.set_cons_zero]; exact rfl) ?_
    | with_reducible refine s_seq ?_
    | with_reducible refine s_set ?_
    | with_reducible refine s_if ?_
    | with_reducible refine s_ret ?_
    | with_reducible refine s_expr ?_
    | with_reducible refine s_next ?_
    | with_reducible refine s_par ?_
    | with_reducible refine s_asg ?_
    | with_reducible refine s_setIx ?_
    | with_reducible refine s_augIx ?_
    | with_reducible refine s_aug ?_
    | with_reducible refine s_for ?_
    | with_reducible refine s_break ?_
    | with_reducible refine s_cont ?_
    | with_reducible refine s_raise ?_
    | with_reducible refine seqZ_nx ?_
    | with_reducible refine seqZ_rt ?_
    | with_reducible refine seqZ_ct ?_
    | with_reducible refine seqZ_bk ?_
    | with_reducible refine seqZ_ex ?_
    | with_reducible refine fnZ_nx ?_
    | with_reducible refine fnZ_rt ?_
    | with_reducible refine fnZ_ex ?_
    | with_reducible refine stepZ_nx ?_
    | with_reducible refine stepZ_rt ?_
    | with_reducible refine stepZ_ct ?_
    | with_reducible refine stepZ_bk ?_
    | with_reducible refine stepZ_ex ?_
    | with_reducible refine w_C ?_
    | with_reducible refine w_r2 ?_
    | with_reducible refine w_r1 ?_
    | with_reducible refine w_cons ?_
    | with_reducible refine w_nil ?_
    | with_reducible refine w_tup ?_
    | with_reducible refine w_lst ?_
    | with_reducible refine w_lstM ?_
    | with_reducible refine w_listM ?_
    | with_reducible refine w_if ?_
    | with_reducible refine w_tOf ?_
    | with_reducible refine w_tAnd ?_
    | with_reducible refine w_tOr ?_
    | with_reducible refine w_tNot ?_
    | with_reducible refine w_tYes ?_
    | with_reducible refine w_vAnd ?_
    | with_reducible refine w_vOr ?_
    | with_reducible refine w_vNot ?_
    | with_reducible refine w_chain ?_
    | with_reducible refine w_call ?_
    | with_reducible refine w_cb ?_
    | with_reducible refine w_oNone ?_
    | with_reducible refine w_oSome ?_
    | with_reducible refine w_sl ?_
    | with_reducible refine w_mt ?_
    | with_reducible refine w_fz ?_
    | with_reducible refine w_any ?_
    | with_reducible refine w_rng1 ?_
    | with_reducible refine w_rng2 ?_
    | with_reducible refine w_zip ?_
    | with_reducible refine w_enum ?_
    | with_reducible refine w_lc ?_
    | with_reducible refine w_lcM ?_
    | with_reducible refine lc_nil ?_
    | with_reducible refine go_nil ?_
    | with_reducible refine s_try ?_
    | with_reducible refine tryZ_nx ?_
    | with_reducible refine tryZ_rt ?_
    | with_reducible refine tryZ_bk ?_
    | with_reducible refine tryZ_ct ?_
    | with_reducible refine tryZ_ex (by decide) ?_
    | with_reducible refine w_dct ?_
    | with_reducible refine ⟨_, eqD_ii, ?_⟩
    | with_reducible refine ⟨_, eqD_ss, ?_⟩
    | with_reducible refine ⟨_, neD_ii, ?_⟩
    | with_reducible refine ⟨_, neD_ss, ?_⟩
    | with_reducible refine ⟨_, eqD_bb, ?_⟩
    | with_reducible refine ⟨_, isD_bb, ?_⟩
    | with_reducible refine ⟨_, ltDD_ii, ?_⟩
    | with_reducible refine ⟨_, add_ii, ?_⟩
    | with_reducible refine ⟨_, eqD_tupI, ?_⟩
    | with_reducible refine ⟨_, ltDD_tup, ?_⟩
    | with_reducible refine ⟨_, eqD_strs, ?_⟩
    | with_reducible refine ⟨_, neD_strs, ?_⟩
    | with_reducible refine ⟨_, inD2_str, ?_⟩
    | with_reducible refine ⟨_, neD_nil, ?_⟩
    | with_reducible refine ⟨_, eqD_nil, ?_⟩
    | with_reducible refine ⟨_, eqD_ints, ?_⟩
    | with_reducible refine ⟨_, neD_ints, ?_⟩
    | with_reducible refine ⟨_, ltDD_lst, ?_⟩
    | with_reducible refine ⟨Nat.le_of_ble_eq_true rfl, ?_⟩
    | with_reducible refine ⟨_, rfl, ?_⟩
    | with_reducible refine ⟨_, _, rfl, ?_⟩
    | with_reducible refine ⟨_, _, rfl, (by with_unfolding_all rfl : itemsOf _ = some _), ?_⟩
    | with_reducible refine ⟨_, (by with_unfolding_all rfl : ordD _ _ = some _), ?_⟩
    | with_reducible refine ⟨(by with_unfolding_all rfl : tyStr _ _ = true), ?_⟩
    | with_reducible refine ⟨_, (by with_unfolding_all rfl : negD _ _ = some _), ?_⟩
    | with_reducible refine ⟨_, (by with_unfolding_all rfl : isiD _ _ _ = some _), ?_⟩
    | with_reducible refine ⟨_, (by with_unfolding_all rfl : Tg.set _ _ _ = some _), ?_⟩
    | with_reducible refine ⟨_, _, rfl, ?_⟩
    | (with_reducible refine ⟨fun hb => ?_, fun hb => ?_⟩ <;> (try simp only [decide_eq_true_eq, decide_eq_false_iff_not, Bool.not_eq_true', Bool.not_eq_false', reduceCtorEq] at hb) <;> (try (exfalso; revert hb; decide)))
    | fail
  exact h
theorem rule_w (hS : DS R S) (h : ∀ cs fg br en tn S', RV cs fg br en tn → DS R S' → Q (ruleD cs fg br en tn) S') : wp (m__law_rule S [.loc 1]) Q X := by
  unfold m__law_rule b__law_rule
  with_reducible refine w_fn2 (by simp only [List.map_cons, List.map_nil, List.replicate, List.cons_append, List.nil_append, Nat.reduceSub]; exact rfl) ?_
  repeat' first
    | (with_reducible refine words_w ?_)
    | (with_reducible refine .inl ⟨_, rfl, ?_⟩)
    | with_reducible refine w_var _ (by with_unfolding_all rfl) ?_
    | with_reducible refine seqZ_nxs (by simp only [List.set_cons_succ, List.set_cons_zero]; exact rfl) ?_
    | with_reducible refine stepZ_nxs (by simp only [List.set_cons_succ, List.set_cons_zero]; exact rfl) ?_
    | with_reducible refine s_seq ?_
    | with_reducible refine s_set ?_
    | with_reducible refine s_if ?_
    | with_reducible refine s_ret ?_
    | with_reducible refine s_expr ?_
    | with_reducible refine s_next ?_
    | with_reducible refine s_par ?_
    | with_reducible refine s_asg ?_
    | with_reducible refine s_setIx ?_
    | with_reducible refine s_augIx ?_
    | with_reducible refine s_aug ?_
    | with_reducible refine s_for ?_
    | with_reducible refine s_break ?_
    | with_reducible refine s_cont ?_
    | with_reducible refine s_raise ?_
    | with_reducible refine seqZ_nx ?_
    | with_reducible refine seqZ_rt ?_
    | with_reducible refine seqZ_ct ?_
    | with_reducible refine seqZ_bk ?_
    | with_reducible refine seqZ_ex ?_
    | with_reducible refine fnZ_nx ?_
    | with_reducible refine fnZ_rt ?_
    | with_reducible refine fnZ_ex ?_
    | with_reducible refine stepZ_nx ?_
    | with_reducible refine stepZ_rt ?_
    | with_reducible refine stepZ_ct ?_
    | with_reducible refine stepZ_bk ?_
    | with_reducible refine stepZ_ex ?_
    | with_reducible refine w_C ?_
    | with_reducible refine w_r2 ?_
    | with_reducible refine w_r1 ?_
    | with_reducible refine w_cons ?_
    | with_reducible refine w_nil ?_
    | with_reducible refine w_tup ?_
    | with_reducible refine w_lst ?_
    | with_reducible refine w_lstM ?_
    | with_reducible refine w_listM ?_
    | with_reducible refine w_if ?_
    | with_reducible refine w_tOf ?_
    | with_reducible refine w_tAnd ?_
    | with_reducible refine w_tOr ?_
    | with_reducible refine w_tNot ?_
    | with_reducible refine w_tYes ?_
    | with_reducible refine w_vAnd ?_
    | with_reducible refine w_vOr ?_
    | with_reducible refine w_vNot ?_
    | with_reducible refine w_chain ?_
    | with_reducible refine w_call ?_
    | with_reducible refine w_cb ?_
    | with_reducible refine w_oNone ?_
    | with_reducible refine w_oSome ?_
    | with_reducible refine w_sl ?_
    | with_reducible refine w_mt ?_
    | with_reducible refine w_fz ?_
    | with_reducible refine w_any ?_
    | with_reducible refine w_rng1 ?_
    | with_reducible refine w_rng2 ?_
    | with_reducible refine w_zip ?_
    | with_reducible refine w_enum ?_
    | with_reducible refine w_lc ?_
    | with_reducible refine w_lcM ?_
    | with_reducible refine lc_nil ?_
    | with_reducible refine go_nil ?_
    | with_reducible refine s_try ?_
    | with_reducible refine tryZ_nx ?_
    | with_reducible refine tryZ_rt ?_
    | with_reducible refine tryZ_bk ?_
    | with_reducible refine tryZ_ct ?_
    | with_reducible refine tryZ_ex (by decide) ?_
    | with_reducible refine w_dct ?_
    | with_reducible refine ⟨_, eqD_ii, ?_⟩
    | with_reducible refine ⟨_, eqD_ss, ?_⟩
    | with_reducible refine ⟨_, neD_ii, ?_⟩
    | with_reducible refine ⟨_, neD_ss, ?_⟩
    | with_reducible refine ⟨_, eqD_bb, ?_⟩
    | with_reducible refine ⟨_, isD_bb, ?_⟩
    | with_reducible refine ⟨_, ltDD_ii, ?_⟩
    | with_reducible refine ⟨_, add_ii, ?_⟩
    | with_reducible refine ⟨_, eqD_tupI, ?_⟩
    | with_reducible refine ⟨_, ltDD_tup, ?_⟩
    | with_reducible refine ⟨_, eqD_strs, ?_⟩
    | with_reducible refine ⟨_, neD_strs, ?_⟩
    | with_reducible refine ⟨_, inD2_str, ?_⟩
    | with_reducible refine ⟨_, neD_nil, ?_⟩
    | with_reducible refine ⟨_, eqD_nil, ?_⟩
    | with_reducible refine ⟨_, eqD_ints, ?_⟩
    | with_reducible refine ⟨_, neD_ints, ?_⟩
    | with_reducible refine ⟨_, ltDD_lst, ?_⟩
    | with_reducible refine ⟨Nat.le_of_ble_eq_true rfl, ?_⟩
    | with_reducible refine ⟨_, rfl, ?_⟩
    | with_reducible refine ⟨_, _, rfl, ?_⟩
    | with_reducible refine ⟨_, _, rfl, (by with_unfolding_all rfl : itemsOf _ = some _), ?_⟩
    | with_reducible refine ⟨_, (by with_unfolding_all rfl : ordD _ _ = some _), ?_⟩
    | with_reducible refine ⟨(by with_unfolding_all rfl : tyStr _ _ = true), ?_⟩
    | with_reducible refine ⟨_, (by with_unfolding_all rfl : negD _ _ = some _), ?_⟩
    | with_reducible refine ⟨_, (by with_unfolding_all rfl : isiD _ _ _ = some _), ?_⟩
    | with_reducible refine ⟨_, (by with_unfolding_all rfl : Tg.set _ _ _ = some _), ?_⟩
    | with_reducible refine ⟨_, _, rfl, ?_⟩
    | (with_reducible refine ⟨fun hb => ?_, fun hb => ?_⟩ <;> (try simp only [decide_eq_true_eq, decide_eq_false_iff_not, Bool.not_eq_true', Bool.not_eq_false', reduceCtorEq] at hb) <;> (try (exfalso; revert hb; decide)))
    | fail
  refine lc_cons ⟨_, rfl, ?_⟩
  repeat' first
    | with_reducible refine w_var _ (by with_unfolding_all rfl) ?_
    | with_reducible refine seqZ_nxs (by simp only [List.set_cons_succ, List.set_cons_zero]; exact rfl) ?_
    | with_reducible refine stepZ_nxs (by simp only [List.set_cons_succ, List.set_cons_zero]; exact rfl) ?_
    | with_reducible refine s_seq ?_
    | with_reducible refine s_set ?_
    | with_reducible refine s_if ?_
    | with_reducible refine s_ret ?_
    | with_reducible refine s_expr ?_
    | with_reducible refine s_next ?_
    | with_reducible refine s_par ?_
    | with_reducible refine s_asg ?_
    | with_reducible refine s_setIx ?_
    | with_reducible refine s_augIx ?_
    | with_reducible refine s_aug ?_
    | with_reducible refine s_for ?_
    | with_reducible refine s_break ?_
    | with_reducible refine s_cont ?_
    | with_reducible refine s_raise ?_
    | with_reducible refine seqZ_nx ?_
    | with_reducible refine seqZ_rt ?_
    | with_reducible refine seqZ_ct ?_
    | with_reducible refine seqZ_bk ?_
    | with_reducible refine seqZ_ex ?_
    | with_reducible refine fnZ_nx ?_
    | with_reducible refine fnZ_rt ?_
    | with_reducible refine fnZ_ex ?_
    | with_reducible refine stepZ_nx ?_
    | with_reducible refine stepZ_rt ?_
    | with_reducible refine stepZ_ct ?_
    | with_reducible refine stepZ_bk ?_
    | with_reducible refine stepZ_ex ?_
    | with_reducible refine w_C ?_
    | with_reducible refine w_r2 ?_
    | with_reducible refine w_r1 ?_
    | with_reducible refine w_cons ?_
    | with_reducible refine w_nil ?_
    | with_reducible refine w_tup ?_
    | with_reducible refine w_lst ?_
    | with_reducible refine w_lstM ?_
    | with_reducible refine w_listM ?_
    | with_reducible refine w_if ?_
    | with_reducible refine w_tOf ?_
    | with_reducible refine w_tAnd ?_
    | with_reducible refine w_tOr ?_
    | with_reducible refine w_tNot ?_
    | with_reducible refine w_tYes ?_
    | with_reducible refine w_vAnd ?_
    | with_reducible refine w_vOr ?_
    | with_reducible refine w_vNot ?_
    | with_reducible refine w_chain ?_
    | with_reducible refine w_call ?_
    | with_reducible refine w_cb ?_
    | with_reducible refine w_oNone ?_
    | with_reducible refine w_oSome ?_
    | with_reducible refine w_sl ?_
    | with_reducible refine w_mt ?_
    | with_reducible refine w_fz ?_
    | with_reducible refine w_any ?_
    | with_reducible refine w_rng1 ?_
    | with_reducible refine w_rng2 ?_
    | with_reducible refine w_zip ?_
    | with_reducible refine w_enum ?_
    | with_reducible refine w_lc ?_
    | with_reducible refine w_lcM ?_
    | with_reducible refine lc_nil ?_
    | with_reducible refine go_nil ?_
    | with_reducible refine s_try ?_
    | with_reducible refine tryZ_nx ?_
    | with_reducible refine tryZ_rt ?_
    | with_reducible refine tryZ_bk ?_
    | with_reducible refine tryZ_ct ?_
    | with_reducible refine tryZ_ex (by decide) ?_
    | with_reducible refine w_dct ?_
    | with_reducible refine ⟨_, eqD_ii, ?_⟩
    | with_reducible refine ⟨_, eqD_ss, ?_⟩
    | with_reducible refine ⟨_, neD_ii, ?_⟩
    | with_reducible refine ⟨_, neD_ss, ?_⟩
    | with_reducible refine ⟨_, eqD_bb, ?_⟩
    | with_reducible refine ⟨_, isD_bb, ?_⟩
    | with_reducible refine ⟨_, ltDD_ii, ?_⟩
    | with_reducible refine ⟨_, add_ii, ?_⟩
    | with_reducible refine ⟨_, eqD_tupI, ?_⟩
    | with_reducible refine ⟨_, ltDD_tup, ?_⟩
    | with_reducible refine ⟨_, eqD_strs, ?_⟩
    | with_reducible refine ⟨_, neD_strs, ?_⟩
    | with_reducible refine ⟨_, inD2_str, ?_⟩
    | with_reducible refine ⟨_, neD_nil, ?_⟩
    | with_reducible refine ⟨_, eqD_nil, ?_⟩
    | with_reducible refine ⟨_, eqD_ints, ?_⟩
    | with_reducible refine ⟨_, neD_ints, ?_⟩
    | with_reducible refine ⟨_, ltDD_lst, ?_⟩
    | with_reducible refine ⟨Nat.le_of_ble_eq_true rfl, ?_⟩
    | with_reducible refine ⟨_, rfl, ?_⟩
    | with_reducible refine ⟨_, _, rfl, ?_⟩
    | with_reducible refine ⟨_, _, rfl, (by with_unfolding_all rfl : itemsOf _ = some _), ?_⟩
    | with_reducible refine ⟨_, (by with_unfolding_all rfl : ordD _ _ = some _), ?_⟩
    | with_reducible refine ⟨(by with_unfolding_all rfl : tyStr _ _ = true), ?_⟩
    | with_reducible refine ⟨_, (by with_unfolding_all rfl : negD _ _ = some _), ?_⟩
    | with_reducible refine ⟨_, (by with_unfolding_all rfl : isiD _ _ _ = some _), ?_⟩
    | with_reducible refine ⟨_, (by with_unfolding_all rfl : Tg.set _ _ _ = some _), ?_⟩
    | with_reducible refine ⟨_, _, rfl, ?_⟩
    | (with_reducible refine ⟨fun hb => ?_, fun hb => ?_⟩ <;> (try simp only [decide_eq_true_eq, decide_eq_false_iff_not, Bool.not_eq_true', Bool.not_eq_false', reduceCtorEq] at hb) <;> (try (exfalso; revert hb; decide)))
    | fail
  refine pick_w hS ⟨by simp, by simp⟩ fun d1 S1 m1 hS1 => ?_
  refine lc_cons ⟨_, rfl, ?_⟩
  repeat' first
    | with_reducible refine w_var _ (by with_unfolding_all rfl) ?_
    | with_reducible refine seqZ_nxs (by simp only [List.set_cons_succ, List.set_cons_zero]; exact rfl) ?_
    | with_reducible refine stepZ_nxs (by simp only [List.set_cons_succ, List.set_cons_zero]; exact rfl) ?_
    | with_reducible refine s_seq ?_
    | with_reducible refine s_set ?_
    | with_reducible refine s_if ?_
    | with_reducible refine s_ret ?_
    | with_reducible refine s_expr ?_
    | with_reducible refine s_next ?_
    | with_reducible refine s_par ?_
    | with_reducible refine s_asg ?_
    | with_reducible refine s_setIx ?_
    | with_reducible refine s_augIx ?_
    | with_reducible refine s_aug ?_
    | with_reducible refine s_for ?_
    | with_reducible refine s_break ?_
    | with_reducible refine s_cont ?_
    | with_reducible refine s_raise ?_
    | with_reducible refine seqZ_nx ?_
    | with_reducible refine seqZ_rt ?_
    | with_reducible refine seqZ_ct ?_
    | with_reducible refine seqZ_bk ?_
    | with_reducible refine seqZ_ex ?_
    | with_reducible refine fnZ_nx ?_
    | with_reducible refine fnZ_rt ?_
    | with_reducible refine fnZ_ex ?_
    | with_reducible refine stepZ_nx ?_
    | with_reducible refine stepZ_rt ?_
    | with_reducible refine stepZ_ct ?_
    | with_reducible refine stepZ_bk ?_
    | with_reducible refine stepZ_ex ?_
    | with_reducible refine w_C ?_
    | with_reducible refine w_r2 ?_
    | with_reducible refine w_r1 ?_
    | with_reducible refine w_cons ?_
    | with_reducible refine w_nil ?_
    | with_reducible refine w_tup ?_
    | with_reducible refine w_lst ?_
    | with_reducible refine w_lstM ?_
    | with_reducible refine w_listM ?_
    | with_reducible refine w_if ?_
    | with_reducible refine w_tOf ?_
    | with_reducible refine w_tAnd ?_
    | with_reducible refine w_tOr ?_
    | with_reducible refine w_tNot ?_
    | with_reducible refine w_tYes ?_
    | with_reducible refine w_vAnd ?_
    | with_reducible refine w_vOr ?_
    | with_reducible refine w_vNot ?_
    | with_reducible refine w_chain ?_
    | with_reducible refine w_call ?_
    | with_reducible refine w_cb ?_
    | with_reducible refine w_oNone ?_
    | with_reducible refine w_oSome ?_
    | with_reducible refine w_sl ?_
    | with_reducible refine w_mt ?_
    | with_reducible refine w_fz ?_
    | with_reducible refine w_any ?_
    | with_reducible refine w_rng1 ?_
    | with_reducible refine w_rng2 ?_
    | with_reducible refine w_zip ?_
    | with_reducible refine w_enum ?_
    | with_reducible refine w_lc ?_
    | with_reducible refine w_lcM ?_
    | with_reducible refine lc_nil ?_
    | with_reducible refine go_nil ?_
    | with_reducible refine s_try ?_
    | with_reducible refine tryZ_nx ?_
    | with_reducible refine tryZ_rt ?_
    | with_reducible refine tryZ_bk ?_
    | with_reducible refine tryZ_ct ?_
    | with_reducible refine tryZ_ex (by decide) ?_
    | with_reducible refine w_dct ?_
    | with_reducible refine ⟨_, eqD_ii, ?_⟩
    | with_reducible refine ⟨_, eqD_ss, ?_⟩
    | with_reducible refine ⟨_, neD_ii, ?_⟩
    | with_reducible refine ⟨_, neD_ss, ?_⟩
    | with_reducible refine ⟨_, eqD_bb, ?_⟩
    | with_reducible refine ⟨_, isD_bb, ?_⟩
    | with_reducible refine ⟨_, ltDD_ii, ?_⟩
    | with_reducible refine ⟨_, add_ii, ?_⟩
    | with_reducible refine ⟨_, eqD_tupI, ?_⟩
    | with_reducible refine ⟨_, ltDD_tup, ?_⟩
    | with_reducible refine ⟨_, eqD_strs, ?_⟩
    | with_reducible refine ⟨_, neD_strs, ?_⟩
    | with_reducible refine ⟨_, inD2_str, ?_⟩
    | with_reducible refine ⟨_, neD_nil, ?_⟩
    | with_reducible refine ⟨_, eqD_nil, ?_⟩
    | with_reducible refine ⟨_, eqD_ints, ?_⟩
    | with_reducible refine ⟨_, neD_ints, ?_⟩
    | with_reducible refine ⟨_, ltDD_lst, ?_⟩
    | with_reducible refine ⟨Nat.le_of_ble_eq_true rfl, ?_⟩
    | with_reducible refine ⟨_, rfl, ?_⟩
    | with_reducible refine ⟨_, _, rfl, ?_⟩
    | with_reducible refine ⟨_, _, rfl, (by with_unfolding_all rfl : itemsOf _ = some _), ?_⟩
    | with_reducible refine ⟨_, (by with_unfolding_all rfl : ordD _ _ = some _), ?_⟩
    | with_reducible refine ⟨(by with_unfolding_all rfl : tyStr _ _ = true), ?_⟩
    | with_reducible refine ⟨_, (by with_unfolding_all rfl : negD _ _ = some _), ?_⟩
    | with_reducible refine ⟨_, (by with_unfolding_all rfl : isiD _ _ _ = some _), ?_⟩
    | with_reducible refine ⟨_, (by with_unfolding_all rfl : Tg.set _ _ _ = some _), ?_⟩
    | with_reducible refine ⟨_, _, rfl, ?_⟩
    | (with_reducible refine ⟨fun hb => ?_, fun hb => ?_⟩ <;> (try simp only [decide_eq_true_eq, decide_eq_false_iff_not, Bool.not_eq_true', Bool.not_eq_false', reduceCtorEq] at hb) <;> (try (exfalso; revert hb; decide)))
    | fail
  refine pick_w hS1 ⟨by simp, by simp⟩ fun d2 S2 m2 hS2 => ?_
  refine lc_cons ⟨_, rfl, ?_⟩
  repeat' first
    | with_reducible refine w_var _ (by with_unfolding_all rfl) ?_
    | with_reducible refine seqZ_nxs (by simp only [List.set_cons_succ, List.set_cons_zero]; exact rfl) ?_
    | with_reducible refine stepZ_nxs (by simp only [List.set_cons_succ, List.set_cons_zero]; exact rfl) ?_
    | with_reducible refine s_seq ?_
    | with_reducible refine s_set ?_
    | with_reducible refine s_if ?_
    | with_reducible refine s_ret ?_
    | with_reducible refine s_expr ?_
    | with_reducible refine s_next ?_
    | with_reducible refine s_par ?_
    | with_reducible refine s_asg ?_
    | with_reducible refine s_setIx ?_
    | with_reducible refine s_augIx ?_
    | with_reducible refine s_aug ?_
    | with_reducible refine s_for ?_
    | with_reducible refine s_break ?_
    | with_reducible refine s_cont ?_
    | with_reducible refine s_raise ?_
    | with_reducible refine seqZ_nx ?_
    | with_reducible refine seqZ_rt ?_
    | with_reducible refine seqZ_ct ?_
    | with_reducible refine seqZ_bk ?_
    | with_reducible refine seqZ_ex ?_
    | with_reducible refine fnZ_nx ?_
    | with_reducible refine fnZ_rt ?_
    | with_reducible refine fnZ_ex ?_
    | with_reducible refine stepZ_nx ?_
    | with_reducible refine stepZ_rt ?_
    | with_reducible refine stepZ_ct ?_
    | with_reducible refine stepZ_bk ?_
    | with_reducible refine stepZ_ex ?_
    | with_reducible refine w_C ?_
    | with_reducible refine w_r2 ?_
    | with_reducible refine w_r1 ?_
    | with_reducible refine w_cons ?_
    | with_reducible refine w_nil ?_
    | with_reducible refine w_tup ?_
    | with_reducible refine w_lst ?_
    | with_reducible refine w_lstM ?_
    | with_reducible refine w_listM ?_
    | with_reducible refine w_if ?_
    | with_reducible refine w_tOf ?_
    | with_reducible refine w_tAnd ?_
    | with_reducible refine w_tOr ?_
    | with_reducible refine w_tNot ?_
    | with_reducible refine w_tYes ?_
    | with_reducible refine w_vAnd ?_
    | with_reducible refine w_vOr ?_
    | with_reducible refine w_vNot ?_
    | with_reducible refine w_chain ?_
    | with_reducible refine w_call ?_
    | with_reducible refine w_cb ?_
    | with_reducible refine w_oNone ?_
    | with_reducible refine w_oSome ?_
    | with_reducible refine w_sl ?_
    | with_reducible refine w_mt ?_
    | with_reducible refine w_fz ?_
    | with_reducible refine w_any ?_
    | with_reducible refine w_rng1 ?_
    | with_reducible refine w_rng2 ?_
    | with_reducible refine w_zip ?_
    | with_reducible refine w_enum ?_
    | with_reducible refine w_lc ?_
    | with_reducible refine w_lcM ?_
    | with_reducible refine lc_nil ?_
    | with_reducible refine go_nil ?_
    | with_reducible refine s_try ?_
    | with_reducible refine tryZ_nx ?_
    | with_reducible refine tryZ_rt ?_
    | with_reducible refine tryZ_bk ?_
    | with_reducible refine tryZ_ct ?_
    | with_reducible refine tryZ_ex (by decide) ?_
    | with_reducible refine w_dct ?_
    | with_reducible refine ⟨_, eqD_ii, ?_⟩
    | with_reducible refine ⟨_, eqD_ss, ?_⟩
    | with_reducible refine ⟨_, neD_ii, ?_⟩
    | with_reducible refine ⟨_, neD_ss, ?_⟩
    | with_reducible refine ⟨_, eqD_bb, ?_⟩
    | with_reducible refine ⟨_, isD_bb, ?_⟩
    | with_reducible refine ⟨_, ltDD_ii, ?_⟩
    | with_reducible refine ⟨_, add_ii, ?_⟩
    | with_reducible refine ⟨_, eqD_tupI, ?_⟩
    | with_reducible refine ⟨_, ltDD_tup, ?_⟩
    | with_reducible refine ⟨_, eqD_strs, ?_⟩
    | with_reducible refine ⟨_, neD_strs, ?_⟩
    | with_reducible refine ⟨_, inD2_str, ?_⟩
    | with_reducible refine ⟨_, neD_nil, ?_⟩
    | with_reducible refine ⟨_, eqD_nil, ?_⟩
    | with_reducible refine ⟨_, eqD_ints, ?_⟩
    | with_reducible refine ⟨_, neD_ints, ?_⟩
    | with_reducible refine ⟨_, ltDD_lst, ?_⟩
    | with_reducible refine ⟨Nat.le_of_ble_eq_true rfl, ?_⟩
    | with_reducible refine ⟨_, rfl, ?_⟩
    | with_reducible refine ⟨_, _, rfl, ?_⟩
    | with_reducible refine ⟨_, _, rfl, (by with_unfolding_all rfl : itemsOf _ = some _), ?_⟩
    | with_reducible refine ⟨_, (by with_unfolding_all rfl : ordD _ _ = some _), ?_⟩
    | with_reducible refine ⟨(by with_unfolding_all rfl : tyStr _ _ = true), ?_⟩
    | with_reducible refine ⟨_, (by with_unfolding_all rfl : negD _ _ = some _), ?_⟩
    | with_reducible refine ⟨_, (by with_unfolding_all rfl : isiD _ _ _ = some _), ?_⟩
    | with_reducible refine ⟨_, (by with_unfolding_all rfl : Tg.set _ _ _ = some _), ?_⟩
    | with_reducible refine ⟨_, _, rfl, ?_⟩
    | (with_reducible refine ⟨fun hb => ?_, fun hb => ?_⟩ <;> (try simp only [decide_eq_true_eq, decide_eq_false_iff_not, Bool.not_eq_true', Bool.not_eq_false', reduceCtorEq] at hb) <;> (try (exfalso; revert hb; decide)))
    | fail
  refine pick_w hS2 ⟨by simp, by simp⟩ fun d3 S3 m3 hS3 => ?_
  refine lc_cons ⟨_, rfl, ?_⟩
  repeat' first
    | with_reducible refine w_var _ (by with_unfolding_all rfl) ?_
    | with_reducible refine seqZ_nxs (by simp only [List.set_cons_succ, List.set_cons_zero]; exact rfl) ?_
    | with_reducible refine stepZ_nxs (by simp only [List.set_cons_succ, List.set_cons_zero]; exact rfl) ?_
    | with_reducible refine s_seq ?_
    | with_reducible refine s_set ?_
    | with_reducible refine s_if ?_
    | with_reducible refine s_ret ?_
    | with_reducible refine s_expr ?_
    | with_reducible refine s_next ?_
    | with_reducible refine s_par ?_
    | with_reducible refine s_asg ?_
    | with_reducible refine s_setIx ?_
    | with_reducible refine s_augIx ?_
    | with_reducible refine s_aug ?_
    | with_reducible refine s_for ?_
    | with_reducible refine s_break ?_
    | with_reducible refine s_cont ?_
    | with_reducible refine s_raise ?_
    | with_reducible refine seqZ_nx ?_
    | with_reducible refine seqZ_rt ?_
    | with_reducible refine seqZ_ct ?_
    | with_reducible refine seqZ_bk ?_
    | with_reducible refine seqZ_ex ?_
    | with_reducible refine fnZ_nx ?_
    | with_reducible refine fnZ_rt ?_
    | with_reducible refine fnZ_ex ?_
    | with_reducible refine stepZ_nx ?_
    | with_reducible refine stepZ_rt ?_
    | with_reducible refine stepZ_ct ?_
    | with_reducible refine stepZ_bk ?_
    | with_reducible refine stepZ_ex ?_
    | with_reducible refine w_C ?_
    | with_reducible refine w_r2 ?_
    | with_reducible refine w_r1 ?_
    | with_reducible refine w_cons ?_
    | with_reducible refine w_nil ?_
    | with_reducible refine w_tup ?_
    | with_reducible refine w_lst ?_
    | with_reducible refine w_lstM ?_
    | with_reducible refine w_listM ?_
    | with_reducible refine w_if ?_
    | with_reducible refine w_tOf ?_
    | with_reducible refine w_tAnd ?_
    | with_reducible refine w_tOr ?_
    | with_reducible refine w_tNot ?_
    | with_reducible refine w_tYes ?_
    | with_reducible refine w_vAnd ?_
    | with_reducible refine w_vOr ?_
    | with_reducible refine w_vNot ?_
    | with_reducible refine w_chain ?_
    | with_reducible refine w_call ?_
    | with_reducible refine w_cb ?_
    | with_reducible refine w_oNone ?_
    | with_reducible refine w_oSome ?_
    | with_reducible refine w_sl ?_
    | with_reducible refine w_mt ?_
    | with_reducible refine w_fz ?_
    | with_reducible refine w_any ?_
    | with_reducible refine w_rng1 ?_
    | with_reducible refine w_rng2 ?_
    | with_reducible refine w_zip ?_
    | with_reducible refine w_enum ?_
    | with_reducible refine w_lc ?_
    | with_reducible refine w_lcM ?_
    | with_reducible refine lc_nil ?_
    | with_reducible refine go_nil ?_
    | with_reducible refine s_try ?_
    | with_reducible refine tryZ_nx ?_
    | with_reducible refine tryZ_rt ?_
    | with_reducible refine tryZ_bk ?_
    | with_reducible refine tryZ_ct ?_
    | with_reducible refine tryZ_ex (by decide) ?_
    | with_reducible refine w_dct ?_
    | with_reducible refine ⟨_, eqD_ii, ?_⟩
    | with_reducible refine ⟨_, eqD_ss, ?_⟩
    | with_reducible refine ⟨_, neD_ii, ?_⟩
    | with_reducible refine ⟨_, neD_ss, ?_⟩
    | with_reducible refine ⟨_, eqD_bb, ?_⟩
    | with_reducible refine ⟨_, isD_bb, ?_⟩
    | with_reducible refine ⟨_, ltDD_ii, ?_⟩
    | with_reducible refine ⟨_, add_ii, ?_⟩
    | with_reducible refine ⟨_, eqD_tupI, ?_⟩
    | with_reducible refine ⟨_, ltDD_tup, ?_⟩
    | with_reducible refine ⟨_, eqD_strs, ?_⟩
    | with_reducible refine ⟨_, neD_strs, ?_⟩
    | with_reducible refine ⟨_, inD2_str, ?_⟩
    | with_reducible refine ⟨_, neD_nil, ?_⟩
    | with_reducible refine ⟨_, eqD_nil, ?_⟩
    | with_reducible refine ⟨_, eqD_ints, ?_⟩
    | with_reducible refine ⟨_, neD_ints, ?_⟩
    | with_reducible refine ⟨_, ltDD_lst, ?_⟩
    | with_reducible refine ⟨Nat.le_of_ble_eq_true rfl, ?_⟩
    | with_reducible refine ⟨_, rfl, ?_⟩
    | with_reducible refine ⟨_, _, rfl, ?_⟩
    | with_reducible refine ⟨_, _, rfl, (by with_unfolding_all rfl : itemsOf _ = some _), ?_⟩
    | with_reducible refine ⟨_, (by with_unfolding_all rfl : ordD _ _ = some _), ?_⟩
    | with_reducible refine ⟨(by with_unfolding_all rfl : tyStr _ _ = true), ?_⟩
    | with_reducible refine ⟨_, (by with_unfolding_all rfl : negD _ _ = some _), ?_⟩
    | with_reducible refine ⟨_, (by with_unfolding_all rfl : isiD _ _ _ = some _), ?_⟩
    | with_reducible refine ⟨_, (by with_unfolding_all rfl : Tg.set _ _ _ = some _), ?_⟩
    | with_reducible refine ⟨_, _, rfl, ?_⟩
    | (with_reducible refine ⟨fun hb => ?_, fun hb => ?_⟩ <;> (try simp only [decide_eq_true_eq, decide_eq_false_iff_not, Bool.not_eq_true', Bool.not_eq_false', reduceCtorEq] at hb) <;> (try (exfalso; revert hb; decide)))
    | fail
  refine pick_w hS3 ⟨by simp, by simp⟩ fun d4 S4 m4 hS4 => ?_
  repeat' first
    | refine ⟨_, (rfl : tupleD _ [.lst _] = some _), ?_⟩
    | (with_reducible refine draw_w hS4 (n := 2) (by decide) fun r S' r0 r1 hS' => ?_)
    | refine ⟨_, add_tt (Nat.le_of_ble_eq_true rfl), ?_⟩
    | with_reducible refine w_var _ (by with_unfolding_all rfl) ?_
    | with_reducible refine seqZ_nxs (by simp only [List.set_cons_succ, List.set_cons_zero]; exact rfl) ?_
    | with_reducible refine stepZ_nxs (by simp only [List.set_cons_succ, List.set_cons_zero]; exact rfl) ?_
    | with_reducible refine s_seq ?_
    | with_reducible refine s_set ?_
    | with_reducible refine s_if ?_
    | with_reducible refine s_ret ?_
    | with_reducible refine s_expr ?_
    | with_reducible refine s_next ?_
    | with_reducible refine s_par ?_
    | with_reducible refine s_asg ?_
    | with_reducible refine s_setIx ?_
    | with_reducible refine s_augIx ?_
    | with_reducible refine s_aug ?_
    | with_reducible refine s_for ?_
    | with_reducible refine s_break ?_
    | with_reducible refine s_cont ?_
    | with_reducible refine s_raise ?_
    | with_reducible refine seqZ_nx ?_
    | with_reducible refine seqZ_rt ?_
    | with_reducible refine seqZ_ct ?_
    | with_reducible refine seqZ_bk ?_
    | with_reducible refine seqZ_ex ?_
    | with_reducible refine fnZ_nx ?_
    | with_reducible refine fnZ_rt ?_
    | with_reducible refine fnZ_ex ?_
    | with_reducible refine stepZ_nx ?_
    | with_reducible refine stepZ_rt ?_
    | with_reducible refine stepZ_ct ?_
    | with_reducible refine stepZ_bk ?_
    | with_reducible refine stepZ_ex ?_
    | with_reducible refine w_C ?_
    | with_reducible refine w_r2 ?_
    | with_reducible refine w_r1 ?_
    | with_reducible refine w_cons ?_
    | with_reducible refine w_nil ?_
    | with_reducible refine w_tup ?_
    | with_reducible refine w_lst ?_
    | with_reducible refine w_lstM ?_
    | with_reducible refine w_listM ?_
    | with_reducible refine w_if ?_
    | with_reducible refine w_tOf ?_
    | with_reducible refine w_tAnd ?_
    | with_reducible refine w_tOr ?_
    | with_reducible refine w_tNot ?_
    | with_reducible refine w_tYes ?_
    | with_reducible refine w_vAnd ?_
    | with_reducible refine w_vOr ?_
    | with_reducible refine w_vNot ?_
    | with_reducible refine w_chain ?_
    | with_reducible refine w_call ?_
    | with_reducible refine w_cb ?_
    | with_reducible refine w_oNone ?_
    | with_reducible refine w_oSome ?_
    | with_reducible refine w_sl ?_
    | with_reducible refine w_mt ?_
    | with_reducible refine w_fz ?_
    | with_reducible refine w_any ?_
    | with_reducible refine w_rng1 ?_
    | with_reducible refine w_rng2 ?_
    | with_reducible refine w_zip ?_
    | with_reducible refine w_enum ?_
    | with_reducible refine w_lc ?_
    | with_reducible refine w_lcM ?_
    | with_reducible refine lc_nil ?_
    | with_reducible refine go_nil ?_
    | with_reducible refine s_try ?_
    | with_reducible refine tryZ_nx ?_
    | with_reducible refine tryZ_rt ?_
    | with_reducible refine tryZ_bk ?_
    | with_reducible refine tryZ_ct ?_
    | with_reducible refine tryZ_ex (by decide) ?_
    | with_reducible refine w_dct ?_
    | with_reducible refine ⟨_, eqD_ii, ?_⟩
    | with_reducible refine ⟨_, eqD_ss, ?_⟩
    | with_reducible refine ⟨_, neD_ii, ?_⟩
    | with_reducible refine ⟨_, neD_ss, ?_⟩
    | with_reducible refine ⟨_, eqD_bb, ?_⟩
    | with_reducible refine ⟨_, isD_bb, ?_⟩
    | with_reducible refine ⟨_, ltDD_ii, ?_⟩
    | with_reducible refine ⟨_, add_ii, ?_⟩
    | with_reducible refine ⟨_, eqD_tupI, ?_⟩
    | with_reducible refine ⟨_, ltDD_tup, ?_⟩
    | with_reducible refine ⟨_, eqD_strs, ?_⟩
    | with_reducible refine ⟨_, neD_strs, ?_⟩
    | with_reducible refine ⟨_, inD2_str, ?_⟩
    | with_reducible refine ⟨_, neD_nil, ?_⟩
    | with_reducible refine ⟨_, eqD_nil, ?_⟩
    | with_reducible refine ⟨_, eqD_ints, ?_⟩
    | with_reducible refine ⟨_, neD_ints, ?_⟩
    | with_reducible refine ⟨_, ltDD_lst, ?_⟩
    | with_reducible refine ⟨Nat.le_of_ble_eq_true rfl, ?_⟩
    | with_reducible refine ⟨_, rfl, ?_⟩
    | with_reducible refine ⟨_, _, rfl, ?_⟩
    | with_reducible refine ⟨_, _, rfl, (by with_unfolding_all rfl : itemsOf _ = some _), ?_⟩
    | with_reducible refine ⟨_, (by with_unfolding_all rfl : ordD _ _ = some _), ?_⟩
    | with_reducible refine ⟨(by with_unfolding_all rfl : tyStr _ _ = true), ?_⟩
    | with_reducible refine ⟨_, (by with_unfolding_all rfl : negD _ _ = some _), ?_⟩
    | with_reducible refine ⟨_, (by with_unfolding_all rfl : isiD _ _ _ = some _), ?_⟩
    | with_reducible refine ⟨_, (by with_unfolding_all rfl : Tg.set _ _ _ = some _), ?_⟩
    | with_reducible refine ⟨_, _, rfl, ?_⟩
    | (with_reducible refine ⟨fun hb => ?_, fun hb => ?_⟩ <;> (try simp only [decide_eq_true_eq, decide_eq_false_iff_not, Bool.not_eq_true', Bool.not_eq_false', reduceCtorEq] at hb) <;> (try (exfalso; revert hb; decide)))
    | fail
  have cut : ∀ (ws : List (List Nat)) (d : D), d ∈ ws.map D.str → ∃ w, w ∈ ws ∧ d = .str w := fun ws d hd => by
    obtain ⟨w, a, b⟩ := List.mem_map.mp hd
    exact ⟨w, a, b.symm⟩
  obtain ⟨cs, c1, rfl⟩ := cut [sApart, sMixed, sTogether, sLast] d1 m1
  obtain ⟨fg, c2, rfl⟩ := cut [sSigns, sNumbers, sStrict] d2 m2
  obtain ⟨br, c3, rfl⟩ := cut [sAhead, sBehind] d3 m3
  obtain ⟨en, c4, rfl⟩ := cut [sFirst, sBehind] d4 m4
  exact h cs fg br en r S' ⟨c1, c2, c3, c4, by omega⟩ hS'
theorem ix_sign {al : List Nat} {r : Int} (hl : al.length ≤ 100000) (h0 : 0 ≤ r) (h1 : r < al.length) : ∃ c, c ∈ al ∧ ∀ S, ixD S (.str al) (.int r) = some (.str [c]) := by
  obtain ⟨k, rfl⟩ : ∃ k : Nat, r = (k : Int) := ⟨_, (Int.toNat_of_nonneg h0).symm⟩
  have hk : k < al.length := by omega
  refine ⟨al[k], List.getElem_mem hk, fun S => ?_⟩
  rw [ix_s hl, L3.atI_nat]
  simp [hk]
theorem ints_cons (lo : Int) (n : Nat) : L3.intsFrom lo (n + 1) = .int lo :: L3.intsFrom (lo + 1) n := by
  unfold L3.intsFrom
  rw [List.range_succ_eq_map]
  simp only [List.map_cons, List.map_map]
  congr 1
  · simp
  · refine List.map_congr_left fun k _ => ?_
    simp only [Function.comp]
    congr 1
    omega
theorem listA_s {s : List Nat} (h : s.length ≤ 100000) : listA S [.str s] = some (.lst (s.map fun c => .str [c])) := by
  show (listD S [.str s]).or (listSD S [.str s]) = _
  have e : listSD S [.str s] = some (.lst (s.map fun c => .str [c])) := if_pos h
  rw [e]; rfl
theorem sl_both {s : List Nat} (h : s.length ≤ 100000) (i j : Nat) : slD S (.str s) (some (i : Int)) (some (j : Int)) = some (.str ((s.drop (min i s.length)).take (min j s.length - min i s.length))) := by
  show (if s.length ≤ 100000 then some (D.str ((s.drop (HT.sIx s.length 0 (some (i : Int)))).take (HT.sIx s.length s.length (some (j : Int)) - HT.sIx s.length 0 (some (i : Int))))) else none) = _
  rw [if_pos h, HT.sIx_nat, HT.sIx_nat]
theorem sl_lo {s : List Nat} (h : s.length ≤ 100000) (j : Nat) : slD S (.str s) none (some (j : Int)) = some (.str (s.take j)) := by
  show (if s.length ≤ 100000 then some (D.str ((s.drop (HT.sIx s.length 0 none)).take (HT.sIx s.length s.length (some (j : Int)) - HT.sIx s.length 0 none))) else none) = _
  rw [if_pos h, HT.sIx_nat, HT.sIx_none, Nat.sub_zero, List.drop_zero]
  congr 2
  rw [List.take_eq_take_iff]
  omega
theorem sl_hi {s : List Nat} (h : s.length ≤ 100000) (i : Nat) : slD S (.str s) (some (i : Int)) none = some (.str (s.drop i)) := by
  show (if s.length ≤ 100000 then some (D.str ((s.drop (HT.sIx s.length 0 (some (i : Int)))).take (HT.sIx s.length s.length none - HT.sIx s.length 0 (some (i : Int))))) else none) = _
  rw [if_pos h, HT.sIx_nat, HT.sIx_none]
  congr 2
  by_cases e : i ≤ s.length
  · rw [Nat.min_eq_left e, List.take_of_length_le]
    simp
  · rw [Nat.min_eq_right (by omega), List.drop_eq_nil_of_le (Nat.le_refl _), List.drop_eq_nil_of_le (by omega)]
    simp
theorem sl_hi1 {s : List Nat} (h : s.length ≤ 100000) (i : Nat) : slD S (.str s) (some ((i : Int) + 1)) none = some (.str (s.drop (i + 1))) := sl_hi h (i + 1)
def cellM (s : List Nat) (i : Nat) : List Nat := (s.drop (min i s.length)).take (min (i + 1) s.length - min i s.length)
theorem sl_b1 {s : List Nat} (h : s.length ≤ 100000) (i : Nat) : slD S (.str s) (some (i : Int)) (some ((i : Int) + 1)) = some (.str (cellM s i)) := sl_both h i (i + 1)
theorem up_sign : ∀ c, c < 128 → isSign c = true → isSign (upA c) = true ∧ isSign (loA c) = true := by decide +kernel
theorem all_take {s : List Nat} (h : s.all isSign = true) (k : Nat) : (s.take k).all isSign = true := by
  rw [List.all_eq_true] at *
  exact fun x hx => h x (List.mem_of_mem_take hx)
theorem all_drop {s : List Nat} (h : s.all isSign = true) (k : Nat) : (s.drop k).all isSign = true := by
  rw [List.all_eq_true] at *
  exact fun x hx => h x (List.mem_of_mem_drop hx)
theorem all_asc {s : List Nat} (h : s.all isSign = true) : asc s = true := by
  unfold asc
  rw [List.all_eq_true] at *
  exact fun x hx => by simpa using sign_lt (h x hx)
theorem all_map {s : List Nat} (h : s.all isSign = true) : (s.map upA).all isSign = true ∧ (s.map loA).all isSign = true := by
  rw [List.all_eq_true] at h
  rw [List.all_map, List.all_map, List.all_eq_true, List.all_eq_true]
  exact ⟨fun x hx => (up_sign x (sign_lt (h x hx)) (h x hx)).1, fun x hx => (up_sign x (sign_lt (h x hx)) (h x hx)).2⟩
theorem draw_kw {n : Int} (hS : DS R S) (hn : 0 < n ∧ n < 1073741824) (h : ∀ (k : Nat) S', (k : Int) < n → DS R S' → Q (.int (k : Int)) S') : wp (m__law_draw S [.loc 1, .int n]) Q X :=
  draw_w hS hn fun r S' r0 r1 hS' => by
    obtain ⟨k, rfl⟩ : ∃ k : Nat, r = (k : Int) := ⟨_, (Int.toNat_of_nonneg r0).symm⟩
    exact h k S' r1 hS'
end
end G
set_option Elab.async false
set_option linter.all false
set_option maxRecDepth 100000
set_option maxHeartbeats 1000000
namespace G
open PySem PySem.Spec L2 L3
noncomputable section
variable {Q : D → Store → Prop} {X : Nat → Store → Prop} {S R : Store} {cs fg br en : List Nat} {tn : Int}
theorem DS.app {T : Store} (h : DS R S) : DS (R ++ T) (S ++ T) := by
  obtain ⟨nums, c, rfl, h1, h2⟩ := h
  exact ⟨nums, c, rfl, h1, h2⟩
theorem dsx_app {S T : Store} (h : ∃ R, DS R S) : ∃ R, DS R (S ++ T) := h.elim fun R h => ⟨_, DS.app h⟩
/-- texts and small numbers -/
def isItem : D → Bool
  | .str _ => true
  | .int i => decide (i = 0 ∨ i = 1)
  | _ => false
def strV : D → List Nat
  | .str s => s
  | .int i => if i = 0 then [48] else [49]
  | _ => []
theorem str_item {d : D} (h : isItem d = true) : strD S [d] = some (.str (strV d)) := by
  cases d with
  | str s => rfl
  | int i =>
    have h := of_decide_eq_true h
    rcases h with rfl | rfl <;> rfl
  | _ => cases h
def itemD (w : List Nat) : D := if w = [48] then .int 0 else if w = [49] then .int 1 else .str w
theorem item_ok (w : List Nat) : isItem (itemD w) = true ∧ strV (itemD w) = w := by
  unfold itemD
  by_cases h : w = [48]
  · subst h; exact ⟨rfl, rfl⟩
  · rw [if_neg h]
    by_cases h2 : w = [49]
    · subst h2; exact ⟨rfl, rfl⟩
    · rw [if_neg h2]; exact ⟨rfl, rfl⟩
theorem item_in_w {w : List Nat} (h : Q (itemD w) S) : wp (m_item_in S [.str w]) Q X := by
  have q : ∀ S, inD2 S (.str w) (.tup [.str [48], .str [49]]) = some (.bl (decide (w ∈ [[48], [49]]))) := fun S => by
    have e := inD2_tup (S := S) (x := .str w) (ds := [[48], [49]].map .str) (pl_str 0 _) (by rw [List.all_map, List.all_eq_true]; exact fun x _ => pl_str 0 x)
    refine e.trans ?_
    simp
  unfold m_item_in b_item_in
  with_reducible refine w_fn2 (by simp only [List.map_cons, List.map_nil, List.replicate, List.cons_append, List.nil_append, Nat.reduceSub]; exact rfl) ?_
  repeat' first
    | with_reducible refine ⟨_, q _, ?_⟩
    | with_reducible refine w_var _ (by with_unfolding_all rfl) ?_
    | with_reducible refine seqZ_nxs (by simp only [List.set_cons_succ, List.set_cons_zero]; exact rfl) ?_
    | with_reducible refine stepZ_nxs (by simp only [List.set_cons_succ, List.set_cons_zero]; exact rfl) ?_
    | with_reducible refine s_seq ?_
    | with_reducible refine s_set ?_
    | with_reducible refine s_if ?_
    | with_reducible refine s_ret ?_
    | with_reducible refine s_expr ?_
    | with_reducible refine s_next ?_
    | with_reducible refine s_par ?_
    | with_reducible refine s_asg ?_
    | with_reducible refine s_setIx ?_
    | with_reducible refine s_augIx ?_
    | with_reducible refine s_aug ?_
    | with_reducible refine s_for ?_
    | with_reducible refine s_break ?_
    | with_reducible refine s_cont ?_
    | with_reducible refine s_raise ?_
    | with_reducible refine seqZ_nx ?_
    | with_reducible refine seqZ_rt ?_
    | with_reducible refine seqZ_ct ?_
    | with_reducible refine seqZ_bk ?_
    | with_reducible refine seqZ_ex ?_
    | with_reducible refine fnZ_nx ?_
    | with_reducible refine fnZ_rt ?_
    | with_reducible refine fnZ_ex ?_
    | with_reducible refine stepZ_nx ?_
    | with_reducible refine stepZ_rt ?_
    | with_reducible refine stepZ_ct ?_
    | with_reducible refine stepZ_bk ?_
    | with_reducible refine stepZ_ex ?_
    | with_reducible refine w_C ?_
    | with_reducible refine w_r2 ?_
    | with_reducible refine w_r1 ?_
    | with_reducible refine w_cons ?_
    | with_reducible refine w_nil ?_
    | with_reducible refine w_tup ?_
    | with_reducible refine w_lst ?_
    | with_reducible refine w_lstM ?_
    | with_reducible refine w_listM ?_
    | with_reducible refine w_if ?_
    | with_reducible refine w_tOf ?_
    | with_reducible refine w_tAnd ?_
    | with_reducible refine w_tOr ?_
    | with_reducible refine w_tNot ?_
    | with_reducible refine w_tYes ?_
    | with_reducible refine w_vAnd ?_
    | with_reducible refine w_vOr ?_
    | with_reducible refine w_vNot ?_
    | with_reducible refine w_chain ?_
    | with_reducible refine w_call ?_
    | with_reducible refine w_cb ?_
    | with_reducible refine w_oNone ?_
    | with_reducible refine w_oSome ?_
    | with_reducible refine w_sl ?_
    | with_reducible refine w_mt ?_
    | with_reducible refine w_fz ?_
    | with_reducible refine w_any ?_
    | with_reducible refine w_rng1 ?_
    | with_reducible refine w_rng2 ?_
    | with_reducible refine w_zip ?_
    | with_reducible refine w_enum ?_
    | with_reducible refine w_lc ?_
    | with_reducible refine w_lcM ?_
    | with_reducible refine lc_nil ?_
    | with_reducible refine go_nil ?_
    | with_reducible refine s_try ?_
    | with_reducible refine tryZ_nx ?_
    | with_reducible refine tryZ_rt ?_
    | with_reducible refine tryZ_bk ?_
    | with_reducible refine tryZ_ct ?_
    | with_reducible refine tryZ_ex (by decide) ?_
    | with_reducible refine w_dct ?_
    | with_reducible refine ⟨_, eqD_ii, ?_⟩
    | with_reducible refine ⟨_, eqD_ss, ?_⟩
    | with_reducible refine ⟨_, neD_ii, ?_⟩
    | with_reducible refine ⟨_, neD_ss, ?_⟩
    | with_reducible refine ⟨_, eqD_bb, ?_⟩
    | with_reducible refine ⟨_, isD_bb, ?_⟩
    | with_reducible refine ⟨_, ltDD_ii, ?_⟩
    | with_reducible refine ⟨_, add_ii, ?_⟩
    | with_reducible refine ⟨_, eqD_tupI, ?_⟩
    | with_reducible refine ⟨_, ltDD_tup, ?_⟩
    | with_reducible refine ⟨_, eqD_strs, ?_⟩
    | with_reducible refine ⟨_, neD_strs, ?_⟩
    | with_reducible refine ⟨_, inD2_str, ?_⟩
    | with_reducible refine ⟨_, neD_nil, ?_⟩
    | with_reducible refine ⟨_, eqD_nil, ?_⟩
    | with_reducible refine ⟨_, eqD_ints, ?_⟩
    | with_reducible refine ⟨_, neD_ints, ?_⟩
    | with_reducible refine ⟨_, ltDD_lst, ?_⟩
    | with_reducible refine ⟨Nat.le_of_ble_eq_true rfl, ?_⟩
    | with_reducible refine ⟨_, rfl, ?_⟩
    | with_reducible refine ⟨_, _, rfl, ?_⟩
    | with_reducible refine ⟨_, _, rfl, (by with_unfolding_all rfl : itemsOf _ = some _), ?_⟩
    | with_reducible refine ⟨_, (by with_unfolding_all rfl : ordD _ _ = some _), ?_⟩
    | with_reducible refine ⟨(by with_unfolding_all rfl : tyStr _ _ = true), ?_⟩
    | with_reducible refine ⟨_, (by with_unfolding_all rfl : negD _ _ = some _), ?_⟩
    | with_reducible refine ⟨_, (by with_unfolding_all rfl : isiD _ _ _ = some _), ?_⟩
    | with_reducible refine ⟨_, (by with_unfolding_all rfl : Tg.set _ _ _ = some _), ?_⟩
    | with_reducible refine ⟨_, _, rfl, ?_⟩
    | (with_reducible refine ⟨fun hb => ?_, fun hb => ?_⟩ <;> (try simp only [decide_eq_true_eq, decide_eq_false_iff_not, Bool.not_eq_true', Bool.not_eq_false', reduceCtorEq] at hb) <;> (try (exfalso; revert hb; decide)))
    | fail
  · simp at hb
    rcases hb with rfl | rfl
    · exact ⟨_, int_s ⟨rfl, by decide⟩, h⟩
    · exact ⟨_, int_s ⟨rfl, by decide⟩, h⟩
  · simp at hb
    have e : itemD w = .str w := by unfold itemD; rw [if_neg hb.1, if_neg hb.2]
    rw [e] at h
    exact h
def wordB (d : D) (ws : List (List Nat)) : Bool := match d with
  | .str s => decide (s ∈ ws)
  | _ => false
def intB (d : D) : Bool := match d with
  | .int i => decide (0 ≤ i ∧ i ≤ 1)
  | _ => false
theorem is_word_any {d : D} {ws : List (List Nat)} (hd : isItem d = true) (h : ∀ b, b = .bl (wordB d ws) → Q b S) : wp (m_is_word S [d, .tup (ws.map .str)]) Q X := by
  cases d with
  | str s => exact is_word_w fun _ hd => h _ hd
  | int i =>
    unfold m_is_word b_is_word
    with_reducible refine w_fn2 (by simp only [List.map_cons, List.map_nil, List.replicate, List.cons_append, List.nil_append, Nat.reduceSub]; exact rfl) ?_
    repeat' first
      | with_reducible refine w_var _ (by with_unfolding_all rfl) ?_
      | with_reducible refine seqZ_nxs (by simp only [List.set_cons_succ, List.set_cons_zero]; exact rfl) ?_
      | with_reducible refine stepZ_nxs (by simp only [List.set_cons_succ, List.set_cons_zero]; exact rfl) ?_
      | with_reducible refine s_seq ?_
      | with_reducible refine s_set ?_
      | with_reducible refine s_if ?_
      | with_reducible refine s_ret ?_
      | with_reducible refine s_expr ?_
      | with_reducible refine s_next ?_
      | with_reducible refine s_par ?_
      | with_reducible refine s_asg ?_
      | with_reducible refine s_setIx ?_
      | with_reducible refine s_augIx ?_
      | with_reducible refine s_aug ?_
      | with_reducible refine s_for ?_
      | with_reducible refine s_break ?_
      | with_reducible refine s_cont ?_
      | with_reducible refine s_raise ?_
      | with_reducible refine seqZ_nx ?_
      | with_reducible refine seqZ_rt ?_
      | with_reducible refine seqZ_ct ?_
      | with_reducible refine seqZ_bk ?_
      | with_reducible refine seqZ_ex ?_
      | with_reducible refine fnZ_nx ?_
      | with_reducible refine fnZ_rt ?_
      | with_reducible refine fnZ_ex ?_
      | with_reducible refine stepZ_nx ?_
      | with_reducible refine stepZ_rt ?_
      | with_reducible refine stepZ_ct ?_
      | with_reducible refine stepZ_bk ?_
      | with_reducible refine stepZ_ex ?_
      | with_reducible refine w_C ?_
      | with_reducible refine w_r2 ?_
      | with_reducible refine w_r1 ?_
      | with_reducible refine w_cons ?_
      | with_reducible refine w_nil ?_
      | with_reducible refine w_tup ?_
      | with_reducible refine w_lst ?_
      | with_reducible refine w_lstM ?_
      | with_reducible refine w_listM ?_
      | with_reducible refine w_if ?_
      | with_reducible refine w_tOf ?_
      | with_reducible refine w_tAnd ?_
      | with_reducible refine w_tOr ?_
      | with_reducible refine w_tNot ?_
      | with_reducible refine w_tYes ?_
      | with_reducible refine w_vAnd ?_
      | with_reducible refine w_vOr ?_
      | with_reducible refine w_vNot ?_
      | with_reducible refine w_chain ?_
      | with_reducible refine w_call ?_
      | with_reducible refine w_cb ?_
      | with_reducible refine w_oNone ?_
      | with_reducible refine w_oSome ?_
      | with_reducible refine w_sl ?_
      | with_reducible refine w_mt ?_
      | with_reducible refine w_fz ?_
      | with_reducible refine w_any ?_
      | with_reducible refine w_rng1 ?_
      | with_reducible refine w_rng2 ?_
      | with_reducible refine w_zip ?_
      | with_reducible refine w_enum ?_
      | with_reducible refine w_lc ?_
      | with_reducible refine w_lcM ?_
      | with_reducible refine lc_nil ?_
      | with_reducible refine go_nil ?_
      | with_reducible refine s_try ?_
      | with_reducible refine tryZ_nx ?_
      | with_reducible refine tryZ_rt ?_
      | with_reducible refine tryZ_bk ?_
      | with_reducible refine tryZ_ct ?_
      | with_reducible refine tryZ_ex (by decide) ?_
      | with_reducible refine w_dct ?_
      | with_reducible refine ⟨_, eqD_ii, ?_⟩
      | with_reducible refine ⟨_, eqD_ss, ?_⟩
      | with_reducible refine ⟨_, neD_ii, ?_⟩
      | with_reducible refine ⟨_, neD_ss, ?_⟩
      | with_reducible refine ⟨_, eqD_bb, ?_⟩
      | with_reducible refine ⟨_, isD_bb, ?_⟩
      | with_reducible refine ⟨_, ltDD_ii, ?_⟩
      | with_reducible refine ⟨_, add_ii, ?_⟩
      | with_reducible refine ⟨_, eqD_tupI, ?_⟩
      | with_reducible refine ⟨_, ltDD_tup, ?_⟩
      | with_reducible refine ⟨_, eqD_strs, ?_⟩
      | with_reducible refine ⟨_, neD_strs, ?_⟩
      | with_reducible refine ⟨_, inD2_str, ?_⟩
      | with_reducible refine ⟨_, neD_nil, ?_⟩
      | with_reducible refine ⟨_, eqD_nil, ?_⟩
      | with_reducible refine ⟨_, eqD_ints, ?_⟩
      | with_reducible refine ⟨_, neD_ints, ?_⟩
      | with_reducible refine ⟨_, ltDD_lst, ?_⟩
      | with_reducible refine ⟨Nat.le_of_ble_eq_true rfl, ?_⟩
      | with_reducible refine ⟨_, rfl, ?_⟩
      | with_reducible refine ⟨_, _, rfl, ?_⟩
      | with_reducible refine ⟨_, _, rfl, (by with_unfolding_all rfl : itemsOf _ = some _), ?_⟩
      | with_reducible refine ⟨_, (by with_unfolding_all rfl : ordD _ _ = some _), ?_⟩
      | with_reducible refine ⟨(by with_unfolding_all rfl : tyStr _ _ = true), ?_⟩
      | with_reducible refine ⟨_, (by with_unfolding_all rfl : negD _ _ = some _), ?_⟩
      | with_reducible refine ⟨_, (by with_unfolding_all rfl : isiD _ _ _ = some _), ?_⟩
      | with_reducible refine ⟨_, (by with_unfolding_all rfl : Tg.set _ _ _ = some _), ?_⟩
      | with_reducible refine ⟨_, _, rfl, ?_⟩
      | (with_reducible refine ⟨fun hb => ?_, fun hb => ?_⟩ <;> (try simp only [decide_eq_true_eq, decide_eq_false_iff_not, Bool.not_eq_true', Bool.not_eq_false', reduceCtorEq] at hb) <;> (try (exfalso; revert hb; decide)))
      | fail
    exact h _ rfl
  | _ => cases hd
theorem is_int_any {d : D} (hd : isItem d = true) (h : ∀ b, b = .bl (intB d) → Q b S) : wp (m_is_int S [d, .int 0, .int 1]) Q X := by
  cases d with
  | int i => exact is_int_w fun _ hd => h _ hd
  | str s =>
    unfold m_is_int b_is_int
    with_reducible refine w_fn2 (by simp only [List.map_cons, List.map_nil, List.replicate, List.cons_append, List.nil_append, Nat.reduceSub]; exact rfl) ?_
    repeat' first
      | with_reducible refine w_var _ (by with_unfolding_all rfl) ?_
      | with_reducible refine seqZ_nxs (by simp only [List.set_cons_succ, List.set_cons_zero]; exact rfl) ?_
      | with_reducible refine stepZ_nxs (by simp only [List.set_cons_succ, List.set_cons_zero]; exact rfl) ?_
      | with_reducible refine s_seq ?_
      | with_reducible refine s_set ?_
      | with_reducible refine s_if ?_
      | with_reducible refine s_ret ?_
      | with_reducible refine s_expr ?_
      | with_reducible refine s_next ?_
      | with_reducible refine s_par ?_
      | with_reducible refine s_asg ?_
      | with_reducible refine s_setIx ?_
      | with_reducible refine s_augIx ?_
      | with_reducible refine s_aug ?_
      | with_reducible refine s_for ?_
      | with_reducible refine s_break ?_
      | with_reducible refine s_cont ?_
      | with_reducible refine s_raise ?_
      | with_reducible refine seqZ_nx ?_
      | with_reducible refine seqZ_rt ?_
      | with_reducible refine seqZ_ct ?_
      | with_reducible refine seqZ_bk ?_
      | with_reducible refine seqZ_ex ?_
      | with_reducible refine fnZ_nx ?_
      | with_reducible refine fnZ_rt ?_
      | with_reducible refine fnZ_ex ?_
      | with_reducible refine stepZ_nx ?_
      | with_reducible refine stepZ_rt ?_
      | with_reducible refine stepZ_ct ?_
      | with_reducible refine stepZ_bk ?_
      | with_reducible refine stepZ_ex ?_
      | with_reducible refine w_C ?_
      | with_reducible refine w_r2 ?_
      | with_reducible refine w_r1 ?_
      | with_reducible refine w_cons ?_
      | with_reducible refine w_nil ?_
      | with_reducible refine w_tup ?_
      | with_reducible refine w_lst ?_
      | with_reducible refine w_lstM ?_
      | with_reducible refine w_listM ?_
      | with_reducible refine w_if ?_
      | with_reducible refine w_tOf ?_
      | with_reducible refine w_tAnd ?_
      | with_reducible refine w_tOr ?_
      | with_reducible refine w_tNot ?_
      | with_reducible refine w_tYes ?_
      | with_reducible refine w_vAnd ?_
      | with_reducible refine w_vOr ?_
      | with_reducible refine w_vNot ?_
      | with_reducible refine w_chain ?_
      | with_reducible refine w_call ?_
      | with_reducible refine w_cb ?_
      | with_reducible refine w_oNone ?_
      | with_reducible refine w_oSome ?_
      | with_reducible refine w_sl ?_
      | with_reducible refine w_mt ?_
      | with_reducible refine w_fz ?_
      | with_reducible refine w_any ?_
      | with_reducible refine w_rng1 ?_
      | with_reducible refine w_rng2 ?_
      | with_reducible refine w_zip ?_
      | with_reducible refine w_enum ?_
      | with_reducible refine w_lc ?_
      | with_reducible refine w_lcM ?_
      | with_reducible refine lc_nil ?_
      | with_reducible refine go_nil ?_
      | with_reducible refine s_try ?_
      | with_reducible refine tryZ_nx ?_
      | with_reducible refine tryZ_rt ?_
      | with_reducible refine tryZ_bk ?_
      | with_reducible refine tryZ_ct ?_
      | with_reducible refine tryZ_ex (by decide) ?_
      | with_reducible refine w_dct ?_
      | with_reducible refine ⟨_, eqD_ii, ?_⟩
      | with_reducible refine ⟨_, eqD_ss, ?_⟩
      | with_reducible refine ⟨_, neD_ii, ?_⟩
      | with_reducible refine ⟨_, neD_ss, ?_⟩
      | with_reducible refine ⟨_, eqD_bb, ?_⟩
      | with_reducible refine ⟨_, isD_bb, ?_⟩
      | with_reducible refine ⟨_, ltDD_ii, ?_⟩
      | with_reducible refine ⟨_, add_ii, ?_⟩
      | with_reducible refine ⟨_, eqD_tupI, ?_⟩
      | with_reducible refine ⟨_, ltDD_tup, ?_⟩
      | with_reducible refine ⟨_, eqD_strs, ?_⟩
      | with_reducible refine ⟨_, neD_strs, ?_⟩
      | with_reducible refine ⟨_, inD2_str, ?_⟩
      | with_reducible refine ⟨_, neD_nil, ?_⟩
      | with_reducible refine ⟨_, eqD_nil, ?_⟩
      | with_reducible refine ⟨_, eqD_ints, ?_⟩
      | with_reducible refine ⟨_, neD_ints, ?_⟩
      | with_reducible refine ⟨_, ltDD_lst, ?_⟩
      | with_reducible refine ⟨Nat.le_of_ble_eq_true rfl, ?_⟩
      | with_reducible refine ⟨_, rfl, ?_⟩
      | with_reducible refine ⟨_, _, rfl, ?_⟩
      | with_reducible refine ⟨_, _, rfl, (by with_unfolding_all rfl : itemsOf _ = some _), ?_⟩
      | with_reducible refine ⟨_, (by with_unfolding_all rfl : ordD _ _ = some _), ?_⟩
      | with_reducible refine ⟨(by with_unfolding_all rfl : tyStr _ _ = true), ?_⟩
      | with_reducible refine ⟨_, (by with_unfolding_all rfl : negD _ _ = some _), ?_⟩
      | with_reducible refine ⟨_, (by with_unfolding_all rfl : isiD _ _ _ = some _), ?_⟩
      | with_reducible refine ⟨_, (by with_unfolding_all rfl : Tg.set _ _ _ = some _), ?_⟩
      | with_reducible refine ⟨_, _, rfl, ?_⟩
      | (with_reducible refine ⟨fun hb => ?_, fun hb => ?_⟩ <;> (try simp only [decide_eq_true_eq, decide_eq_false_iff_not, Bool.not_eq_true', Bool.not_eq_false', reduceCtorEq] at hb) <;> (try (exfalso; revert hb; decide)))
      | fail
    exact h _ rfl
  | _ => cases hd
def isRB (ds : List D) : Bool := match ds with
  | [a, b, c, d, e] => wordB a [sApart, sMixed, sTogether, sLast] && (wordB b [sSigns, sNumbers, sStrict] && (wordB c [sAhead, sBehind] && (wordB d [sFirst, sBehind] && intB e)))
  | _ => false
theorem is_rule_any {ds : List D} (hd : ∀ d ∈ ds, isItem d = true) (h : ∀ b, b = .bl (isRB ds) → Q b S) : wp (m_is_rule S [.tup ds]) Q X := by
  unfold m_is_rule b_is_rule
  with_reducible refine w_fn2 (by simp only [List.map_cons, List.map_nil, List.replicate, List.cons_append, List.nil_append, Nat.reduceSub]; exact rfl) ?_
  by_cases e : ds.length = 5
  · match ds, e with
    | [a, b, c, d, e], _ =>
      have ia := hd a (by simp)
      have ib := hd b (by simp)
      have ic := hd c (by simp)
      have id2 := hd d (by simp)
      have ie := hd e (by simp)
      repeat' first
        | (with_reducible refine ⟨_, len_t, ?_⟩)
        | ((with_reducible refine is_word_any ia fun _ hq => ?_) ; subst hq)
        | ((with_reducible refine is_word_any ib fun _ hq => ?_) ; subst hq)
        | ((with_reducible refine is_word_any ic fun _ hq => ?_) ; subst hq)
        | ((with_reducible refine is_word_any id2 fun _ hq => ?_) ; subst hq)
        | ((with_reducible refine is_int_any ie fun _ hq => ?_) ; subst hq)
        | with_reducible refine w_var _ (by with_unfolding_all rfl) ?_
        | with_reducible refine seqZ_nxs (by simp only [List.set_cons_succ, List.set_cons_zero]; exact rfl) ?_
        | with_reducible refine stepZ_nxs (by simp only [List.set_cons_succ, List.set_cons_zero]; exact rfl) ?_
        | with_reducible refine s_seq ?_
        | with_reducible refine s_set ?_
        | with_reducible refine s_if ?_
        | with_reducible refine s_ret ?_
        | with_reducible refine s_expr ?_
        | with_reducible refine s_next ?_
        | with_reducible refine s_par ?_
        | with_reducible refine s_asg ?_
        | with_reducible refine s_setIx ?_
        | with_reducible refine s_augIx ?_
        | with_reducible refine s_aug ?_
        | with_reducible refine s_for ?_
        | with_reducible refine s_break ?_
        | with_reducible refine s_cont ?_
        | with_reducible refine s_raise ?_
        | with_reducible refine seqZ_nx ?_
        | with_reducible refine seqZ_rt ?_
        | with_reducible refine seqZ_ct ?_
        | with_reducible refine seqZ_bk ?_
        | with_reducible refine seqZ_ex ?_
        | with_reducible refine fnZ_nx ?_
        | with_reducible refine fnZ_rt ?_
        | with_reducible refine fnZ_ex ?_
        | with_reducible refine stepZ_nx ?_
        | with_reducible refine stepZ_rt ?_
        | with_reducible refine stepZ_ct ?_
        | with_reducible refine stepZ_bk ?_
        | with_reducible refine stepZ_ex ?_
        | with_reducible refine w_C ?_
        | with_reducible refine w_r2 ?_
        | with_reducible refine w_r1 ?_
        | with_reducible refine w_cons ?_
        | with_reducible refine w_nil ?_
        | with_reducible refine w_tup ?_
        | with_reducible refine w_lst ?_
        | with_reducible refine w_lstM ?_
        | with_reducible refine w_listM ?_
        | with_reducible refine w_if ?_
        | with_reducible refine w_tOf ?_
        | with_reducible refine w_tAnd ?_
        | with_reducible refine w_tOr ?_
        | with_reducible refine w_tNot ?_
        | with_reducible refine w_tYes ?_
        | with_reducible refine w_vAnd ?_
        | with_reducible refine w_vOr ?_
        | with_reducible refine w_vNot ?_
        | with_reducible refine w_chain ?_
        | with_reducible refine w_call ?_
        | with_reducible refine w_cb ?_
        | with_reducible refine w_oNone ?_
        | with_reducible refine w_oSome ?_
        | with_reducible refine w_sl ?_
        | with_reducible refine w_mt ?_
        | with_reducible refine w_fz ?_
        | with_reducible refine w_any ?_
        | with_reducible refine w_rng1 ?_
        | with_reducible refine w_rng2 ?_
        | with_reducible refine w_zip ?_
        | with_reducible refine w_enum ?_
        | with_reducible refine w_lc ?_
        | with_reducible refine w_lcM ?_
        | with_reducible refine lc_nil ?_
        | with_reducible refine go_nil ?_
        | with_reducible refine s_try ?_
        | with_reducible refine tryZ_nx ?_
        | with_reducible refine tryZ_rt ?_
        | with_reducible refine tryZ_bk ?_
        | with_reducible refine tryZ_ct ?_
        | with_reducible refine tryZ_ex (by decide) ?_
        | with_reducible refine w_dct ?_
        | with_reducible refine ⟨_, eqD_ii, ?_⟩
        | with_reducible refine ⟨_, eqD_ss, ?_⟩
        | with_reducible refine ⟨_, neD_ii, ?_⟩
        | with_reducible refine ⟨_, neD_ss, ?_⟩
        | with_reducible refine ⟨_, eqD_bb, ?_⟩
        | with_reducible refine ⟨_, isD_bb, ?_⟩
        | with_reducible refine ⟨_, ltDD_ii, ?_⟩
        | with_reducible refine ⟨_, add_ii, ?_⟩
        | with_reducible refine ⟨_, eqD_tupI, ?_⟩
        | with_reducible refine ⟨_, ltDD_tup, ?_⟩
        | with_reducible refine ⟨_, eqD_strs, ?_⟩
        | with_reducible refine ⟨_, neD_strs, ?_⟩
        | with_reducible refine ⟨_, inD2_str, ?_⟩
        | with_reducible refine ⟨_, neD_nil, ?_⟩
        | with_reducible refine ⟨_, eqD_nil, ?_⟩
        | with_reducible refine ⟨_, eqD_ints, ?_⟩
        | with_reducible refine ⟨_, neD_ints, ?_⟩
        | with_reducible refine ⟨_, ltDD_lst, ?_⟩
        | with_reducible refine ⟨Nat.le_of_ble_eq_true rfl, ?_⟩
        | with_reducible refine ⟨_, rfl, ?_⟩
        | with_reducible refine ⟨_, _, rfl, ?_⟩
        | with_reducible refine ⟨_, _, rfl, (by with_unfolding_all rfl : itemsOf _ = some _), ?_⟩
        | with_reducible refine ⟨_, (by with_unfolding_all rfl : ordD _ _ = some _), ?_⟩
        | with_reducible refine ⟨(by with_unfolding_all rfl : tyStr _ _ = true), ?_⟩
        | with_reducible refine ⟨_, (by with_unfolding_all rfl : negD _ _ = some _), ?_⟩
        | with_reducible refine ⟨_, (by with_unfolding_all rfl : isiD _ _ _ = some _), ?_⟩
        | with_reducible refine ⟨_, (by with_unfolding_all rfl : Tg.set _ _ _ = some _), ?_⟩
        | with_reducible refine ⟨_, _, rfl, ?_⟩
        | (with_reducible refine ⟨fun hb => ?_, fun hb => ?_⟩ <;> (try simp only [decide_eq_true_eq, decide_eq_false_iff_not, Bool.not_eq_true', Bool.not_eq_false', reduceCtorEq] at hb) <;> (try (exfalso; revert hb; decide)))
        | fail
      all_goals first | (exfalso; exact hb rfl) | skip
      all_goals refine h _ ?_
      all_goals simp_all [isRB]
  · have e2 : ¬ ((ds.length : Int) = 5) := by omega
    have r : isRB ds = false := by
      unfold isRB
      split
      · exact absurd rfl e
      · rfl
    rw [r] at h
    repeat' first
      | (with_reducible refine ⟨_, len_t, ?_⟩)
      | with_reducible refine w_var _ (by with_unfolding_all rfl) ?_
      | with_reducible refine seqZ_nxs (by simp only [List.set_cons_succ, List.set_cons_zero]; exact rfl) ?_
      | with_reducible refine stepZ_nxs (by simp only [List.set_cons_succ, List.set_cons_zero]; exact rfl) ?_
      | with_reducible refine s_seq ?_
      | with_reducible refine s_set ?_
      | with_reducible refine s_if ?_
      | with_reducible refine s_ret ?_
      | with_reducible refine s_expr ?_
      | with_reducible refine s_next ?_
      | with_reducible refine s_par ?_
      | with_reducible refine s_asg ?_
      | with_reducible refine s_setIx ?_
      | with_reducible refine s_augIx ?_
      | with_reducible refine s_aug ?_
      | with_reducible refine s_for ?_
      | with_reducible refine s_break ?_
      | with_reducible refine s_cont ?_
      | with_reducible refine s_raise ?_
      | with_reducible refine seqZ_nx ?_
      | with_reducible refine seqZ_rt ?_
      | with_reducible refine seqZ_ct ?_
      | with_reducible refine seqZ_bk ?_
      | with_reducible refine seqZ_ex ?_
      | with_reducible refine fnZ_nx ?_
      | with_reducible refine fnZ_rt ?_
      | with_reducible refine fnZ_ex ?_
      | with_reducible refine stepZ_nx ?_
      | with_reducible refine stepZ_rt ?_
      | with_reducible refine stepZ_ct ?_
      | with_reducible refine stepZ_bk ?_
      | with_reducible refine stepZ_ex ?_
      | with_reducible refine w_C ?_
      | with_reducible refine w_r2 ?_
      | with_reducible refine w_r1 ?_
      | with_reducible refine w_cons ?_
      | with_reducible refine w_nil ?_
      | with_reducible refine w_tup ?_
      | with_reducible refine w_lst ?_
      | with_reducible refine w_lstM ?_
      | with_reducible refine w_listM ?_
      | with_reducible refine w_if ?_
      | with_reducible refine w_tOf ?_
      | with_reducible refine w_tAnd ?_
      | with_reducible refine w_tOr ?_
      | with_reducible refine w_tNot ?_
      | with_reducible refine w_tYes ?_
      | with_reducible refine w_vAnd ?_
      | with_reducible refine w_vOr ?_
      | with_reducible refine w_vNot ?_
      | with_reducible refine w_chain ?_
      | with_reducible refine w_call ?_
      | with_reducible refine w_cb ?_
      | with_reducible refine w_oNone ?_
      | with_reducible refine w_oSome ?_
      | with_reducible refine w_sl ?_
      | with_reducible refine w_mt ?_
      | with_reducible refine w_fz ?_
      | with_reducible refine w_any ?_
      | with_reducible refine w_rng1 ?_
      | with_reducible refine w_rng2 ?_
      | with_reducible refine w_zip ?_
      | with_reducible refine w_enum ?_
      | with_reducible refine w_lc ?_
      | with_reducible refine w_lcM ?_
      | with_reducible refine lc_nil ?_
      | with_reducible refine go_nil ?_
      | with_reducible refine s_try ?_
      | with_reducible refine tryZ_nx ?_
      | with_reducible refine tryZ_rt ?_
      | with_reducible refine tryZ_bk ?_
      | with_reducible refine tryZ_ct ?_
      | with_reducible refine tryZ_ex (by decide) ?_
      | with_reducible refine w_dct ?_
      | with_reducible refine ⟨_, eqD_ii, ?_⟩
      | with_reducible refine ⟨_, eqD_ss, ?_⟩
      | with_reducible refine ⟨_, neD_ii, ?_⟩
      | with_reducible refine ⟨_, neD_ss, ?_⟩
      | with_reducible refine ⟨_, eqD_bb, ?_⟩
      | with_reducible refine ⟨_, isD_bb, ?_⟩
      | with_reducible refine ⟨_, ltDD_ii, ?_⟩
      | with_reducible refine ⟨_, add_ii, ?_⟩
      | with_reducible refine ⟨_, eqD_tupI, ?_⟩
      | with_reducible refine ⟨_, ltDD_tup, ?_⟩
      | with_reducible refine ⟨_, eqD_strs, ?_⟩
      | with_reducible refine ⟨_, neD_strs, ?_⟩
      | with_reducible refine ⟨_, inD2_str, ?_⟩
      | with_reducible refine ⟨_, neD_nil, ?_⟩
      | with_reducible refine ⟨_, eqD_nil, ?_⟩
      | with_reducible refine ⟨_, eqD_ints, ?_⟩
      | with_reducible refine ⟨_, neD_ints, ?_⟩
      | with_reducible refine ⟨_, ltDD_lst, ?_⟩
      | with_reducible refine ⟨Nat.le_of_ble_eq_true rfl, ?_⟩
      | with_reducible refine ⟨_, rfl, ?_⟩
      | with_reducible refine ⟨_, _, rfl, ?_⟩
      | with_reducible refine ⟨_, _, rfl, (by with_unfolding_all rfl : itemsOf _ = some _), ?_⟩
      | with_reducible refine ⟨_, (by with_unfolding_all rfl : ordD _ _ = some _), ?_⟩
      | with_reducible refine ⟨(by with_unfolding_all rfl : tyStr _ _ = true), ?_⟩
      | with_reducible refine ⟨_, (by with_unfolding_all rfl : negD _ _ = some _), ?_⟩
      | with_reducible refine ⟨_, (by with_unfolding_all rfl : isiD _ _ _ = some _), ?_⟩
      | with_reducible refine ⟨_, (by with_unfolding_all rfl : Tg.set _ _ _ = some _), ?_⟩
      | with_reducible refine ⟨_, _, rfl, ?_⟩
      | (with_reducible refine ⟨fun hb => ?_, fun hb => ?_⟩ <;> (try simp only [decide_eq_true_eq, decide_eq_false_iff_not, Bool.not_eq_true', Bool.not_eq_false', reduceCtorEq] at hb) <;> (try (exfalso; revert hb; decide)))
      | fail
    · exact h _ rfl
    · exact absurd hb e2
theorem isRB_true {ds : List D} (h : isRB ds = true) : ∃ cs fg br en tn, RV cs fg br en tn ∧ ds = [.str cs, .str fg, .str br, .str en, .int tn] := by
  have wd : ∀ {d : D} {ws : List (List Nat)}, wordB d ws = true → ∃ s, d = .str s ∧ s ∈ ws := fun {d ws} h => by
    cases d with
    | str s => exact ⟨s, rfl, of_decide_eq_true h⟩
    | _ => cases h
  have it : ∀ {d : D}, intB d = true → ∃ i, d = .int i ∧ 0 ≤ i ∧ i ≤ 1 := fun {d} h => by
    cases d with
    | int i => exact ⟨i, rfl, of_decide_eq_true h⟩
    | _ => cases h
  unfold isRB at h
  split at h
  · simp only [Bool.and_eq_true] at h
    obtain ⟨h1, h2, h3, h4, h5⟩ := h
    obtain ⟨cs, rfl, k1⟩ := wd h1
    obtain ⟨fg, rfl, k2⟩ := wd h2
    obtain ⟨br, rfl, k3⟩ := wd h3
    obtain ⟨en, rfl, k4⟩ := wd h4
    obtain ⟨i, rfl, k5⟩ := it h5
    exact ⟨cs, fg, br, en, i, ⟨k1, k2, k3, k4, by omega⟩, rfl⟩
  · cases h
/-! parsing -/
def itemsM (t : List Nat) : List D := (splitM t [32]).map itemD
theorem items_ok (t : List Nat) : ∀ d ∈ itemsM t, isItem d = true := fun d hd => by
  obtain ⟨w, _, rfl⟩ := List.mem_map.mp hd
  exact (item_ok w).1
theorem items_str (t : List Nat) : (itemsM t).map strV = splitM t [32] := by
  unfold itemsM
  rw [List.map_map]
  have e : strV ∘ itemD = id := by funext w; exact (item_ok w).2
  rw [e, List.map_id]
theorem split_len (t : List Nat) : (splitM t [32]).length ≤ t.length + 2 := by
  unfold splitM
  rw [List.length_map]
  have := PyProof.Rows.split_le (tx t) (tx [32])
  rwa [tx_len] at this
/-- what is parsed, if it is -/
def parseM (t : List Nat) : Option (List D) := if isRB (itemsM t) = true then some (itemsM t) else none
theorem parse_w {t : List Nat} (hl : t.length ≤ 90000) (h1 : ∀ ds, parseM t = some ds → Q (.tup ds) S) (h2 : parseM t = none → X 2 S) : wp (m_parse_rule S [.str t]) Q X := by
  have sp : splitD S (.str t) [.str [32]] = some (.lst ((splitM t [32]).map .str), S) := if_pos hl
  unfold m_parse_rule b_parse_rule
  with_reducible refine w_fn2 (by simp only [List.map_cons, List.map_nil, List.replicate, List.cons_append, List.nil_append, Nat.reduceSub]; exact rfl) ?_
  repeat' first
    | (with_reducible refine ⟨_, _, sp, ?_⟩)
    | with_reducible refine w_var _ (by with_unfolding_all rfl) ?_
    | with_reducible refine seqZ_nxs (by simp only [List.set_cons_succ, List.set_cons_zero]; exact rfl) ?_
    | with_reducible refine stepZ_nxs (by simp only [List.set_cons_succ, List.set_cons_zero]; exact rfl) ?_
    | with_reducible refine s_seq ?_
    | with_reducible refine s_set ?_
    | with_reducible refine s_if ?_
    | with_reducible refine s_ret ?_
    | with_reducible refine s_expr ?_
    | with_reducible refine s_next ?_
    | with_reducible refine s_par ?_
    | with_reducible refine s_asg ?_
    | with_reducible refine s_setIx ?_
    | with_reducible refine s_augIx ?_
    | with_reducible refine s_aug ?_
    | with_reducible refine s_for ?_
    | with_reducible refine s_break ?_
    | with_reducible refine s_cont ?_
    | with_reducible refine s_raise ?_
    | with_reducible refine seqZ_nx ?_
    | with_reducible refine seqZ_rt ?_
    | with_reducible refine seqZ_ct ?_
    | with_reducible refine seqZ_bk ?_
    | with_reducible refine seqZ_ex ?_
    | with_reducible refine fnZ_nx ?_
    | with_reducible refine fnZ_rt ?_
    | with_reducible refine fnZ_ex ?_
    | with_reducible refine stepZ_nx ?_
    | with_reducible refine stepZ_rt ?_
    | with_reducible refine stepZ_ct ?_
    | with_reducible refine stepZ_bk ?_
    | with_reducible refine stepZ_ex ?_
    | with_reducible refine w_C ?_
    | with_reducible refine w_r2 ?_
    | with_reducible refine w_r1 ?_
    | with_reducible refine w_cons ?_
    | with_reducible refine w_nil ?_
    | with_reducible refine w_tup ?_
    | with_reducible refine w_lst ?_
    | with_reducible refine w_lstM ?_
    | with_reducible refine w_listM ?_
    | with_reducible refine w_if ?_
    | with_reducible refine w_tOf ?_
    | with_reducible refine w_tAnd ?_
    | with_reducible refine w_tOr ?_
    | with_reducible refine w_tNot ?_
    | with_reducible refine w_tYes ?_
    | with_reducible refine w_vAnd ?_
    | with_reducible refine w_vOr ?_
    | with_reducible refine w_vNot ?_
    | with_reducible refine w_chain ?_
    | with_reducible refine w_call ?_
    | with_reducible refine w_cb ?_
    | with_reducible refine w_oNone ?_
    | with_reducible refine w_oSome ?_
    | with_reducible refine w_sl ?_
    | with_reducible refine w_mt ?_
    | with_reducible refine w_fz ?_
    | with_reducible refine w_any ?_
    | with_reducible refine w_rng1 ?_
    | with_reducible refine w_rng2 ?_
    | with_reducible refine w_zip ?_
    | with_reducible refine w_enum ?_
    | with_reducible refine w_lc ?_
    | with_reducible refine w_lcM ?_
    | with_reducible refine lc_nil ?_
    | with_reducible refine go_nil ?_
    | with_reducible refine s_try ?_
    | with_reducible refine tryZ_nx ?_
    | with_reducible refine tryZ_rt ?_
    | with_reducible refine tryZ_bk ?_
    | with_reducible refine tryZ_ct ?_
    | with_reducible refine tryZ_ex (by decide) ?_
    | with_reducible refine w_dct ?_
    | with_reducible refine ⟨_, eqD_ii, ?_⟩
    | with_reducible refine ⟨_, eqD_ss, ?_⟩
    | with_reducible refine ⟨_, neD_ii, ?_⟩
    | with_reducible refine ⟨_, neD_ss, ?_⟩
    | with_reducible refine ⟨_, eqD_bb, ?_⟩
    | with_reducible refine ⟨_, isD_bb, ?_⟩
    | with_reducible refine ⟨_, ltDD_ii, ?_⟩
    | with_reducible refine ⟨_, add_ii, ?_⟩
    | with_reducible refine ⟨_, eqD_tupI, ?_⟩
    | with_reducible refine ⟨_, ltDD_tup, ?_⟩
    | with_reducible refine ⟨_, eqD_strs, ?_⟩
    | with_reducible refine ⟨_, neD_strs, ?_⟩
    | with_reducible refine ⟨_, inD2_str, ?_⟩
    | with_reducible refine ⟨_, neD_nil, ?_⟩
    | with_reducible refine ⟨_, eqD_nil, ?_⟩
    | with_reducible refine ⟨_, eqD_ints, ?_⟩
    | with_reducible refine ⟨_, neD_ints, ?_⟩
    | with_reducible refine ⟨_, ltDD_lst, ?_⟩
    | with_reducible refine ⟨Nat.le_of_ble_eq_true rfl, ?_⟩
    | with_reducible refine ⟨_, rfl, ?_⟩
    | with_reducible refine ⟨_, _, rfl, ?_⟩
    | with_reducible refine ⟨_, _, rfl, (by with_unfolding_all rfl : itemsOf _ = some _), ?_⟩
    | with_reducible refine ⟨_, (by with_unfolding_all rfl : ordD _ _ = some _), ?_⟩
    | with_reducible refine ⟨(by with_unfolding_all rfl : tyStr _ _ = true), ?_⟩
    | with_reducible refine ⟨_, (by with_unfolding_all rfl : negD _ _ = some _), ?_⟩
    | with_reducible refine ⟨_, (by with_unfolding_all rfl : isiD _ _ _ = some _), ?_⟩
    | with_reducible refine ⟨_, (by with_unfolding_all rfl : Tg.set _ _ _ = some _), ?_⟩
    | with_reducible refine ⟨_, _, rfl, ?_⟩
    | (with_reducible refine ⟨fun hb => ?_, fun hb => ?_⟩ <;> (try simp only [decide_eq_true_eq, decide_eq_false_iff_not, Bool.not_eq_true', Bool.not_eq_false', reduceCtorEq] at hb) <;> (try (exfalso; revert hb; decide)))
    | fail
  refine .inl ⟨_, rfl, by have := split_len t; simp; omega, ?_⟩
  refine lc_map D.str itemD (splitM t [32]) (fun w hw => ⟨_, rfl, rfl, ?_⟩) ?_
  · refine wp_eq ?_
    repeat' first
      | (with_reducible refine item_in_w ?_)
      | with_reducible refine w_var _ (by with_unfolding_all rfl) ?_
      | with_reducible refine seqZ_nxs (by simp only [List.set_cons_succ, List.set_cons_zero]; exact rfl) ?_
      | with_reducible refine stepZ_nxs (by simp only [List.set_cons_succ, List.set_cons_zero]; exact rfl) ?_
      | with_reducible refine s_seq ?_
      | with_reducible refine s_set ?_
      | with_reducible refine s_if ?_
      | with_reducible refine s_ret ?_
      | with_reducible refine s_expr ?_
      | with_reducible refine s_next ?_
      | with_reducible refine s_par ?_
      | with_reducible refine s_asg ?_
      | with_reducible refine s_setIx ?_
      | with_reducible refine s_augIx ?_
      | with_reducible refine s_aug ?_
      | with_reducible refine s_for ?_
      | with_reducible refine s_break ?_
      | with_reducible refine s_cont ?_
      | with_reducible refine s_raise ?_
      | with_reducible refine seqZ_nx ?_
      | with_reducible refine seqZ_rt ?_
      | with_reducible refine seqZ_ct ?_
      | with_reducible refine seqZ_bk ?_
      | with_reducible refine seqZ_ex ?_
      | with_reducible refine fnZ_nx ?_
      | with_reducible refine fnZ_rt ?_
      | with_reducible refine fnZ_ex ?_
      | with_reducible refine stepZ_nx ?_
      | with_reducible refine stepZ_rt ?_
      | with_reducible refine stepZ_ct ?_
      | with_reducible refine stepZ_bk ?_
      | with_reducible refine stepZ_ex ?_
      | with_reducible refine w_C ?_
      | with_reducible refine w_r2 ?_
      | with_reducible refine w_r1 ?_
      | with_reducible refine w_cons ?_
      | with_reducible refine w_nil ?_
      | with_reducible refine w_tup ?_
      | with_reducible refine w_lst ?_
      | with_reducible refine w_lstM ?_
      | with_reducible refine w_listM ?_
      | with_reducible refine w_if ?_
      | with_reducible refine w_tOf ?_
      | with_reducible refine w_tAnd ?_
      | with_reducible refine w_tOr ?_
      | with_reducible refine w_tNot ?_
      | with_reducible refine w_tYes ?_
      | with_reducible refine w_vAnd ?_
      | with_reducible refine w_vOr ?_
      | with_reducible refine w_vNot ?_
      | with_reducible refine w_chain ?_
      | with_reducible refine w_call ?_
      | with_reducible refine w_cb ?_
      | with_reducible refine w_oNone ?_
      | with_reducible refine w_oSome ?_
      | with_reducible refine w_sl ?_
      | with_reducible refine w_mt ?_
      | with_reducible refine w_fz ?_
      | with_reducible refine w_any ?_
      | with_reducible refine w_rng1 ?_
      | with_reducible refine w_rng2 ?_
      | with_reducible refine w_zip ?_
      | with_reducible refine w_enum ?_
      | with_reducible refine w_lc ?_
      | with_reducible refine w_lcM ?_
      | with_reducible refine lc_nil ?_
      | with_reducible refine go_nil ?_
      | with_reducible refine s_try ?_
      | with_reducible refine tryZ_nx ?_
      | with_reducible refine tryZ_rt ?_
      | with_reducible refine tryZ_bk ?_
      | with_reducible refine tryZ_ct ?_
      | with_reducible refine tryZ_ex (by decide) ?_
      | with_reducible refine w_dct ?_
      | with_reducible refine ⟨_, eqD_ii, ?_⟩
      | with_reducible refine ⟨_, eqD_ss, ?_⟩
      | with_reducible refine ⟨_, neD_ii, ?_⟩
      | with_reducible refine ⟨_, neD_ss, ?_⟩
      | with_reducible refine ⟨_, eqD_bb, ?_⟩
      | with_reducible refine ⟨_, isD_bb, ?_⟩
      | with_reducible refine ⟨_, ltDD_ii, ?_⟩
      | with_reducible refine ⟨_, add_ii, ?_⟩
      | with_reducible refine ⟨_, eqD_tupI, ?_⟩
      | with_reducible refine ⟨_, ltDD_tup, ?_⟩
      | with_reducible refine ⟨_, eqD_strs, ?_⟩
      | with_reducible refine ⟨_, neD_strs, ?_⟩
      | with_reducible refine ⟨_, inD2_str, ?_⟩
      | with_reducible refine ⟨_, neD_nil, ?_⟩
      | with_reducible refine ⟨_, eqD_nil, ?_⟩
      | with_reducible refine ⟨_, eqD_ints, ?_⟩
      | with_reducible refine ⟨_, neD_ints, ?_⟩
      | with_reducible refine ⟨_, ltDD_lst, ?_⟩
      | with_reducible refine ⟨Nat.le_of_ble_eq_true rfl, ?_⟩
      | with_reducible refine ⟨_, rfl, ?_⟩
      | with_reducible refine ⟨_, _, rfl, ?_⟩
      | with_reducible refine ⟨_, _, rfl, (by with_unfolding_all rfl : itemsOf _ = some _), ?_⟩
      | with_reducible refine ⟨_, (by with_unfolding_all rfl : ordD _ _ = some _), ?_⟩
      | with_reducible refine ⟨(by with_unfolding_all rfl : tyStr _ _ = true), ?_⟩
      | with_reducible refine ⟨_, (by with_unfolding_all rfl : negD _ _ = some _), ?_⟩
      | with_reducible refine ⟨_, (by with_unfolding_all rfl : isiD _ _ _ = some _), ?_⟩
      | with_reducible refine ⟨_, (by with_unfolding_all rfl : Tg.set _ _ _ = some _), ?_⟩
      | with_reducible refine ⟨_, _, rfl, ?_⟩
      | (with_reducible refine ⟨fun hb => ?_, fun hb => ?_⟩ <;> (try simp only [decide_eq_true_eq, decide_eq_false_iff_not, Bool.not_eq_true', Bool.not_eq_false', reduceCtorEq] at hb) <;> (try (exfalso; revert hb; decide)))
      | fail
    exact ⟨rfl, rfl⟩
  · have tu : ∀ S, tupleD S [.lst ((splitM t [32]).map itemD)] = some (.tup (itemsM t)) := fun S => rfl
    repeat' first
      | (with_reducible refine ⟨_, tu _, ?_⟩)
      | ((with_reducible refine is_rule_any (items_ok t) fun _ hq => ?_) ; subst hq)
      | with_reducible refine w_var _ (by with_unfolding_all rfl) ?_
      | with_reducible refine seqZ_nxs (by simp only [List.set_cons_succ, List.set_cons_zero]; exact rfl) ?_
      | with_reducible refine stepZ_nxs (by simp only [List.set_cons_succ, List.set_cons_zero]; exact rfl) ?_
      | with_reducible refine s_seq ?_
      | with_reducible refine s_set ?_
      | with_reducible refine s_if ?_
      | with_reducible refine s_ret ?_
      | with_reducible refine s_expr ?_
      | with_reducible refine s_next ?_
      | with_reducible refine s_par ?_
      | with_reducible refine s_asg ?_
      | with_reducible refine s_setIx ?_
      | with_reducible refine s_augIx ?_
      | with_reducible refine s_aug ?_
      | with_reducible refine s_for ?_
      | with_reducible refine s_break ?_
      | with_reducible refine s_cont ?_
      | with_reducible refine s_raise ?_
      | with_reducible refine seqZ_nx ?_
      | with_reducible refine seqZ_rt ?_
      | with_reducible refine seqZ_ct ?_
      | with_reducible refine seqZ_bk ?_
      | with_reducible refine seqZ_ex ?_
      | with_reducible refine fnZ_nx ?_
      | with_reducible refine fnZ_rt ?_
      | with_reducible refine fnZ_ex ?_
      | with_reducible refine stepZ_nx ?_
      | with_reducible refine stepZ_rt ?_
      | with_reducible refine stepZ_ct ?_
      | with_reducible refine stepZ_bk ?_
      | with_reducible refine stepZ_ex ?_
      | with_reducible refine w_C ?_
      | with_reducible refine w_r2 ?_
      | with_reducible refine w_r1 ?_
      | with_reducible refine w_cons ?_
      | with_reducible refine w_nil ?_
      | with_reducible refine w_tup ?_
      | with_reducible refine w_lst ?_
      | with_reducible refine w_lstM ?_
      | with_reducible refine w_listM ?_
      | with_reducible refine w_if ?_
      | with_reducible refine w_tOf ?_
      | with_reducible refine w_tAnd ?_
      | with_reducible refine w_tOr ?_
      | with_reducible refine w_tNot ?_
      | with_reducible refine w_tYes ?_
      | with_reducible refine w_vAnd ?_
      | with_reducible refine w_vOr ?_
      | with_reducible refine w_vNot ?_
      | with_reducible refine w_chain ?_
      | with_reducible refine w_call ?_
      | with_reducible refine w_cb ?_
      | with_reducible refine w_oNone ?_
      | with_reducible refine w_oSome ?_
      | with_reducible refine w_sl ?_
      | with_reducible refine w_mt ?_
      | with_reducible refine w_fz ?_
      | with_reducible refine w_any ?_
      | with_reducible refine w_rng1 ?_
      | with_reducible refine w_rng2 ?_
      | with_reducible refine w_zip ?_
      | with_reducible refine w_enum ?_
      | with_reducible refine w_lc ?_
      | with_reducible refine w_lcM ?_
      | with_reducible refine lc_nil ?_
      | with_reducible refine go_nil ?_
      | with_reducible refine s_try ?_
      | with_reducible refine tryZ_nx ?_
      | with_reducible refine tryZ_rt ?_
      | with_reducible refine tryZ_bk ?_
      | with_reducible refine tryZ_ct ?_
      | with_reducible refine tryZ_ex (by decide) ?_
      | with_reducible refine w_dct ?_
      | with_reducible refine ⟨_, eqD_ii, ?_⟩
      | with_reducible refine ⟨_, eqD_ss, ?_⟩
      | with_reducible refine ⟨_, neD_ii, ?_⟩
      | with_reducible refine ⟨_, neD_ss, ?_⟩
      | with_reducible refine ⟨_, eqD_bb, ?_⟩
      | with_reducible refine ⟨_, isD_bb, ?_⟩
      | with_reducible refine ⟨_, ltDD_ii, ?_⟩
      | with_reducible refine ⟨_, add_ii, ?_⟩
      | with_reducible refine ⟨_, eqD_tupI, ?_⟩
      | with_reducible refine ⟨_, ltDD_tup, ?_⟩
      | with_reducible refine ⟨_, eqD_strs, ?_⟩
      | with_reducible refine ⟨_, neD_strs, ?_⟩
      | with_reducible refine ⟨_, inD2_str, ?_⟩
      | with_reducible refine ⟨_, neD_nil, ?_⟩
      | with_reducible refine ⟨_, eqD_nil, ?_⟩
      | with_reducible refine ⟨_, eqD_ints, ?_⟩
      | with_reducible refine ⟨_, neD_ints, ?_⟩
      | with_reducible refine ⟨_, ltDD_lst, ?_⟩
      | with_reducible refine ⟨Nat.le_of_ble_eq_true rfl, ?_⟩
      | with_reducible refine ⟨_, rfl, ?_⟩
      | with_reducible refine ⟨_, _, rfl, ?_⟩
      | with_reducible refine ⟨_, _, rfl, (by with_unfolding_all rfl : itemsOf _ = some _), ?_⟩
      | with_reducible refine ⟨_, (by with_unfolding_all rfl : ordD _ _ = some _), ?_⟩
      | with_reducible refine ⟨(by with_unfolding_all rfl : tyStr _ _ = true), ?_⟩
      | with_reducible refine ⟨_, (by with_unfolding_all rfl : negD _ _ = some _), ?_⟩
      | with_reducible refine ⟨_, (by with_unfolding_all rfl : isiD _ _ _ = some _), ?_⟩
      | with_reducible refine ⟨_, (by with_unfolding_all rfl : Tg.set _ _ _ = some _), ?_⟩
      | with_reducible refine ⟨_, _, rfl, ?_⟩
      | (with_reducible refine ⟨fun hb => ?_, fun hb => ?_⟩ <;> (try simp only [decide_eq_true_eq, decide_eq_false_iff_not, Bool.not_eq_true', Bool.not_eq_false', reduceCtorEq] at hb) <;> (try (exfalso; revert hb; decide)))
      | fail
    · refine h2 ?_
      unfold parseM
      rw [if_neg (by rw [hb]; decide)]
    · refine h1 _ ?_
      unfold parseM
      rw [if_pos hb]
theorem parse_bad_w {d : D} (hd : d = .non ∨ (∃ i, d = .int i) ∨ (∃ ds, d = .lst ds) ∨ ∃ ds, d = .tup ds) (h2 : X 2 S) : wp (m_parse_rule S [d]) Q X := by
  rcases hd with rfl | ⟨i, rfl⟩ | ⟨ds, rfl⟩ | ⟨ds, rfl⟩
  · skip
    unfold m_parse_rule b_parse_rule
    with_reducible refine w_fn2 (by simp only [List.map_cons, List.map_nil, List.replicate, List.cons_append, List.nil_append, Nat.reduceSub]; exact rfl) ?_
    repeat' first
      | with_reducible refine w_var _ (by with_unfolding_all rfl) ?_
      | with_reducible refine seqZ_nxs (by simp only [List.set_cons_succ, List.set_cons_zero]; exact rfl) ?_
      | with_reducible refine stepZ_nxs (by simp only [List.set_cons_succ, List.set_cons_zero]; exact rfl) ?_
      | with_reducible refine s_seq ?_
      | with_reducible refine s_set ?_
      | with_reducible refine s_if ?_
      | with_reducible refine s_ret ?_
      | with_reducible refine s_expr ?_
      | with_reducible refine s_next ?_
      | with_reducible refine s_par ?_
      | with_reducible refine s_asg ?_
      | with_reducible refine s_setIx ?_
      | with_reducible refine s_augIx ?_
      | with_reducible refine s_aug ?_
      | with_reducible refine s_for ?_
      | with_reducible refine s_break ?_
      | with_reducible refine s_cont ?_
      | with_reducible refine s_raise ?_
      | with_reducible refine seqZ_nx ?_
      | with_reducible refine seqZ_rt ?_
      | with_reducible refine seqZ_ct ?_
      | with_reducible refine seqZ_bk ?_
      | with_reducible refine seqZ_ex ?_
      | with_reducible refine fnZ_nx ?_
      | with_reducible refine fnZ_rt ?_
      | with_reducible refine fnZ_ex ?_
      | with_reducible refine stepZ_nx ?_
      | with_reducible refine stepZ_rt ?_
      | with_reducible refine stepZ_ct ?_
      | with_reducible refine stepZ_bk ?_
      | with_reducible refine stepZ_ex ?_
      | with_reducible refine w_C ?_
      | with_reducible refine w_r2 ?_
      | with_reducible refine w_r1 ?_
      | with_reducible refine w_cons ?_
      | with_reducible refine w_nil ?_
      | with_reducible refine w_tup ?_
      | with_reducible refine w_lst ?_
      | with_reducible refine w_lstM ?_
      | with_reducible refine w_listM ?_
      | with_reducible refine w_if ?_
      | with_reducible refine w_tOf ?_
      | with_reducible refine w_tAnd ?_
      | with_reducible refine w_tOr ?_
      | with_reducible refine w_tNot ?_
      | with_reducible refine w_tYes ?_
      | with_reducible refine w_vAnd ?_
      | with_reducible refine w_vOr ?_
      | with_reducible refine w_vNot ?_
      | with_reducible refine w_chain ?_
      | with_reducible refine w_call ?_
      | with_reducible refine w_cb ?_
      | with_reducible refine w_oNone ?_
      | with_reducible refine w_oSome ?_
      | with_reducible refine w_sl ?_
      | with_reducible refine w_mt ?_
      | with_reducible refine w_fz ?_
      | with_reducible refine w_any ?_
      | with_reducible refine w_rng1 ?_
      | with_reducible refine w_rng2 ?_
      | with_reducible refine w_zip ?_
      | with_reducible refine w_enum ?_
      | with_reducible refine w_lc ?_
      | with_reducible refine w_lcM ?_
      | with_reducible refine lc_nil ?_
      | with_reducible refine go_nil ?_
      | with_reducible refine s_try ?_
      | with_reducible refine tryZ_nx ?_
      | with_reducible refine tryZ_rt ?_
      | with_reducible refine tryZ_bk ?_
      | with_reducible refine tryZ_ct ?_
      | with_reducible refine tryZ_ex (by decide) ?_
      | with_reducible refine w_dct ?_
      | with_reducible refine ⟨_, eqD_ii, ?_⟩
      | with_reducible refine ⟨_, eqD_ss, ?_⟩
      | with_reducible refine ⟨_, neD_ii, ?_⟩
      | with_reducible refine ⟨_, neD_ss, ?_⟩
      | with_reducible refine ⟨_, eqD_bb, ?_⟩
      | with_reducible refine ⟨_, isD_bb, ?_⟩
      | with_reducible refine ⟨_, ltDD_ii, ?_⟩
      | with_reducible refine ⟨_, add_ii, ?_⟩
      | with_reducible refine ⟨_, eqD_tupI, ?_⟩
      | with_reducible refine ⟨_, ltDD_tup, ?_⟩
      | with_reducible refine ⟨_, eqD_strs, ?_⟩
      | with_reducible refine ⟨_, neD_strs, ?_⟩
      | with_reducible refine ⟨_, inD2_str, ?_⟩
      | with_reducible refine ⟨_, neD_nil, ?_⟩
      | with_reducible refine ⟨_, eqD_nil, ?_⟩
      | with_reducible refine ⟨_, eqD_ints, ?_⟩
      | with_reducible refine ⟨_, neD_ints, ?_⟩
      | with_reducible refine ⟨_, ltDD_lst, ?_⟩
      | with_reducible refine ⟨Nat.le_of_ble_eq_true rfl, ?_⟩
      | with_reducible refine ⟨_, rfl, ?_⟩
      | with_reducible refine ⟨_, _, rfl, ?_⟩
      | with_reducible refine ⟨_, _, rfl, (by with_unfolding_all rfl : itemsOf _ = some _), ?_⟩
      | with_reducible refine ⟨_, (by with_unfolding_all rfl : ordD _ _ = some _), ?_⟩
      | with_reducible refine ⟨(by with_unfolding_all rfl : tyStr _ _ = true), ?_⟩
      | with_reducible refine ⟨_, (by with_unfolding_all rfl : negD _ _ = some _), ?_⟩
      | with_reducible refine ⟨_, (by with_unfolding_all rfl : isiD _ _ _ = some _), ?_⟩
      | with_reducible refine ⟨_, (by with_unfolding_all rfl : Tg.set _ _ _ = some _), ?_⟩
      | with_reducible refine ⟨_, _, rfl, ?_⟩
      | (with_reducible refine ⟨fun hb => ?_, fun hb => ?_⟩ <;> (try simp only [decide_eq_true_eq, decide_eq_false_iff_not, Bool.not_eq_true', Bool.not_eq_false', reduceCtorEq] at hb) <;> (try (exfalso; revert hb; decide)))
      | fail
    all_goals first | exact h2 | (exfalso; revert hb; decide)
  · skip
    unfold m_parse_rule b_parse_rule
    with_reducible refine w_fn2 (by simp only [List.map_cons, List.map_nil, List.replicate, List.cons_append, List.nil_append, Nat.reduceSub]; exact rfl) ?_
    repeat' first
      | with_reducible refine w_var _ (by with_unfolding_all rfl) ?_
      | with_reducible refine seqZ_nxs (by simp only [List.set_cons_succ, List.set_cons_zero]; exact rfl) ?_
      | with_reducible refine stepZ_nxs (by simp only [List.set_cons_succ, List.set_cons_zero]; exact rfl) ?_
      | with_reducible refine s_seq ?_
      | with_reducible refine s_set ?_
      | with_reducible refine s_if ?_
      | with_reducible refine s_ret ?_
      | with_reducible refine s_expr ?_
      | with_reducible refine s_next ?_
      | with_reducible refine s_par ?_
      | with_reducible refine s_asg ?_
      | with_reducible refine s_setIx ?_
      | with_reducible refine s_augIx ?_
      | with_reducible refine s_aug ?_
      | with_reducible refine s_for ?_
      | with_reducible refine s_break ?_
      | with_reducible refine s_cont ?_
      | with_reducible refine s_raise ?_
      | with_reducible refine seqZ_nx ?_
      | with_reducible refine seqZ_rt ?_
      | with_reducible refine seqZ_ct ?_
      | with_reducible refine seqZ_bk ?_
      | with_reducible refine seqZ_ex ?_
      | with_reducible refine fnZ_nx ?_
      | with_reducible refine fnZ_rt ?_
      | with_reducible refine fnZ_ex ?_
      | with_reducible refine stepZ_nx ?_
      | with_reducible refine stepZ_rt ?_
      | with_reducible refine stepZ_ct ?_
      | with_reducible refine stepZ_bk ?_
      | with_reducible refine stepZ_ex ?_
      | with_reducible refine w_C ?_
      | with_reducible refine w_r2 ?_
      | with_reducible refine w_r1 ?_
      | with_reducible refine w_cons ?_
      | with_reducible refine w_nil ?_
      | with_reducible refine w_tup ?_
      | with_reducible refine w_lst ?_
      | with_reducible refine w_lstM ?_
      | with_reducible refine w_listM ?_
      | with_reducible refine w_if ?_
      | with_reducible refine w_tOf ?_
      | with_reducible refine w_tAnd ?_
      | with_reducible refine w_tOr ?_
      | with_reducible refine w_tNot ?_
      | with_reducible refine w_tYes ?_
      | with_reducible refine w_vAnd ?_
      | with_reducible refine w_vOr ?_
      | with_reducible refine w_vNot ?_
      | with_reducible refine w_chain ?_
      | with_reducible refine w_call ?_
      | with_reducible refine w_cb ?_
      | with_reducible refine w_oNone ?_
      | with_reducible refine w_oSome ?_
      | with_reducible refine w_sl ?_
      | with_reducible refine w_mt ?_
      | with_reducible refine w_fz ?_
      | with_reducible refine w_any ?_
      | with_reducible refine w_rng1 ?_
      | with_reducible refine w_rng2 ?_
      | with_reducible refine w_zip ?_
      | with_reducible refine w_enum ?_
      | with_reducible refine w_lc ?_
      | with_reducible refine w_lcM ?_
      | with_reducible refine lc_nil ?_
      | with_reducible refine go_nil ?_
      | with_reducible refine s_try ?_
      | with_reducible refine tryZ_nx ?_
      | with_reducible refine tryZ_rt ?_
      | with_reducible refine tryZ_bk ?_
      | with_reducible refine tryZ_ct ?_
      | with_reducible refine tryZ_ex (by decide) ?_
      | with_reducible refine w_dct ?_
      | with_reducible refine ⟨_, eqD_ii, ?_⟩
      | with_reducible refine ⟨_, eqD_ss, ?_⟩
      | with_reducible refine ⟨_, neD_ii, ?_⟩
      | with_reducible refine ⟨_, neD_ss, ?_⟩
      | with_reducible refine ⟨_, eqD_bb, ?_⟩
      | with_reducible refine ⟨_, isD_bb, ?_⟩
      | with_reducible refine ⟨_, ltDD_ii, ?_⟩
      | with_reducible refine ⟨_, add_ii, ?_⟩
      | with_reducible refine ⟨_, eqD_tupI, ?_⟩
      | with_reducible refine ⟨_, ltDD_tup, ?_⟩
      | with_reducible refine ⟨_, eqD_strs, ?_⟩
      | with_reducible refine ⟨_, neD_strs, ?_⟩
      | with_reducible refine ⟨_, inD2_str, ?_⟩
      | with_reducible refine ⟨_, neD_nil, ?_⟩
      | with_reducible refine ⟨_, eqD_nil, ?_⟩
      | with_reducible refine ⟨_, eqD_ints, ?_⟩
      | with_reducible refine ⟨_, neD_ints, ?_⟩
      | with_reducible refine ⟨_, ltDD_lst, ?_⟩
      | with_reducible refine ⟨Nat.le_of_ble_eq_true rfl, ?_⟩
      | with_reducible refine ⟨_, rfl, ?_⟩
      | with_reducible refine ⟨_, _, rfl, ?_⟩
      | with_reducible refine ⟨_, _, rfl, (by with_unfolding_all rfl : itemsOf _ = some _), ?_⟩
      | with_reducible refine ⟨_, (by with_unfolding_all rfl : ordD _ _ = some _), ?_⟩
      | with_reducible refine ⟨(by with_unfolding_all rfl : tyStr _ _ = true), ?_⟩
      | with_reducible refine ⟨_, (by with_unfolding_all rfl : negD _ _ = some _), ?_⟩
      | with_reducible refine ⟨_, (by with_unfolding_all rfl : isiD _ _ _ = some _), ?_⟩
      | with_reducible refine ⟨_, (by with_unfolding_all rfl : Tg.set _ _ _ = some _), ?_⟩
      | with_reducible refine ⟨_, _, rfl, ?_⟩
      | (with_reducible refine ⟨fun hb => ?_, fun hb => ?_⟩ <;> (try simp only [decide_eq_true_eq, decide_eq_false_iff_not, Bool.not_eq_true', Bool.not_eq_false', reduceCtorEq] at hb) <;> (try (exfalso; revert hb; decide)))
      | fail
    all_goals first | exact h2 | (exfalso; revert hb; decide)
  · skip
    unfold m_parse_rule b_parse_rule
    with_reducible refine w_fn2 (by simp only [List.map_cons, List.map_nil, List.replicate, List.cons_append, List.nil_append, Nat.reduceSub]; exact rfl) ?_
    repeat' first
      | with_reducible refine w_var _ (by with_unfolding_all rfl) ?_
      | with_reducible refine seqZ_nxs (by simp only [List.set_cons_succ, List.set_cons_zero]; exact rfl) ?_
      | with_reducible refine stepZ_nxs (by simp only [List.set_cons_succ, List.set_cons_zero]; exact rfl) ?_
      | with_reducible refine s_seq ?_
      | with_reducible refine s_set ?_
      | with_reducible refine s_if ?_
      | with_reducible refine s_ret ?_
      | with_reducible refine s_expr ?_
      | with_reducible refine s_next ?_
      | with_reducible refine s_par ?_
      | with_reducible refine s_asg ?_
      | with_reducible refine s_setIx ?_
      | with_reducible refine s_augIx ?_
      | with_reducible refine s_aug ?_
      | with_reducible refine s_for ?_
      | with_reducible refine s_break ?_
      | with_reducible refine s_cont ?_
      | with_reducible refine s_raise ?_
      | with_reducible refine seqZ_nx ?_
      | with_reducible refine seqZ_rt ?_
      | with_reducible refine seqZ_ct ?_
      | with_reducible refine seqZ_bk ?_
      | with_reducible refine seqZ_ex ?_
      | with_reducible refine fnZ_nx ?_
      | with_reducible refine fnZ_rt ?_
      | with_reducible refine fnZ_ex ?_
      | with_reducible refine stepZ_nx ?_
      | with_reducible refine stepZ_rt ?_
      | with_reducible refine stepZ_ct ?_
      | with_reducible refine stepZ_bk ?_
      | with_reducible refine stepZ_ex ?_
      | with_reducible refine w_C ?_
      | with_reducible refine w_r2 ?_
      | with_reducible refine w_r1 ?_
      | with_reducible refine w_cons ?_
      | with_reducible refine w_nil ?_
      | with_reducible refine w_tup ?_
      | with_reducible refine w_lst ?_
      | with_reducible refine w_lstM ?_
      | with_reducible refine w_listM ?_
      | with_reducible refine w_if ?_
      | with_reducible refine w_tOf ?_
      | with_reducible refine w_tAnd ?_
      | with_reducible refine w_tOr ?_
      | with_reducible refine w_tNot ?_
      | with_reducible refine w_tYes ?_
      | with_reducible refine w_vAnd ?_
      | with_reducible refine w_vOr ?_
      | with_reducible refine w_vNot ?_
      | with_reducible refine w_chain ?_
      | with_reducible refine w_call ?_
      | with_reducible refine w_cb ?_
      | with_reducible refine w_oNone ?_
      | with_reducible refine w_oSome ?_
      | with_reducible refine w_sl ?_
      | with_reducible refine w_mt ?_
      | with_reducible refine w_fz ?_
      | with_reducible refine w_any ?_
      | with_reducible refine w_rng1 ?_
      | with_reducible refine w_rng2 ?_
      | with_reducible refine w_zip ?_
      | with_reducible refine w_enum ?_
      | with_reducible refine w_lc ?_
      | with_reducible refine w_lcM ?_
      | with_reducible refine lc_nil ?_
      | with_reducible refine go_nil ?_
      | with_reducible refine s_try ?_
      | with_reducible refine tryZ_nx ?_
      | with_reducible refine tryZ_rt ?_
      | with_reducible refine tryZ_bk ?_
      | with_reducible refine tryZ_ct ?_
      | with_reducible refine tryZ_ex (by decide) ?_
      | with_reducible refine w_dct ?_
      | with_reducible refine ⟨_, eqD_ii, ?_⟩
      | with_reducible refine ⟨_, eqD_ss, ?_⟩
      | with_reducible refine ⟨_, neD_ii, ?_⟩
      | with_reducible refine ⟨_, neD_ss, ?_⟩
      | with_reducible refine ⟨_, eqD_bb, ?_⟩
      | with_reducible refine ⟨_, isD_bb, ?_⟩
      | with_reducible refine ⟨_, ltDD_ii, ?_⟩
      | with_reducible refine ⟨_, add_ii, ?_⟩
      | with_reducible refine ⟨_, eqD_tupI, ?_⟩
      | with_reducible refine ⟨_, ltDD_tup, ?_⟩
      | with_reducible refine ⟨_, eqD_strs, ?_⟩
      | with_reducible refine ⟨_, neD_strs, ?_⟩
      | with_reducible refine ⟨_, inD2_str, ?_⟩
      | with_reducible refine ⟨_, neD_nil, ?_⟩
      | with_reducible refine ⟨_, eqD_nil, ?_⟩
      | with_reducible refine ⟨_, eqD_ints, ?_⟩
      | with_reducible refine ⟨_, neD_ints, ?_⟩
      | with_reducible refine ⟨_, ltDD_lst, ?_⟩
      | with_reducible refine ⟨Nat.le_of_ble_eq_true rfl, ?_⟩
      | with_reducible refine ⟨_, rfl, ?_⟩
      | with_reducible refine ⟨_, _, rfl, ?_⟩
      | with_reducible refine ⟨_, _, rfl, (by with_unfolding_all rfl : itemsOf _ = some _), ?_⟩
      | with_reducible refine ⟨_, (by with_unfolding_all rfl : ordD _ _ = some _), ?_⟩
      | with_reducible refine ⟨(by with_unfolding_all rfl : tyStr _ _ = true), ?_⟩
      | with_reducible refine ⟨_, (by with_unfolding_all rfl : negD _ _ = some _), ?_⟩
      | with_reducible refine ⟨_, (by with_unfolding_all rfl : isiD _ _ _ = some _), ?_⟩
      | with_reducible refine ⟨_, (by with_unfolding_all rfl : Tg.set _ _ _ = some _), ?_⟩
      | with_reducible refine ⟨_, _, rfl, ?_⟩
      | (with_reducible refine ⟨fun hb => ?_, fun hb => ?_⟩ <;> (try simp only [decide_eq_true_eq, decide_eq_false_iff_not, Bool.not_eq_true', Bool.not_eq_false', reduceCtorEq] at hb) <;> (try (exfalso; revert hb; decide)))
      | fail
    all_goals first | exact h2 | (exfalso; revert hb; decide)
  · skip
    unfold m_parse_rule b_parse_rule
    with_reducible refine w_fn2 (by simp only [List.map_cons, List.map_nil, List.replicate, List.cons_append, List.nil_append, Nat.reduceSub]; exact rfl) ?_
    repeat' first
      | with_reducible refine w_var _ (by with_unfolding_all rfl) ?_
      | with_reducible refine seqZ_nxs (by simp only [List.set_cons_succ, List.set_cons_zero]; exact rfl) ?_
      | with_reducible refine stepZ_nxs (by simp only [List.set_cons_succ, List.set_cons_zero]; exact rfl) ?_
      | with_reducible refine s_seq ?_
      | with_reducible refine s_set ?_
      | with_reducible refine s_if ?_
      | with_reducible refine s_ret ?_
      | with_reducible refine s_expr ?_
      | with_reducible refine s_next ?_
      | with_reducible refine s_par ?_
      | with_reducible refine s_asg ?_
      | with_reducible refine s_setIx ?_
      | with_reducible refine s_augIx ?_
      | with_reducible refine s_aug ?_
      | with_reducible refine s_for ?_
      | with_reducible refine s_break ?_
      | with_reducible refine s_cont ?_
      | with_reducible refine s_raise ?_
      | with_reducible refine seqZ_nx ?_
      | with_reducible refine seqZ_rt ?_
      | with_reducible refine seqZ_ct ?_
      | with_reducible refine seqZ_bk ?_
      | with_reducible refine seqZ_ex ?_
      | with_reducible refine fnZ_nx ?_
      | with_reducible refine fnZ_rt ?_
      | with_reducible refine fnZ_ex ?_
      | with_reducible refine stepZ_nx ?_
      | with_reducible refine stepZ_rt ?_
      | with_reducible refine stepZ_ct ?_
      | with_reducible refine stepZ_bk ?_
      | with_reducible refine stepZ_ex ?_
      | with_reducible refine w_C ?_
      | with_reducible refine w_r2 ?_
      | with_reducible refine w_r1 ?_
      | with_reducible refine w_cons ?_
      | with_reducible refine w_nil ?_
      | with_reducible refine w_tup ?_
      | with_reducible refine w_lst ?_
      | with_reducible refine w_lstM ?_
      | with_reducible refine w_listM ?_
      | with_reducible refine w_if ?_
      | with_reducible refine w_tOf ?_
      | with_reducible refine w_tAnd ?_
      | with_reducible refine w_tOr ?_
      | with_reducible refine w_tNot ?_
      | with_reducible refine w_tYes ?_
      | with_reducible refine w_vAnd ?_
      | with_reducible refine w_vOr ?_
      | with_reducible refine w_vNot ?_
      | with_reducible refine w_chain ?_
      | with_reducible refine w_call ?_
      | with_reducible refine w_cb ?_
      | with_reducible refine w_oNone ?_
      | with_reducible refine w_oSome ?_
      | with_reducible refine w_sl ?_
      | with_reducible refine w_mt ?_
      | with_reducible refine w_fz ?_
      | with_reducible refine w_any ?_
      | with_reducible refine w_rng1 ?_
      | with_reducible refine w_rng2 ?_
      | with_reducible refine w_zip ?_
      | with_reducible refine w_enum ?_
      | with_reducible refine w_lc ?_
      | with_reducible refine w_lcM ?_
      | with_reducible refine lc_nil ?_
      | with_reducible refine go_nil ?_
      | with_reducible refine s_try ?_
      | with_reducible refine tryZ_nx ?_
      | with_reducible refine tryZ_rt ?_
      | with_reducible refine tryZ_bk ?_
      | with_reducible refine tryZ_ct ?_
      | with_reducible refine tryZ_ex (by decide) ?_
      | with_reducible refine w_dct ?_
      | with_reducible refine ⟨_, eqD_ii, ?_⟩
      | with_reducible refine ⟨_, eqD_ss, ?_⟩
      | with_reducible refine ⟨_, neD_ii, ?_⟩
      | with_reducible refine ⟨_, neD_ss, ?_⟩
      | with_reducible refine ⟨_, eqD_bb, ?_⟩
      | with_reducible refine ⟨_, isD_bb, ?_⟩
      | with_reducible refine ⟨_, ltDD_ii, ?_⟩
      | with_reducible refine ⟨_, add_ii, ?_⟩
      | with_reducible refine ⟨_, eqD_tupI, ?_⟩
      | with_reducible refine ⟨_, ltDD_tup, ?_⟩
      | with_reducible refine ⟨_, eqD_strs, ?_⟩
      | with_reducible refine ⟨_, neD_strs, ?_⟩
      | with_reducible refine ⟨_, inD2_str, ?_⟩
      | with_reducible refine ⟨_, neD_nil, ?_⟩
      | with_reducible refine ⟨_, eqD_nil, ?_⟩
      | with_reducible refine ⟨_, eqD_ints, ?_⟩
      | with_reducible refine ⟨_, neD_ints, ?_⟩
      | with_reducible refine ⟨_, ltDD_lst, ?_⟩
      | with_reducible refine ⟨Nat.le_of_ble_eq_true rfl, ?_⟩
      | with_reducible refine ⟨_, rfl, ?_⟩
      | with_reducible refine ⟨_, _, rfl, ?_⟩
      | with_reducible refine ⟨_, _, rfl, (by with_unfolding_all rfl : itemsOf _ = some _), ?_⟩
      | with_reducible refine ⟨_, (by with_unfolding_all rfl : ordD _ _ = some _), ?_⟩
      | with_reducible refine ⟨(by with_unfolding_all rfl : tyStr _ _ = true), ?_⟩
      | with_reducible refine ⟨_, (by with_unfolding_all rfl : negD _ _ = some _), ?_⟩
      | with_reducible refine ⟨_, (by with_unfolding_all rfl : isiD _ _ _ = some _), ?_⟩
      | with_reducible refine ⟨_, (by with_unfolding_all rfl : Tg.set _ _ _ = some _), ?_⟩
      | with_reducible refine ⟨_, _, rfl, ?_⟩
      | (with_reducible refine ⟨fun hb => ?_, fun hb => ?_⟩ <;> (try simp only [decide_eq_true_eq, decide_eq_false_iff_not, Bool.not_eq_true', Bool.not_eq_false', reduceCtorEq] at hb) <;> (try (exfalso; revert hb; decide)))
      | fail
    all_goals first | exact h2 | (exfalso; revert hb; decide)
/-- what was caught, a text's or a value's refusal -/
theorem error_w {i : Nat} (hS : S[i]? = some (.exn 2)) (h : Q (.str [116, 101, 120, 116]) S) : wp (m__law_error S [.loc i]) Q X := by
  have q : ∀ l, isxD l S (.loc i) = (l[2]?).map .bl := fun l => by
    show (match S[i]? with
      | some (.exn c) => (l[c]?).map D.bl
      | _ => none) = _
    rw [hS]
  have q1 : isxD [false, true, false, false, false] S (.loc i) = some (.bl false) := q _
  have q2 : isxD [false, false, true, false, false] S (.loc i) = some (.bl true) := q _
  have q3 : isxD [false, false, false, true, false] S (.loc i) = some (.bl false) := q _
  have q4 : isxD [false, false, false, false, true] S (.loc i) = some (.bl false) := q _
  have q5 : isxD [true, true, true, true, true] S (.loc i) = some (.bl true) := q _
  have c1 : ∀ S, countD S (.lst [.bl false, .bl true, .bl false, .bl false]) [.bl true] = some (.int 1, S) := fun S => rfl
  have c2 : ∀ S, indexD S (.lst [.bl false, .bl true, .bl false, .bl false]) [.bl true] = some (.int 1, S) := fun S => rfl
  unfold m__law_error b__law_error
  with_reducible refine w_fn2 (by simp only [List.map_cons, List.map_nil, List.replicate, List.cons_append, List.nil_append, Nat.reduceSub]; exact rfl) ?_
  repeat' first
    | (with_reducible refine ⟨_, q1, ?_⟩)
    | (with_reducible refine ⟨_, q2, ?_⟩)
    | (with_reducible refine ⟨_, q3, ?_⟩)
    | (with_reducible refine ⟨_, q4, ?_⟩)
    | (with_reducible refine ⟨_, q5, ?_⟩)
    | (with_reducible refine ⟨_, _, c1 _, ?_⟩)
    | (with_reducible refine ⟨_, _, c2 _, ?_⟩)
    | (with_reducible refine ⟨(rfl : tyList _ (.lst _) = true), ?_⟩)
    | with_reducible refine w_var _ (by with_unfolding_all rfl) ?_
    | with_reducible refine seqZ_nxs (by simp only [List.set_cons_succ, List.set_cons_zero]; exact rfl) ?_
    | with_reducible refine stepZ_nxs (by simp only [List.set_cons_succ, List.set_cons_zero]; exact rfl) ?_
    | with_reducible refine s_seq ?_
    | with_reducible refine s_set ?_
    | with_reducible refine s_if ?_
    | with_reducible refine s_ret ?_
    | with_reducible refine s_expr ?_
    | with_reducible refine s_next ?_
    | with_reducible refine s_par ?_
    | with_reducible refine s_asg ?_
    | with_reducible refine s_setIx ?_
    | with_reducible refine s_augIx ?_
    | with_reducible refine s_aug ?_
    | with_reducible refine s_for ?_
    | with_reducible refine s_break ?_
    | with_reducible refine s_cont ?_
    | with_reducible refine s_raise ?_
    | with_reducible refine seqZ_nx ?_
    | with_reducible refine seqZ_rt ?_
    | with_reducible refine seqZ_ct ?_
    | with_reducible refine seqZ_bk ?_
    | with_reducible refine seqZ_ex ?_
    | with_reducible refine fnZ_nx ?_
    | with_reducible refine fnZ_rt ?_
    | with_reducible refine fnZ_ex ?_
    | with_reducible refine stepZ_nx ?_
    | with_reducible refine stepZ_rt ?_
    | with_reducible refine stepZ_ct ?_
    | with_reducible refine stepZ_bk ?_
    | with_reducible refine stepZ_ex ?_
    | with_reducible refine w_C ?_
    | with_reducible refine w_r2 ?_
    | with_reducible refine w_r1 ?_
    | with_reducible refine w_cons ?_
    | with_reducible refine w_nil ?_
    | with_reducible refine w_tup ?_
    | with_reducible refine w_lst ?_
    | with_reducible refine w_lstM ?_
    | with_reducible refine w_listM ?_
    | with_reducible refine w_if ?_
    | with_reducible refine w_tOf ?_
    | with_reducible refine w_tAnd ?_
    | with_reducible refine w_tOr ?_
    | with_reducible refine w_tNot ?_
    | with_reducible refine w_tYes ?_
    | with_reducible refine w_vAnd ?_
    | with_reducible refine w_vOr ?_
    | with_reducible refine w_vNot ?_
    | with_reducible refine w_chain ?_
    | with_reducible refine w_call ?_
    | with_reducible refine w_cb ?_
    | with_reducible refine w_oNone ?_
    | with_reducible refine w_oSome ?_
    | with_reducible refine w_sl ?_
    | with_reducible refine w_mt ?_
    | with_reducible refine w_fz ?_
    | with_reducible refine w_any ?_
    | with_reducible refine w_rng1 ?_
    | with_reducible refine w_rng2 ?_
    | with_reducible refine w_zip ?_
    | with_reducible refine w_enum ?_
    | with_reducible refine w_lc ?_
    | with_reducible refine w_lcM ?_
    | with_reducible refine lc_nil ?_
    | with_reducible refine go_nil ?_
    | with_reducible refine s_try ?_
    | with_reducible refine tryZ_nx ?_
    | with_reducible refine tryZ_rt ?_
    | with_reducible refine tryZ_bk ?_
    | with_reducible refine tryZ_ct ?_
    | with_reducible refine tryZ_ex (by decide) ?_
    | with_reducible refine w_dct ?_
    | with_reducible refine ⟨_, eqD_ii, ?_⟩
    | with_reducible refine ⟨_, eqD_ss, ?_⟩
    | with_reducible refine ⟨_, neD_ii, ?_⟩
    | with_reducible refine ⟨_, neD_ss, ?_⟩
    | with_reducible refine ⟨_, eqD_bb, ?_⟩
    | with_reducible refine ⟨_, isD_bb, ?_⟩
    | with_reducible refine ⟨_, ltDD_ii, ?_⟩
    | with_reducible refine ⟨_, add_ii, ?_⟩
    | with_reducible refine ⟨_, eqD_tupI, ?_⟩
    | with_reducible refine ⟨_, ltDD_tup, ?_⟩
    | with_reducible refine ⟨_, eqD_strs, ?_⟩
    | with_reducible refine ⟨_, neD_strs, ?_⟩
    | with_reducible refine ⟨_, inD2_str, ?_⟩
    | with_reducible refine ⟨_, neD_nil, ?_⟩
    | with_reducible refine ⟨_, eqD_nil, ?_⟩
    | with_reducible refine ⟨_, eqD_ints, ?_⟩
    | with_reducible refine ⟨_, neD_ints, ?_⟩
    | with_reducible refine ⟨_, ltDD_lst, ?_⟩
    | with_reducible refine ⟨Nat.le_of_ble_eq_true rfl, ?_⟩
    | with_reducible refine ⟨_, rfl, ?_⟩
    | with_reducible refine ⟨_, _, rfl, ?_⟩
    | with_reducible refine ⟨_, _, rfl, (by with_unfolding_all rfl : itemsOf _ = some _), ?_⟩
    | with_reducible refine ⟨_, (by with_unfolding_all rfl : ordD _ _ = some _), ?_⟩
    | with_reducible refine ⟨(by with_unfolding_all rfl : tyStr _ _ = true), ?_⟩
    | with_reducible refine ⟨_, (by with_unfolding_all rfl : negD _ _ = some _), ?_⟩
    | with_reducible refine ⟨_, (by with_unfolding_all rfl : isiD _ _ _ = some _), ?_⟩
    | with_reducible refine ⟨_, (by with_unfolding_all rfl : Tg.set _ _ _ = some _), ?_⟩
    | with_reducible refine ⟨_, _, rfl, ?_⟩
    | (with_reducible refine ⟨fun hb => ?_, fun hb => ?_⟩ <;> (try simp only [decide_eq_true_eq, decide_eq_false_iff_not, Bool.not_eq_true', Bool.not_eq_false', reduceCtorEq] at hb) <;> (try (exfalso; revert hb; decide)))
    | fail
  all_goals first | exact h | (exfalso; revert hb; decide) | skip
def okD : D → Bool
  | .str t => decide (t.length ≤ 90000)
  | .non => true
  | .int _ => true
  | .lst _ => true
  | .tup _ => true
  | _ => false
def parseD : D → Option (List D)
  | .str t => parseM t
  | _ => none
abbrev sText : List Nat := [116, 101, 120, 116]
def parsedD (d : D) : D := match parseD d with
  | some ds => .tup ds
  | none => .str sText
theorem parse_any {d : D} (hd : okD d = true) (h1 : ∀ ds, parseD d = some ds → Q (.tup ds) S) (h2 : parseD d = none → X 2 S) : wp (m_parse_rule S [d]) Q X := by
  cases d with
  | str t => exact parse_w (of_decide_eq_true hd) h1 h2
  | non => exact parse_bad_w (.inl rfl) (h2 rfl)
  | int i => exact parse_bad_w (.inr (.inl ⟨i, rfl⟩)) (h2 rfl)
  | lst ds => exact parse_bad_w (.inr (.inr (.inl ⟨ds, rfl⟩))) (h2 rfl)
  | tup ds => exact parse_bad_w (.inr (.inr (.inr ⟨ds, rfl⟩))) (h2 rfl)
  | _ => cases hd
theorem parsed_w {d : D} (hd : okD d = true) (h : ∀ r, r = parsedD d → ∀ T, Q r (S ++ T)) : wp (m__law_parsed S [d]) Q X := by
  have hS : (S ++ [Cell.exn 2])[S.length]? = some (.exn 2) := by simp
  unfold m__law_parsed b__law_parsed
  with_reducible refine w_fn2 (by simp only [List.map_cons, List.map_nil, List.replicate, List.cons_append, List.nil_append, Nat.reduceSub]; exact rfl) ?_
  repeat' first
    | (with_reducible refine parse_any hd (fun ds e => ?_) (fun e => ?_))
    | (with_reducible refine error_w hS ?_)
    | with_reducible refine w_var _ (by with_unfolding_all rfl) ?_
    | with_reducible refine seqZ_nxs (by simp only [List.set_cons_succ, List.set_cons_zero]; exact rfl) ?_
    | with_reducible refine stepZ_nxs (by simp only [List.set_cons_succ, List.set_cons_zero]; exact rfl) ?_
    | with_reducible refine s_seq ?_
    | with_reducible refine s_set ?_
    | with_reducible refine s_if ?_
    | with_reducible refine s_ret ?_
    | with_reducible refine s_expr ?_
    | with_reducible refine s_next ?_
    | with_reducible refine s_par ?_
    | with_reducible refine s_asg ?_
    | with_reducible refine s_setIx ?_
    | with_reducible refine s_augIx ?_
    | with_reducible refine s_aug ?_
    | with_reducible refine s_for ?_
    | with_reducible refine s_break ?_
    | with_reducible refine s_cont ?_
    | with_reducible refine s_raise ?_
    | with_reducible refine seqZ_nx ?_
    | with_reducible refine seqZ_rt ?_
    | with_reducible refine seqZ_ct ?_
    | with_reducible refine seqZ_bk ?_
    | with_reducible refine seqZ_ex ?_
    | with_reducible refine fnZ_nx ?_
    | with_reducible refine fnZ_rt ?_
    | with_reducible refine fnZ_ex ?_
    | with_reducible refine stepZ_nx ?_
    | with_reducible refine stepZ_rt ?_
    | with_reducible refine stepZ_ct ?_
    | with_reducible refine stepZ_bk ?_
    | with_reducible refine stepZ_ex ?_
    | with_reducible refine w_C ?_
    | with_reducible refine w_r2 ?_
    | with_reducible refine w_r1 ?_
    | with_reducible refine w_cons ?_
    | with_reducible refine w_nil ?_
    | with_reducible refine w_tup ?_
    | with_reducible refine w_lst ?_
    | with_reducible refine w_lstM ?_
    | with_reducible refine w_listM ?_
    | with_reducible refine w_if ?_
    | with_reducible refine w_tOf ?_
    | with_reducible refine w_tAnd ?_
    | with_reducible refine w_tOr ?_
    | with_reducible refine w_tNot ?_
    | with_reducible refine w_tYes ?_
    | with_reducible refine w_vAnd ?_
    | with_reducible refine w_vOr ?_
    | with_reducible refine w_vNot ?_
    | with_reducible refine w_chain ?_
    | with_reducible refine w_call ?_
    | with_reducible refine w_cb ?_
    | with_reducible refine w_oNone ?_
    | with_reducible refine w_oSome ?_
    | with_reducible refine w_sl ?_
    | with_reducible refine w_mt ?_
    | with_reducible refine w_fz ?_
    | with_reducible refine w_any ?_
    | with_reducible refine w_rng1 ?_
    | with_reducible refine w_rng2 ?_
    | with_reducible refine w_zip ?_
    | with_reducible refine w_enum ?_
    | with_reducible refine w_lc ?_
    | with_reducible refine w_lcM ?_
    | with_reducible refine lc_nil ?_
    | with_reducible refine go_nil ?_
    | with_reducible refine s_try ?_
    | with_reducible refine tryZ_nx ?_
    | with_reducible refine tryZ_rt ?_
    | with_reducible refine tryZ_bk ?_
    | with_reducible refine tryZ_ct ?_
    | with_reducible refine tryZ_ex (by decide) ?_
    | with_reducible refine w_dct ?_
    | with_reducible refine ⟨_, eqD_ii, ?_⟩
    | with_reducible refine ⟨_, eqD_ss, ?_⟩
    | with_reducible refine ⟨_, neD_ii, ?_⟩
    | with_reducible refine ⟨_, neD_ss, ?_⟩
    | with_reducible refine ⟨_, eqD_bb, ?_⟩
    | with_reducible refine ⟨_, isD_bb, ?_⟩
    | with_reducible refine ⟨_, ltDD_ii, ?_⟩
    | with_reducible refine ⟨_, add_ii, ?_⟩
    | with_reducible refine ⟨_, eqD_tupI, ?_⟩
    | with_reducible refine ⟨_, ltDD_tup, ?_⟩
    | with_reducible refine ⟨_, eqD_strs, ?_⟩
    | with_reducible refine ⟨_, neD_strs, ?_⟩
    | with_reducible refine ⟨_, inD2_str, ?_⟩
    | with_reducible refine ⟨_, neD_nil, ?_⟩
    | with_reducible refine ⟨_, eqD_nil, ?_⟩
    | with_reducible refine ⟨_, eqD_ints, ?_⟩
    | with_reducible refine ⟨_, neD_ints, ?_⟩
    | with_reducible refine ⟨_, ltDD_lst, ?_⟩
    | with_reducible refine ⟨Nat.le_of_ble_eq_true rfl, ?_⟩
    | with_reducible refine ⟨_, rfl, ?_⟩
    | with_reducible refine ⟨_, _, rfl, ?_⟩
    | with_reducible refine ⟨_, _, rfl, (by with_unfolding_all rfl : itemsOf _ = some _), ?_⟩
    | with_reducible refine ⟨_, (by with_unfolding_all rfl : ordD _ _ = some _), ?_⟩
    | with_reducible refine ⟨(by with_unfolding_all rfl : tyStr _ _ = true), ?_⟩
    | with_reducible refine ⟨_, (by with_unfolding_all rfl : negD _ _ = some _), ?_⟩
    | with_reducible refine ⟨_, (by with_unfolding_all rfl : isiD _ _ _ = some _), ?_⟩
    | with_reducible refine ⟨_, (by with_unfolding_all rfl : Tg.set _ _ _ = some _), ?_⟩
    | with_reducible refine ⟨_, _, rfl, ?_⟩
    | (with_reducible refine ⟨fun hb => ?_, fun hb => ?_⟩ <;> (try simp only [decide_eq_true_eq, decide_eq_false_iff_not, Bool.not_eq_true', Bool.not_eq_false', reduceCtorEq] at hb) <;> (try (exfalso; revert hb; decide)))
    | fail
  all_goals first | (exfalso; revert hb; decide) | skip
  · have q := h _ rfl []
    rw [List.append_nil] at q
    unfold parsedD at q
    rw [e] at q
    exact q
  · have q := h _ rfl [.exn 2]
    unfold parsedD at q
    rw [e] at q
    exact q
/-! formatting -/
abbrev fmtM (ds : List D) : List Nat := TL.joinL [32] (ds.map strV)
theorem join_items {ds : List D} (hd : ∀ d ∈ ds, isItem d = true) (hl : ((ds.map strV).map List.length).sum + ds.length ≤ 100000) : joinD S (.str [32]) [.lst (ds.map fun d => .str (strV d))] = some (.str (fmtM ds), S) := by
  have e : ds.map (fun d => D.str (strV d)) = (ds.map strV).map .str := by rw [List.map_map]; rfl
  rw [e]
  show (match strsOf ((ds.map strV).map .str) with
    | some ls => if (ls.map List.length).sum + ls.length * [32].length ≤ 100000 then some (D.str (TL.joinL [32] ls), S) else none
    | none => none) = _
  rw [strs_map]
  show (if ((ds.map strV).map List.length).sum + (ds.map strV).length * 1 ≤ 100000 then some (D.str (TL.joinL [32] (ds.map strV)), S) else none) = _
  rw [if_pos (by rw [List.length_map]; omega)]
theorem fmt_split (t : List Nat) : fmtM (itemsM t) = t := by
  unfold fmtM
  rw [items_str]
  exact join_splitM t [32]
theorem rule_items (r : RV cs fg br en tn) : ∀ d ∈ [D.str cs, .str fg, .str br, .str en, .int tn], isItem d = true := by
  intro d hd
  simp only [List.mem_cons, List.not_mem_nil, or_false] at hd
  rcases hd with rfl | rfl | rfl | rfl | rfl
  · rfl
  · rfl
  · rfl
  · rfl
  · exact decide_eq_true r.tn
theorem word_len (r : RV cs fg br en tn) : cs.length ≤ 20 ∧ fg.length ≤ 20 ∧ br.length ≤ 20 ∧ en.length ≤ 20 := by
  have a : ∀ x ∈ [sApart, sMixed, sTogether, sLast], x.length ≤ 20 := by decide
  have b : ∀ x ∈ [sSigns, sNumbers, sStrict], x.length ≤ 20 := by decide
  have c : ∀ x ∈ [sAhead, sBehind], x.length ≤ 20 := by decide
  have d : ∀ x ∈ [sFirst, sBehind], x.length ≤ 20 := by decide
  exact ⟨a _ r.cs, b _ r.fg, c _ r.br, d _ r.en⟩
theorem rule_sum (r : RV cs fg br en tn) : ((([D.str cs, .str fg, .str br, .str en, .int tn]).map strV).map List.length).sum + ([D.str cs, .str fg, .str br, .str en, .int tn]).length ≤ 200 := by
  obtain ⟨h1, h2, h3, h4⟩ := word_len r
  have h5 : (strV (.int tn)).length = 1 := by
    show (if tn = 0 then [48] else [49]).length = 1
    split <;> rfl
  have e : ∀ s, strV (.str s) = s := fun _ => rfl
  simp only [List.map_cons, List.map_nil, List.sum_cons, List.sum_nil, List.length_cons, List.length_nil, h5, e]
  omega
theorem format_w (r : RV cs fg br en tn) (h : ∀ T, Q (.str (fmtM [.str cs, .str fg, .str br, .str en, .int tn])) (S ++ T)) : wp (m_format_rule S [ruleD cs fg br en tn]) Q X := by
  have rs := rule_sum r
  have ri := rule_items r
  unfold m_format_rule b_format_rule
  with_reducible refine w_fn2 (by simp only [List.map_cons, List.map_nil, List.replicate, List.cons_append, List.nil_append, Nat.reduceSub]; exact rfl) ?_
  repeat' first
    | (with_reducible refine check_rule_w r ?_)
    | with_reducible refine w_var _ (by with_unfolding_all rfl) ?_
    | with_reducible refine seqZ_nxs (by simp only [List.set_cons_succ, List.set_cons_zero]; exact rfl) ?_
    | with_reducible refine stepZ_nxs (by simp only [List.set_cons_succ, List.set_cons_zero]; exact rfl) ?_
    | with_reducible refine s_seq ?_
    | with_reducible refine s_set ?_
    | with_reducible refine s_if ?_
    | with_reducible refine s_ret ?_
    | with_reducible refine s_expr ?_
    | with_reducible refine s_next ?_
    | with_reducible refine s_par ?_
    | with_reducible refine s_asg ?_
    | with_reducible refine s_setIx ?_
    | with_reducible refine s_augIx ?_
    | with_reducible refine s_aug ?_
    | with_reducible refine s_for ?_
    | with_reducible refine s_break ?_
    | with_reducible refine s_cont ?_
    | with_reducible refine s_raise ?_
    | with_reducible refine seqZ_nx ?_
    | with_reducible refine seqZ_rt ?_
    | with_reducible refine seqZ_ct ?_
    | with_reducible refine seqZ_bk ?_
    | with_reducible refine seqZ_ex ?_
    | with_reducible refine fnZ_nx ?_
    | with_reducible refine fnZ_rt ?_
    | with_reducible refine fnZ_ex ?_
    | with_reducible refine stepZ_nx ?_
    | with_reducible refine stepZ_rt ?_
    | with_reducible refine stepZ_ct ?_
    | with_reducible refine stepZ_bk ?_
    | with_reducible refine stepZ_ex ?_
    | with_reducible refine w_C ?_
    | with_reducible refine w_r2 ?_
    | with_reducible refine w_r1 ?_
    | with_reducible refine w_cons ?_
    | with_reducible refine w_nil ?_
    | with_reducible refine w_tup ?_
    | with_reducible refine w_lst ?_
    | with_reducible refine w_lstM ?_
    | with_reducible refine w_listM ?_
    | with_reducible refine w_if ?_
    | with_reducible refine w_tOf ?_
    | with_reducible refine w_tAnd ?_
    | with_reducible refine w_tOr ?_
    | with_reducible refine w_tNot ?_
    | with_reducible refine w_tYes ?_
    | with_reducible refine w_vAnd ?_
    | with_reducible refine w_vOr ?_
    | with_reducible refine w_vNot ?_
    | with_reducible refine w_chain ?_
    | with_reducible refine w_call ?_
    | with_reducible refine w_cb ?_
    | with_reducible refine w_oNone ?_
    | with_reducible refine w_oSome ?_
    | with_reducible refine w_sl ?_
    | with_reducible refine w_mt ?_
    | with_reducible refine w_fz ?_
    | with_reducible refine w_any ?_
    | with_reducible refine w_rng1 ?_
    | with_reducible refine w_rng2 ?_
    | with_reducible refine w_zip ?_
    | with_reducible refine w_enum ?_
    | with_reducible refine w_lc ?_
    | with_reducible refine w_lcM ?_
    | with_reducible refine lc_nil ?_
    | with_reducible refine go_nil ?_
    | with_reducible refine s_try ?_
    | with_reducible refine tryZ_nx ?_
    | with_reducible refine tryZ_rt ?_
    | with_reducible refine tryZ_bk ?_
    | with_reducible refine tryZ_ct ?_
    | with_reducible refine tryZ_ex (by decide) ?_
    | with_reducible refine w_dct ?_
    | with_reducible refine ⟨_, eqD_ii, ?_⟩
    | with_reducible refine ⟨_, eqD_ss, ?_⟩
    | with_reducible refine ⟨_, neD_ii, ?_⟩
    | with_reducible refine ⟨_, neD_ss, ?_⟩
    | with_reducible refine ⟨_, eqD_bb, ?_⟩
    | with_reducible refine ⟨_, isD_bb, ?_⟩
    | with_reducible refine ⟨_, ltDD_ii, ?_⟩
    | with_reducible refine ⟨_, add_ii, ?_⟩
    | with_reducible refine ⟨_, eqD_tupI, ?_⟩
    | with_reducible refine ⟨_, ltDD_tup, ?_⟩
    | with_reducible refine ⟨_, eqD_strs, ?_⟩
    | with_reducible refine ⟨_, neD_strs, ?_⟩
    | with_reducible refine ⟨_, inD2_str, ?_⟩
    | with_reducible refine ⟨_, neD_nil, ?_⟩
    | with_reducible refine ⟨_, eqD_nil, ?_⟩
    | with_reducible refine ⟨_, eqD_ints, ?_⟩
    | with_reducible refine ⟨_, neD_ints, ?_⟩
    | with_reducible refine ⟨_, ltDD_lst, ?_⟩
    | with_reducible refine ⟨Nat.le_of_ble_eq_true rfl, ?_⟩
    | with_reducible refine ⟨_, rfl, ?_⟩
    | with_reducible refine ⟨_, _, rfl, ?_⟩
    | with_reducible refine ⟨_, _, rfl, (by with_unfolding_all rfl : itemsOf _ = some _), ?_⟩
    | with_reducible refine ⟨_, (by with_unfolding_all rfl : ordD _ _ = some _), ?_⟩
    | with_reducible refine ⟨(by with_unfolding_all rfl : tyStr _ _ = true), ?_⟩
    | with_reducible refine ⟨_, (by with_unfolding_all rfl : negD _ _ = some _), ?_⟩
    | with_reducible refine ⟨_, (by with_unfolding_all rfl : isiD _ _ _ = some _), ?_⟩
    | with_reducible refine ⟨_, (by with_unfolding_all rfl : Tg.set _ _ _ = some _), ?_⟩
    | with_reducible refine ⟨_, _, rfl, ?_⟩
    | (with_reducible refine ⟨fun hb => ?_, fun hb => ?_⟩ <;> (try simp only [decide_eq_true_eq, decide_eq_false_iff_not, Bool.not_eq_true', Bool.not_eq_false', reduceCtorEq] at hb) <;> (try (exfalso; revert hb; decide)))
    | fail
  refine .inr (.inl ⟨_, rfl, by simp, ?_⟩)
  refine lc_each0 (fun d => d) (fun d => D.str (strV d)) [.str cs, .str fg, .str br, .str en, .int tn] (fun d hd => ⟨_, rfl, fun T => ?_⟩) (fun T => ?_)
  · have e := str_item (S := S ++ T) (ri d hd)
    with_reducible refine wp_env (by simp only [wipeE, List.set_cons_succ, List.set_cons_zero]; exact rfl) ?_
    repeat' first
      | (with_reducible refine ⟨_, e, ?_⟩)
      | with_reducible refine w_var _ (by with_unfolding_all rfl) ?_
      | with_reducible refine seqZ_nxs (by simp only [List.set_cons_succ, List.set_cons_zero]; exact rfl) ?_
      | with_reducible refine stepZ_nxs (by simp only [List.set_cons_succ, List.set_cons_zero]; exact rfl) ?_
      | with_reducible refine s_seq ?_
      | with_reducible refine s_set ?_
      | with_reducible refine s_if ?_
      | with_reducible refine s_ret ?_
      | with_reducible refine s_expr ?_
      | with_reducible refine s_next ?_
      | with_reducible refine s_par ?_
      | with_reducible refine s_asg ?_
      | with_reducible refine s_setIx ?_
      | with_reducible refine s_augIx ?_
      | with_reducible refine s_aug ?_
      | with_reducible refine s_for ?_
      | with_reducible refine s_break ?_
      | with_reducible refine s_cont ?_
      | with_reducible refine s_raise ?_
      | with_reducible refine seqZ_nx ?_
      | with_reducible refine seqZ_rt ?_
      | with_reducible refine seqZ_ct ?_
      | with_reducible refine seqZ_bk ?_
      | with_reducible refine seqZ_ex ?_
      | with_reducible refine fnZ_nx ?_
      | with_reducible refine fnZ_rt ?_
      | with_reducible refine fnZ_ex ?_
      | with_reducible refine stepZ_nx ?_
      | with_reducible refine stepZ_rt ?_
      | with_reducible refine stepZ_ct ?_
      | with_reducible refine stepZ_bk ?_
      | with_reducible refine stepZ_ex ?_
      | with_reducible refine w_C ?_
      | with_reducible refine w_r2 ?_
      | with_reducible refine w_r1 ?_
      | with_reducible refine w_cons ?_
      | with_reducible refine w_nil ?_
      | with_reducible refine w_tup ?_
      | with_reducible refine w_lst ?_
      | with_reducible refine w_lstM ?_
      | with_reducible refine w_listM ?_
      | with_reducible refine w_if ?_
      | with_reducible refine w_tOf ?_
      | with_reducible refine w_tAnd ?_
      | with_reducible refine w_tOr ?_
      | with_reducible refine w_tNot ?_
      | with_reducible refine w_tYes ?_
      | with_reducible refine w_vAnd ?_
      | with_reducible refine w_vOr ?_
      | with_reducible refine w_vNot ?_
      | with_reducible refine w_chain ?_
      | with_reducible refine w_call ?_
      | with_reducible refine w_cb ?_
      | with_reducible refine w_oNone ?_
      | with_reducible refine w_oSome ?_
      | with_reducible refine w_sl ?_
      | with_reducible refine w_mt ?_
      | with_reducible refine w_fz ?_
      | with_reducible refine w_any ?_
      | with_reducible refine w_rng1 ?_
      | with_reducible refine w_rng2 ?_
      | with_reducible refine w_zip ?_
      | with_reducible refine w_enum ?_
      | with_reducible refine w_lc ?_
      | with_reducible refine w_lcM ?_
      | with_reducible refine lc_nil ?_
      | with_reducible refine go_nil ?_
      | with_reducible refine s_try ?_
      | with_reducible refine tryZ_nx ?_
      | with_reducible refine tryZ_rt ?_
      | with_reducible refine tryZ_bk ?_
      | with_reducible refine tryZ_ct ?_
      | with_reducible refine tryZ_ex (by decide) ?_
      | with_reducible refine w_dct ?_
      | with_reducible refine ⟨_, eqD_ii, ?_⟩
      | with_reducible refine ⟨_, eqD_ss, ?_⟩
      | with_reducible refine ⟨_, neD_ii, ?_⟩
      | with_reducible refine ⟨_, neD_ss, ?_⟩
      | with_reducible refine ⟨_, eqD_bb, ?_⟩
      | with_reducible refine ⟨_, isD_bb, ?_⟩
      | with_reducible refine ⟨_, ltDD_ii, ?_⟩
      | with_reducible refine ⟨_, add_ii, ?_⟩
      | with_reducible refine ⟨_, eqD_tupI, ?_⟩
      | with_reducible refine ⟨_, ltDD_tup, ?_⟩
      | with_reducible refine ⟨_, eqD_strs, ?_⟩
      | with_reducible refine ⟨_, neD_strs, ?_⟩
      | with_reducible refine ⟨_, inD2_str, ?_⟩
      | with_reducible refine ⟨_, neD_nil, ?_⟩
      | with_reducible refine ⟨_, eqD_nil, ?_⟩
      | with_reducible refine ⟨_, eqD_ints, ?_⟩
      | with_reducible refine ⟨_, neD_ints, ?_⟩
      | with_reducible refine ⟨_, ltDD_lst, ?_⟩
      | with_reducible refine ⟨Nat.le_of_ble_eq_true rfl, ?_⟩
      | with_reducible refine ⟨_, rfl, ?_⟩
      | with_reducible refine ⟨_, _, rfl, ?_⟩
      | with_reducible refine ⟨_, _, rfl, (by with_unfolding_all rfl : itemsOf _ = some _), ?_⟩
      | with_reducible refine ⟨_, (by with_unfolding_all rfl : ordD _ _ = some _), ?_⟩
      | with_reducible refine ⟨(by with_unfolding_all rfl : tyStr _ _ = true), ?_⟩
      | with_reducible refine ⟨_, (by with_unfolding_all rfl : negD _ _ = some _), ?_⟩
      | with_reducible refine ⟨_, (by with_unfolding_all rfl : isiD _ _ _ = some _), ?_⟩
      | with_reducible refine ⟨_, (by with_unfolding_all rfl : Tg.set _ _ _ = some _), ?_⟩
      | with_reducible refine ⟨_, _, rfl, ?_⟩
      | (with_reducible refine ⟨fun hb => ?_, fun hb => ?_⟩ <;> (try simp only [decide_eq_true_eq, decide_eq_false_iff_not, Bool.not_eq_true', Bool.not_eq_false', reduceCtorEq] at hb) <;> (try (exfalso; revert hb; decide)))
      | fail
    exact ⟨rfl, _, rfl⟩
  · repeat' first
      | (with_reducible refine ⟨_, _, join_items ri (by omega), ?_⟩)
      | with_reducible refine w_var _ (by with_unfolding_all rfl) ?_
      | with_reducible refine seqZ_nxs (by simp only [List.set_cons_succ, List.set_cons_zero]; exact rfl) ?_
      | with_reducible refine stepZ_nxs (by simp only [List.set_cons_succ, List.set_cons_zero]; exact rfl) ?_
      | with_reducible refine s_seq ?_
      | with_reducible refine s_set ?_
      | with_reducible refine s_if ?_
      | with_reducible refine s_ret ?_
      | with_reducible refine s_expr ?_
      | with_reducible refine s_next ?_
      | with_reducible refine s_par ?_
      | with_reducible refine s_asg ?_
      | with_reducible refine s_setIx ?_
      | with_reducible refine s_augIx ?_
      | with_reducible refine s_aug ?_
      | with_reducible refine s_for ?_
      | with_reducible refine s_break ?_
      | with_reducible refine s_cont ?_
      | with_reducible refine s_raise ?_
      | with_reducible refine seqZ_nx ?_
      | with_reducible refine seqZ_rt ?_
      | with_reducible refine seqZ_ct ?_
      | with_reducible refine seqZ_bk ?_
      | with_reducible refine seqZ_ex ?_
      | with_reducible refine fnZ_nx ?_
      | with_reducible refine fnZ_rt ?_
      | with_reducible refine fnZ_ex ?_
      | with_reducible refine stepZ_nx ?_
      | with_reducible refine stepZ_rt ?_
      | with_reducible refine stepZ_ct ?_
      | with_reducible refine stepZ_bk ?_
      | with_reducible refine stepZ_ex ?_
      | with_reducible refine w_C ?_
      | with_reducible refine w_r2 ?_
      | with_reducible refine w_r1 ?_
      | with_reducible refine w_cons ?_
      | with_reducible refine w_nil ?_
      | with_reducible refine w_tup ?_
      | with_reducible refine w_lst ?_
      | with_reducible refine w_lstM ?_
      | with_reducible refine w_listM ?_
      | with_reducible refine w_if ?_
      | with_reducible refine w_tOf ?_
      | with_reducible refine w_tAnd ?_
      | with_reducible refine w_tOr ?_
      | with_reducible refine w_tNot ?_
      | with_reducible refine w_tYes ?_
      | with_reducible refine w_vAnd ?_
      | with_reducible refine w_vOr ?_
      | with_reducible refine w_vNot ?_
      | with_reducible refine w_chain ?_
      | with_reducible refine w_call ?_
      | with_reducible refine w_cb ?_
      | with_reducible refine w_oNone ?_
      | with_reducible refine w_oSome ?_
      | with_reducible refine w_sl ?_
      | with_reducible refine w_mt ?_
      | with_reducible refine w_fz ?_
      | with_reducible refine w_any ?_
      | with_reducible refine w_rng1 ?_
      | with_reducible refine w_rng2 ?_
      | with_reducible refine w_zip ?_
      | with_reducible refine w_enum ?_
      | with_reducible refine w_lc ?_
      | with_reducible refine w_lcM ?_
      | with_reducible refine lc_nil ?_
      | with_reducible refine go_nil ?_
      | with_reducible refine s_try ?_
      | with_reducible refine tryZ_nx ?_
      | with_reducible refine tryZ_rt ?_
      | with_reducible refine tryZ_bk ?_
      | with_reducible refine tryZ_ct ?_
      | with_reducible refine tryZ_ex (by decide) ?_
      | with_reducible refine w_dct ?_
      | with_reducible refine ⟨_, eqD_ii, ?_⟩
      | with_reducible refine ⟨_, eqD_ss, ?_⟩
      | with_reducible refine ⟨_, neD_ii, ?_⟩
      | with_reducible refine ⟨_, neD_ss, ?_⟩
      | with_reducible refine ⟨_, eqD_bb, ?_⟩
      | with_reducible refine ⟨_, isD_bb, ?_⟩
      | with_reducible refine ⟨_, ltDD_ii, ?_⟩
      | with_reducible refine ⟨_, add_ii, ?_⟩
      | with_reducible refine ⟨_, eqD_tupI, ?_⟩
      | with_reducible refine ⟨_, ltDD_tup, ?_⟩
      | with_reducible refine ⟨_, eqD_strs, ?_⟩
      | with_reducible refine ⟨_, neD_strs, ?_⟩
      | with_reducible refine ⟨_, inD2_str, ?_⟩
      | with_reducible refine ⟨_, neD_nil, ?_⟩
      | with_reducible refine ⟨_, eqD_nil, ?_⟩
      | with_reducible refine ⟨_, eqD_ints, ?_⟩
      | with_reducible refine ⟨_, neD_ints, ?_⟩
      | with_reducible refine ⟨_, ltDD_lst, ?_⟩
      | with_reducible refine ⟨Nat.le_of_ble_eq_true rfl, ?_⟩
      | with_reducible refine ⟨_, rfl, ?_⟩
      | with_reducible refine ⟨_, _, rfl, ?_⟩
      | with_reducible refine ⟨_, _, rfl, (by with_unfolding_all rfl : itemsOf _ = some _), ?_⟩
      | with_reducible refine ⟨_, (by with_unfolding_all rfl : ordD _ _ = some _), ?_⟩
      | with_reducible refine ⟨(by with_unfolding_all rfl : tyStr _ _ = true), ?_⟩
      | with_reducible refine ⟨_, (by with_unfolding_all rfl : negD _ _ = some _), ?_⟩
      | with_reducible refine ⟨_, (by with_unfolding_all rfl : isiD _ _ _ = some _), ?_⟩
      | with_reducible refine ⟨_, (by with_unfolding_all rfl : Tg.set _ _ _ = some _), ?_⟩
      | with_reducible refine ⟨_, _, rfl, ?_⟩
      | (with_reducible refine ⟨fun hb => ?_, fun hb => ?_⟩ <;> (try simp only [decide_eq_true_eq, decide_eq_false_iff_not, Bool.not_eq_true', Bool.not_eq_false', reduceCtorEq] at hb) <;> (try (exfalso; revert hb; decide)))
      | fail
    exact h T
theorem lc_eachI {t : Tg} {re : Ev → Store → Res D} {env : Ev} {A : List D → Store → Prop} {items : List D} (f : D → D)
    (hs : ∀ d ∈ items, ∃ e1, t.set env d = some e1 ∧ ∀ T, wp (re e1 (S ++ T)) (fun r S2 => r = f d ∧ ∃ T', S2 = S ++ T') fun _ _ => False)
    (h : ∀ T, A (items.map f) (S ++ T)) : wp (lcGo t tYesR re env items S) A X := by
  have q := lc_each0 (t := t) (env := env) (S := S) (A := A) (X := X) (fun d => d) f items hs h
  rwa [List.map_id'] at q
theorem split_one {t : List Nat} (h : 32 ∉ t) : splitM t [32] = [t] := by
  have j := join_splitM t [32]
  match e : splitM t [32], j with
  | [], j =>
    have : t = [] := j.symm
    subst this
    have : splitM [] [32] = [[]] := by decide +kernel
    rw [this] at e; cases e
  | [p], j =>
    have : p = t := j
    rw [this]
  | p :: q :: r, j =>
    exfalso
    apply h
    rw [← j]
    simp [TL.joinL]
def badB (d : D) : Bool := okD d && (parseD d).isNone
theorem bad_ok {d : D} (h : badB d = true) : okD d = true ∧ parsedD d = .str sText := by
  unfold badB at h
  rw [Bool.and_eq_true] at h
  refine ⟨h.1, ?_⟩
  unfold parsedD
  cases e : parseD d with
  | none => rfl
  | some ds => rw [e] at h; cases h.2
theorem bad_one {t : List Nat} (h : 32 ∉ t) (hl : t.length ≤ 90000) : badB (.str t) = true := by
  unfold badB
  rw [Bool.and_eq_true]
  refine ⟨decide_eq_true hl, ?_⟩
  show (parseM t).isNone = true
  unfold parseM itemsM
  rw [split_one h]
  rfl
theorem rejected_w (h : ∀ T, Q (.bl true) (S ++ T)) : wp (m__law_rejected S []) Q X := by
  have mu : ∀ S, mulD S (.lst [.str sText]) (.int 24) = some (.lst (List.replicate 24 (.str sText))) := fun S => rfl
  have ms : ∀ S, mulSD S (.str [49]) (.int 4000) = some (.str (List.replicate 4000 [49]).flatten) := fun S => rfl
  have eq24 : ∀ S (L : List D), L.length = 24 → eqD S (.lst (L.map fun _ => D.str sText)) (.lst (List.replicate 24 (.str sText))) = some (.bl true) := fun S L hL => by
    have p : D.pl 1 (.lst (List.replicate 24 (.str sText))) = true := rfl
    rw [List.map_const', hL, eqD_pl 1 (by decide) p p]
    simp
  have lb : badB (.str (List.replicate 4000 [49]).flatten) = true := bad_one (by
    intro hm
    obtain ⟨l, hl, hc⟩ := List.mem_flatten.mp hm
    rw [List.eq_of_mem_replicate hl] at hc
    simp at hc) (by simp)
  generalize (List.replicate 4000 [49]).flatten = long at ms lb
  unfold m__law_rejected b__law_rejected
  with_reducible refine w_fn2 (by simp only [List.map_cons, List.map_nil, List.replicate, List.cons_append, List.nil_append, Nat.reduceSub]; exact rfl) ?_
  repeat' first
    | (with_reducible refine ⟨_, ms _, ?_⟩)
    | (with_reducible refine ⟨_, add_ll (by simp), ?_⟩)
    | with_reducible refine w_var _ (by with_unfolding_all rfl) ?_
    | with_reducible refine seqZ_nxs (by simp only [List.set_cons_succ, List.set_cons_zero]; exact rfl) ?_
    | with_reducible refine stepZ_nxs (by simp only [List.set_cons_succ, List.set_cons_zero]; exact rfl) ?_
    | with_reducible refine s_seq ?_
    | with_reducible refine s_set ?_
    | with_reducible refine s_if ?_
    | with_reducible refine s_ret ?_
    | with_reducible refine s_expr ?_
    | with_reducible refine s_next ?_
    | with_reducible refine s_par ?_
    | with_reducible refine s_asg ?_
    | with_reducible refine s_setIx ?_
    | with_reducible refine s_augIx ?_
    | with_reducible refine s_aug ?_
    | with_reducible refine s_for ?_
    | with_reducible refine s_break ?_
    | with_reducible refine s_cont ?_
    | with_reducible refine s_raise ?_
    | with_reducible refine seqZ_nx ?_
    | with_reducible refine seqZ_rt ?_
    | with_reducible refine seqZ_ct ?_
    | with_reducible refine seqZ_bk ?_
    | with_reducible refine seqZ_ex ?_
    | with_reducible refine fnZ_nx ?_
    | with_reducible refine fnZ_rt ?_
    | with_reducible refine fnZ_ex ?_
    | with_reducible refine stepZ_nx ?_
    | with_reducible refine stepZ_rt ?_
    | with_reducible refine stepZ_ct ?_
    | with_reducible refine stepZ_bk ?_
    | with_reducible refine stepZ_ex ?_
    | with_reducible refine w_C ?_
    | with_reducible refine w_r2 ?_
    | with_reducible refine w_r1 ?_
    | with_reducible refine w_cons ?_
    | with_reducible refine w_nil ?_
    | with_reducible refine w_tup ?_
    | with_reducible refine w_lst ?_
    | with_reducible refine w_lstM ?_
    | with_reducible refine w_listM ?_
    | with_reducible refine w_if ?_
    | with_reducible refine w_tOf ?_
    | with_reducible refine w_tAnd ?_
    | with_reducible refine w_tOr ?_
    | with_reducible refine w_tNot ?_
    | with_reducible refine w_tYes ?_
    | with_reducible refine w_vAnd ?_
    | with_reducible refine w_vOr ?_
    | with_reducible refine w_vNot ?_
    | with_reducible refine w_chain ?_
    | with_reducible refine w_call ?_
    | with_reducible refine w_cb ?_
    | with_reducible refine w_oNone ?_
    | with_reducible refine w_oSome ?_
    | with_reducible refine w_sl ?_
    | with_reducible refine w_mt ?_
    | with_reducible refine w_fz ?_
    | with_reducible refine w_any ?_
    | with_reducible refine w_rng1 ?_
    | with_reducible refine w_rng2 ?_
    | with_reducible refine w_zip ?_
    | with_reducible refine w_enum ?_
    | with_reducible refine w_lc ?_
    | with_reducible refine w_lcM ?_
    | with_reducible refine lc_nil ?_
    | with_reducible refine go_nil ?_
    | with_reducible refine s_try ?_
    | with_reducible refine tryZ_nx ?_
    | with_reducible refine tryZ_rt ?_
    | with_reducible refine tryZ_bk ?_
    | with_reducible refine tryZ_ct ?_
    | with_reducible refine tryZ_ex (by decide) ?_
    | with_reducible refine w_dct ?_
    | with_reducible refine ⟨_, eqD_ii, ?_⟩
    | with_reducible refine ⟨_, eqD_ss, ?_⟩
    | with_reducible refine ⟨_, neD_ii, ?_⟩
    | with_reducible refine ⟨_, neD_ss, ?_⟩
    | with_reducible refine ⟨_, eqD_bb, ?_⟩
    | with_reducible refine ⟨_, isD_bb, ?_⟩
    | with_reducible refine ⟨_, ltDD_ii, ?_⟩
    | with_reducible refine ⟨_, add_ii, ?_⟩
    | with_reducible refine ⟨_, eqD_tupI, ?_⟩
    | with_reducible refine ⟨_, ltDD_tup, ?_⟩
    | with_reducible refine ⟨_, eqD_strs, ?_⟩
    | with_reducible refine ⟨_, neD_strs, ?_⟩
    | with_reducible refine ⟨_, inD2_str, ?_⟩
    | with_reducible refine ⟨_, neD_nil, ?_⟩
    | with_reducible refine ⟨_, eqD_nil, ?_⟩
    | with_reducible refine ⟨_, eqD_ints, ?_⟩
    | with_reducible refine ⟨_, neD_ints, ?_⟩
    | with_reducible refine ⟨_, ltDD_lst, ?_⟩
    | with_reducible refine ⟨Nat.le_of_ble_eq_true rfl, ?_⟩
    | with_reducible refine ⟨_, rfl, ?_⟩
    | with_reducible refine ⟨_, _, rfl, ?_⟩
    | with_reducible refine ⟨_, _, rfl, (by with_unfolding_all rfl : itemsOf _ = some _), ?_⟩
    | with_reducible refine ⟨_, (by with_unfolding_all rfl : ordD _ _ = some _), ?_⟩
    | with_reducible refine ⟨(by with_unfolding_all rfl : tyStr _ _ = true), ?_⟩
    | with_reducible refine ⟨_, (by with_unfolding_all rfl : negD _ _ = some _), ?_⟩
    | with_reducible refine ⟨_, (by with_unfolding_all rfl : isiD _ _ _ = some _), ?_⟩
    | with_reducible refine ⟨_, (by with_unfolding_all rfl : Tg.set _ _ _ = some _), ?_⟩
    | with_reducible refine ⟨_, _, rfl, ?_⟩
    | (with_reducible refine ⟨fun hb => ?_, fun hb => ?_⟩ <;> (try simp only [decide_eq_true_eq, decide_eq_false_iff_not, Bool.not_eq_true', Bool.not_eq_false', reduceCtorEq] at hb) <;> (try (exfalso; revert hb; decide)))
    | fail
  refine .inl ⟨_, rfl, by simp, ?_⟩
  refine lc_eachI (fun _ => D.str sText) (fun d hd => ⟨_, rfl, fun T => ?_⟩) (fun T => ?_)
  · have hb : badB d = true := by
      rcases List.mem_append.mp hd with hd | hd
      · exact List.all_eq_true.mp (by decide +kernel : List.all _ badB = true) d hd
      · simp only [List.mem_cons, List.not_mem_nil, or_false] at hd
        rcases hd with rfl | rfl | rfl | rfl | rfl | rfl
        all_goals first | exact lb | decide +kernel
    obtain ⟨b1, b2⟩ := bad_ok hb
    with_reducible refine wp_env (by simp only [wipeE, List.set_cons_succ, List.set_cons_zero]; exact rfl) ?_
    repeat' first
      | ((with_reducible refine parsed_w b1 fun _ hr T => ?_) ; subst hr)
      | with_reducible refine w_var _ (by with_unfolding_all rfl) ?_
      | with_reducible refine seqZ_nxs (by simp only [List.set_cons_succ, List.set_cons_zero]; exact rfl) ?_
      | with_reducible refine stepZ_nxs (by simp only [List.set_cons_succ, List.set_cons_zero]; exact rfl) ?_
      | with_reducible refine s_seq ?_
      | with_reducible refine s_set ?_
      | with_reducible refine s_if ?_
      | with_reducible refine s_ret ?_
      | with_reducible refine s_expr ?_
      | with_reducible refine s_next ?_
      | with_reducible refine s_par ?_
      | with_reducible refine s_asg ?_
      | with_reducible refine s_setIx ?_
      | with_reducible refine s_augIx ?_
      | with_reducible refine s_aug ?_
      | with_reducible refine s_for ?_
      | with_reducible refine s_break ?_
      | with_reducible refine s_cont ?_
      | with_reducible refine s_raise ?_
      | with_reducible refine seqZ_nx ?_
      | with_reducible refine seqZ_rt ?_
      | with_reducible refine seqZ_ct ?_
      | with_reducible refine seqZ_bk ?_
      | with_reducible refine seqZ_ex ?_
      | with_reducible refine fnZ_nx ?_
      | with_reducible refine fnZ_rt ?_
      | with_reducible refine fnZ_ex ?_
      | with_reducible refine stepZ_nx ?_
      | with_reducible refine stepZ_rt ?_
      | with_reducible refine stepZ_ct ?_
      | with_reducible refine stepZ_bk ?_
      | with_reducible refine stepZ_ex ?_
      | with_reducible refine w_C ?_
      | with_reducible refine w_r2 ?_
      | with_reducible refine w_r1 ?_
      | with_reducible refine w_cons ?_
      | with_reducible refine w_nil ?_
      | with_reducible refine w_tup ?_
      | with_reducible refine w_lst ?_
      | with_reducible refine w_lstM ?_
      | with_reducible refine w_listM ?_
      | with_reducible refine w_if ?_
      | with_reducible refine w_tOf ?_
      | with_reducible refine w_tAnd ?_
      | with_reducible refine w_tOr ?_
      | with_reducible refine w_tNot ?_
      | with_reducible refine w_tYes ?_
      | with_reducible refine w_vAnd ?_
      | with_reducible refine w_vOr ?_
      | with_reducible refine w_vNot ?_
      | with_reducible refine w_chain ?_
      | with_reducible refine w_call ?_
      | with_reducible refine w_cb ?_
      | with_reducible refine w_oNone ?_
      | with_reducible refine w_oSome ?_
      | with_reducible refine w_sl ?_
      | with_reducible refine w_mt ?_
      | with_reducible refine w_fz ?_
      | with_reducible refine w_any ?_
      | with_reducible refine w_rng1 ?_
      | with_reducible refine w_rng2 ?_
      | with_reducible refine w_zip ?_
      | with_reducible refine w_enum ?_
      | with_reducible refine w_lc ?_
      | with_reducible refine w_lcM ?_
      | with_reducible refine lc_nil ?_
      | with_reducible refine go_nil ?_
      | with_reducible refine s_try ?_
      | with_reducible refine tryZ_nx ?_
      | with_reducible refine tryZ_rt ?_
      | with_reducible refine tryZ_bk ?_
      | with_reducible refine tryZ_ct ?_
      | with_reducible refine tryZ_ex (by decide) ?_
      | with_reducible refine w_dct ?_
      | with_reducible refine ⟨_, eqD_ii, ?_⟩
      | with_reducible refine ⟨_, eqD_ss, ?_⟩
      | with_reducible refine ⟨_, neD_ii, ?_⟩
      | with_reducible refine ⟨_, neD_ss, ?_⟩
      | with_reducible refine ⟨_, eqD_bb, ?_⟩
      | with_reducible refine ⟨_, isD_bb, ?_⟩
      | with_reducible refine ⟨_, ltDD_ii, ?_⟩
      | with_reducible refine ⟨_, add_ii, ?_⟩
      | with_reducible refine ⟨_, eqD_tupI, ?_⟩
      | with_reducible refine ⟨_, ltDD_tup, ?_⟩
      | with_reducible refine ⟨_, eqD_strs, ?_⟩
      | with_reducible refine ⟨_, neD_strs, ?_⟩
      | with_reducible refine ⟨_, inD2_str, ?_⟩
      | with_reducible refine ⟨_, neD_nil, ?_⟩
      | with_reducible refine ⟨_, eqD_nil, ?_⟩
      | with_reducible refine ⟨_, eqD_ints, ?_⟩
      | with_reducible refine ⟨_, neD_ints, ?_⟩
      | with_reducible refine ⟨_, ltDD_lst, ?_⟩
      | with_reducible refine ⟨Nat.le_of_ble_eq_true rfl, ?_⟩
      | with_reducible refine ⟨_, rfl, ?_⟩
      | with_reducible refine ⟨_, _, rfl, ?_⟩
      | with_reducible refine ⟨_, _, rfl, (by with_unfolding_all rfl : itemsOf _ = some _), ?_⟩
      | with_reducible refine ⟨_, (by with_unfolding_all rfl : ordD _ _ = some _), ?_⟩
      | with_reducible refine ⟨(by with_unfolding_all rfl : tyStr _ _ = true), ?_⟩
      | with_reducible refine ⟨_, (by with_unfolding_all rfl : negD _ _ = some _), ?_⟩
      | with_reducible refine ⟨_, (by with_unfolding_all rfl : isiD _ _ _ = some _), ?_⟩
      | with_reducible refine ⟨_, (by with_unfolding_all rfl : Tg.set _ _ _ = some _), ?_⟩
      | with_reducible refine ⟨_, _, rfl, ?_⟩
      | (with_reducible refine ⟨fun hb => ?_, fun hb => ?_⟩ <;> (try simp only [decide_eq_true_eq, decide_eq_false_iff_not, Bool.not_eq_true', Bool.not_eq_false', reduceCtorEq] at hb) <;> (try (exfalso; revert hb; decide)))
      | fail
    exact ⟨b2, _, List.append_assoc _ _ _⟩
  · repeat' first
      | (with_reducible refine ⟨_, mu _, ?_⟩)
      | (with_reducible refine ⟨_, eq24 _ _ rfl, ?_⟩)
      | with_reducible refine w_var _ (by with_unfolding_all rfl) ?_
      | with_reducible refine seqZ_nxs (by simp only [List.set_cons_succ, List.set_cons_zero]; exact rfl) ?_
      | with_reducible refine stepZ_nxs (by simp only [List.set_cons_succ, List.set_cons_zero]; exact rfl) ?_
      | with_reducible refine s_seq ?_
      | with_reducible refine s_set ?_
      | with_reducible refine s_if ?_
      | with_reducible refine s_ret ?_
      | with_reducible refine s_expr ?_
      | with_reducible refine s_next ?_
      | with_reducible refine s_par ?_
      | with_reducible refine s_asg ?_
      | with_reducible refine s_setIx ?_
      | with_reducible refine s_augIx ?_
      | with_reducible refine s_aug ?_
      | with_reducible refine s_for ?_
      | with_reducible refine s_break ?_
      | with_reducible refine s_cont ?_
      | with_reducible refine s_raise ?_
      | with_reducible refine seqZ_nx ?_
      | with_reducible refine seqZ_rt ?_
      | with_reducible refine seqZ_ct ?_
      | with_reducible refine seqZ_bk ?_
      | with_reducible refine seqZ_ex ?_
      | with_reducible refine fnZ_nx ?_
      | with_reducible refine fnZ_rt ?_
      | with_reducible refine fnZ_ex ?_
      | with_reducible refine stepZ_nx ?_
      | with_reducible refine stepZ_rt ?_
      | with_reducible refine stepZ_ct ?_
      | with_reducible refine stepZ_bk ?_
      | with_reducible refine stepZ_ex ?_
      | with_reducible refine w_C ?_
      | with_reducible refine w_r2 ?_
      | with_reducible refine w_r1 ?_
      | with_reducible refine w_cons ?_
      | with_reducible refine w_nil ?_
      | with_reducible refine w_tup ?_
      | with_reducible refine w_lst ?_
      | with_reducible refine w_lstM ?_
      | with_reducible refine w_listM ?_
      | with_reducible refine w_if ?_
      | with_reducible refine w_tOf ?_
      | with_reducible refine w_tAnd ?_
      | with_reducible refine w_tOr ?_
      | with_reducible refine w_tNot ?_
      | with_reducible refine w_tYes ?_
      | with_reducible refine w_vAnd ?_
      | with_reducible refine w_vOr ?_
      | with_reducible refine w_vNot ?_
      | with_reducible refine w_chain ?_
      | with_reducible refine w_call ?_
      | with_reducible refine w_cb ?_
      | with_reducible refine w_oNone ?_
      | with_reducible refine w_oSome ?_
      | with_reducible refine w_sl ?_
      | with_reducible refine w_mt ?_
      | with_reducible refine w_fz ?_
      | with_reducible refine w_any ?_
      | with_reducible refine w_rng1 ?_
      | with_reducible refine w_rng2 ?_
      | with_reducible refine w_zip ?_
      | with_reducible refine w_enum ?_
      | with_reducible refine w_lc ?_
      | with_reducible refine w_lcM ?_
      | with_reducible refine lc_nil ?_
      | with_reducible refine go_nil ?_
      | with_reducible refine s_try ?_
      | with_reducible refine tryZ_nx ?_
      | with_reducible refine tryZ_rt ?_
      | with_reducible refine tryZ_bk ?_
      | with_reducible refine tryZ_ct ?_
      | with_reducible refine tryZ_ex (by decide) ?_
      | with_reducible refine w_dct ?_
      | with_reducible refine ⟨_, eqD_ii, ?_⟩
      | with_reducible refine ⟨_, eqD_ss, ?_⟩
      | with_reducible refine ⟨_, neD_ii, ?_⟩
      | with_reducible refine ⟨_, neD_ss, ?_⟩
      | with_reducible refine ⟨_, eqD_bb, ?_⟩
      | with_reducible refine ⟨_, isD_bb, ?_⟩
      | with_reducible refine ⟨_, ltDD_ii, ?_⟩
      | with_reducible refine ⟨_, add_ii, ?_⟩
      | with_reducible refine ⟨_, eqD_tupI, ?_⟩
      | with_reducible refine ⟨_, ltDD_tup, ?_⟩
      | with_reducible refine ⟨_, eqD_strs, ?_⟩
      | with_reducible refine ⟨_, neD_strs, ?_⟩
      | with_reducible refine ⟨_, inD2_str, ?_⟩
      | with_reducible refine ⟨_, neD_nil, ?_⟩
      | with_reducible refine ⟨_, eqD_nil, ?_⟩
      | with_reducible refine ⟨_, eqD_ints, ?_⟩
      | with_reducible refine ⟨_, neD_ints, ?_⟩
      | with_reducible refine ⟨_, ltDD_lst, ?_⟩
      | with_reducible refine ⟨Nat.le_of_ble_eq_true rfl, ?_⟩
      | with_reducible refine ⟨_, rfl, ?_⟩
      | with_reducible refine ⟨_, _, rfl, ?_⟩
      | with_reducible refine ⟨_, _, rfl, (by with_unfolding_all rfl : itemsOf _ = some _), ?_⟩
      | with_reducible refine ⟨_, (by with_unfolding_all rfl : ordD _ _ = some _), ?_⟩
      | with_reducible refine ⟨(by with_unfolding_all rfl : tyStr _ _ = true), ?_⟩
      | with_reducible refine ⟨_, (by with_unfolding_all rfl : negD _ _ = some _), ?_⟩
      | with_reducible refine ⟨_, (by with_unfolding_all rfl : isiD _ _ _ = some _), ?_⟩
      | with_reducible refine ⟨_, (by with_unfolding_all rfl : Tg.set _ _ _ = some _), ?_⟩
      | with_reducible refine ⟨_, _, rfl, ?_⟩
      | (with_reducible refine ⟨fun hb => ?_, fun hb => ?_⟩ <;> (try simp only [decide_eq_true_eq, decide_eq_false_iff_not, Bool.not_eq_true', Bool.not_eq_false', reduceCtorEq] at hb) <;> (try (exfalso; revert hb; decide)))
      | fail
    exact h T
/-! all rules -/
abbrev r2M (c f b e : List Nat) : List D := [.tup [.str c, .str f, .str b, .str e, .int 0], .tup [.str c, .str f, .str b, .str e, .int 1]]
abbrev e4 : List (List Nat) := [sFirst, sBehind]
abbrev b4 : List (List Nat) := [sAhead, sBehind]
abbrev f4 : List (List Nat) := [sSigns, sNumbers, sStrict]
abbrev c4 : List (List Nat) := [sApart, sMixed, sTogether, sLast]
def allR : List D := c4.flatMap fun c => f4.flatMap fun f => b4.flatMap fun b => e4.flatMap fun e => r2M c f b e
theorem fz_at {T : Store} {ds : List D} : fzD (.loc S.length) (S ++ [.lst ds] ++ T) = some (.lst ds, S ++ [.dead] ++ T) := by
  simp [fzD]
theorem all_rules_w (h : ∀ T, Q (.lst allR) (S ++ T)) : wp (m_all_rules S []) Q X := by
  have l96 : allR.length = 96 := rfl
  unfold m_all_rules b_all_rules
  with_reducible refine w_fn2 (by simp only [List.map_cons, List.map_nil, List.replicate, List.cons_append, List.nil_append, Nat.reduceSub]; exact rfl) ?_
  repeat' first
    | with_reducible refine w_var _ (by with_unfolding_all rfl) ?_
    | with_reducible refine seqZ_nxs (by simp only [List.set_cons_succ, List.set_cons_zero]; exact rfl) ?_
    | with_reducible refine stepZ_nxs (by simp only [List.set_cons_succ, List.set_cons_zero]; exact rfl) ?_
    | with_reducible refine s_seq ?_
    | with_reducible refine s_set ?_
    | with_reducible refine s_if ?_
    | with_reducible refine s_ret ?_
    | with_reducible refine s_expr ?_
    | with_reducible refine s_next ?_
    | with_reducible refine s_par ?_
    | with_reducible refine s_asg ?_
    | with_reducible refine s_setIx ?_
    | with_reducible refine s_augIx ?_
    | with_reducible refine s_aug ?_
    | with_reducible refine s_for ?_
    | with_reducible refine s_break ?_
    | with_reducible refine s_cont ?_
    | with_reducible refine s_raise ?_
    | with_reducible refine seqZ_nx ?_
    | with_reducible refine seqZ_rt ?_
    | with_reducible refine seqZ_ct ?_
    | with_reducible refine seqZ_bk ?_
    | with_reducible refine seqZ_ex ?_
    | with_reducible refine fnZ_nx ?_
    | with_reducible refine fnZ_rt ?_
    | with_reducible refine fnZ_ex ?_
    | with_reducible refine stepZ_nx ?_
    | with_reducible refine stepZ_rt ?_
    | with_reducible refine stepZ_ct ?_
    | with_reducible refine stepZ_bk ?_
    | with_reducible refine stepZ_ex ?_
    | with_reducible refine w_C ?_
    | with_reducible refine w_r2 ?_
    | with_reducible refine w_r1 ?_
    | with_reducible refine w_cons ?_
    | with_reducible refine w_nil ?_
    | with_reducible refine w_tup ?_
    | with_reducible refine w_lst ?_
    | with_reducible refine w_lstM ?_
    | with_reducible refine w_listM ?_
    | with_reducible refine w_if ?_
    | with_reducible refine w_tOf ?_
    | with_reducible refine w_tAnd ?_
    | with_reducible refine w_tOr ?_
    | with_reducible refine w_tNot ?_
    | with_reducible refine w_tYes ?_
    | with_reducible refine w_vAnd ?_
    | with_reducible refine w_vOr ?_
    | with_reducible refine w_vNot ?_
    | with_reducible refine w_chain ?_
    | with_reducible refine w_call ?_
    | with_reducible refine w_cb ?_
    | with_reducible refine w_oNone ?_
    | with_reducible refine w_oSome ?_
    | with_reducible refine w_sl ?_
    | with_reducible refine w_mt ?_
    | with_reducible refine w_fz ?_
    | with_reducible refine w_any ?_
    | with_reducible refine w_rng1 ?_
    | with_reducible refine w_rng2 ?_
    | with_reducible refine w_zip ?_
    | with_reducible refine w_enum ?_
    | with_reducible refine w_lc ?_
    | with_reducible refine w_lcM ?_
    | with_reducible refine lc_nil ?_
    | with_reducible refine go_nil ?_
    | with_reducible refine s_try ?_
    | with_reducible refine tryZ_nx ?_
    | with_reducible refine tryZ_rt ?_
    | with_reducible refine tryZ_bk ?_
    | with_reducible refine tryZ_ct ?_
    | with_reducible refine tryZ_ex (by decide) ?_
    | with_reducible refine w_dct ?_
    | with_reducible refine ⟨_, eqD_ii, ?_⟩
    | with_reducible refine ⟨_, eqD_ss, ?_⟩
    | with_reducible refine ⟨_, neD_ii, ?_⟩
    | with_reducible refine ⟨_, neD_ss, ?_⟩
    | with_reducible refine ⟨_, eqD_bb, ?_⟩
    | with_reducible refine ⟨_, isD_bb, ?_⟩
    | with_reducible refine ⟨_, ltDD_ii, ?_⟩
    | with_reducible refine ⟨_, add_ii, ?_⟩
    | with_reducible refine ⟨_, eqD_tupI, ?_⟩
    | with_reducible refine ⟨_, ltDD_tup, ?_⟩
    | with_reducible refine ⟨_, eqD_strs, ?_⟩
    | with_reducible refine ⟨_, neD_strs, ?_⟩
    | with_reducible refine ⟨_, inD2_str, ?_⟩
    | with_reducible refine ⟨_, neD_nil, ?_⟩
    | with_reducible refine ⟨_, eqD_nil, ?_⟩
    | with_reducible refine ⟨_, eqD_ints, ?_⟩
    | with_reducible refine ⟨_, neD_ints, ?_⟩
    | with_reducible refine ⟨_, ltDD_lst, ?_⟩
    | with_reducible refine ⟨Nat.le_of_ble_eq_true rfl, ?_⟩
    | with_reducible refine ⟨_, rfl, ?_⟩
    | with_reducible refine ⟨_, _, rfl, ?_⟩
    | with_reducible refine ⟨_, _, rfl, (by with_unfolding_all rfl : itemsOf _ = some _), ?_⟩
    | with_reducible refine ⟨_, (by with_unfolding_all rfl : ordD _ _ = some _), ?_⟩
    | with_reducible refine ⟨(by with_unfolding_all rfl : tyStr _ _ = true), ?_⟩
    | with_reducible refine ⟨_, (by with_unfolding_all rfl : negD _ _ = some _), ?_⟩
    | with_reducible refine ⟨_, (by with_unfolding_all rfl : isiD _ _ _ = some _), ?_⟩
    | with_reducible refine ⟨_, (by with_unfolding_all rfl : Tg.set _ _ _ = some _), ?_⟩
    | with_reducible refine ⟨_, _, rfl, ?_⟩
    | (with_reducible refine ⟨fun hb => ?_, fun hb => ?_⟩ <;> (try simp only [decide_eq_true_eq, decide_eq_false_iff_not, Bool.not_eq_true', Bool.not_eq_false', reduceCtorEq] at hb) <;> (try (exfalso; revert hb; decide)))
    | fail
  refine .inr (.inl ⟨_, rfl, ?_⟩)
  refine go_inv (fun items e S1 => ∃ (l : List (List Nat)) (acc : List D) (x1 x2 x3 x4 x5 : Option D) (T : Store), items = l.map D.str ∧ acc ++ (l.flatMap fun c => f4.flatMap fun f => b4.flatMap fun b => e4.flatMap fun e => r2M c f b e) = allR ∧
    e = [some (.loc S.length), x1, x2, x3, x4, x5] ∧ S1 = S ++ [.lst acc] ++ T) ?_ ?_ _ _ _ ⟨c4, [], _, _, _, _, _, [], rfl, rfl, rfl, by simp⟩
  · rintro e S1 ⟨l, acc, x1, x2, x3, x4, x5, T, hi, ha, rfl, rfl⟩
    cases l with
    | cons => cases hi
    | nil =>
      rw [List.flatMap_nil, List.append_nil] at ha
      subst ha
      repeat' first
        | with_reducible refine ⟨_, _, fz_at, ?_⟩
        | with_reducible refine w_var _ (by with_unfolding_all rfl) ?_
        | with_reducible refine seqZ_nxs (by simp only [List.set_cons_succ, List.set_cons_zero]; exact rfl) ?_
        | with_reducible refine stepZ_nxs (by simp only [List.set_cons_succ, List.set_cons_zero]; exact rfl) ?_
        | with_reducible refine s_seq ?_
        | with_reducible refine s_set ?_
        | with_reducible refine s_if ?_
        | with_reducible refine s_ret ?_
        | with_reducible refine s_expr ?_
        | with_reducible refine s_next ?_
        | with_reducible refine s_par ?_
        | with_reducible refine s_asg ?_
        | with_reducible refine s_setIx ?_
        | with_reducible refine s_augIx ?_
        | with_reducible refine s_aug ?_
        | with_reducible refine s_for ?_
        | with_reducible refine s_break ?_
        | with_reducible refine s_cont ?_
        | with_reducible refine s_raise ?_
        | with_reducible refine seqZ_nx ?_
        | with_reducible refine seqZ_rt ?_
        | with_reducible refine seqZ_ct ?_
        | with_reducible refine seqZ_bk ?_
        | with_reducible refine seqZ_ex ?_
        | with_reducible refine fnZ_nx ?_
        | with_reducible refine fnZ_rt ?_
        | with_reducible refine fnZ_ex ?_
        | with_reducible refine stepZ_nx ?_
        | with_reducible refine stepZ_rt ?_
        | with_reducible refine stepZ_ct ?_
        | with_reducible refine stepZ_bk ?_
        | with_reducible refine stepZ_ex ?_
        | with_reducible refine w_C ?_
        | with_reducible refine w_r2 ?_
        | with_reducible refine w_r1 ?_
        | with_reducible refine w_cons ?_
        | with_reducible refine w_nil ?_
        | with_reducible refine w_tup ?_
        | with_reducible refine w_lst ?_
        | with_reducible refine w_lstM ?_
        | with_reducible refine w_listM ?_
        | with_reducible refine w_if ?_
        | with_reducible refine w_tOf ?_
        | with_reducible refine w_tAnd ?_
        | with_reducible refine w_tOr ?_
        | with_reducible refine w_tNot ?_
        | with_reducible refine w_tYes ?_
        | with_reducible refine w_vAnd ?_
        | with_reducible refine w_vOr ?_
        | with_reducible refine w_vNot ?_
        | with_reducible refine w_chain ?_
        | with_reducible refine w_call ?_
        | with_reducible refine w_cb ?_
        | with_reducible refine w_oNone ?_
        | with_reducible refine w_oSome ?_
        | with_reducible refine w_sl ?_
        | with_reducible refine w_mt ?_
        | with_reducible refine w_fz ?_
        | with_reducible refine w_any ?_
        | with_reducible refine w_rng1 ?_
        | with_reducible refine w_rng2 ?_
        | with_reducible refine w_zip ?_
        | with_reducible refine w_enum ?_
        | with_reducible refine w_lc ?_
        | with_reducible refine w_lcM ?_
        | with_reducible refine lc_nil ?_
        | with_reducible refine go_nil ?_
        | with_reducible refine s_try ?_
        | with_reducible refine tryZ_nx ?_
        | with_reducible refine tryZ_rt ?_
        | with_reducible refine tryZ_bk ?_
        | with_reducible refine tryZ_ct ?_
        | with_reducible refine tryZ_ex (by decide) ?_
        | with_reducible refine w_dct ?_
        | with_reducible refine ⟨_, eqD_ii, ?_⟩
        | with_reducible refine ⟨_, eqD_ss, ?_⟩
        | with_reducible refine ⟨_, neD_ii, ?_⟩
        | with_reducible refine ⟨_, neD_ss, ?_⟩
        | with_reducible refine ⟨_, eqD_bb, ?_⟩
        | with_reducible refine ⟨_, isD_bb, ?_⟩
        | with_reducible refine ⟨_, ltDD_ii, ?_⟩
        | with_reducible refine ⟨_, add_ii, ?_⟩
        | with_reducible refine ⟨_, eqD_tupI, ?_⟩
        | with_reducible refine ⟨_, ltDD_tup, ?_⟩
        | with_reducible refine ⟨_, eqD_strs, ?_⟩
        | with_reducible refine ⟨_, neD_strs, ?_⟩
        | with_reducible refine ⟨_, inD2_str, ?_⟩
        | with_reducible refine ⟨_, neD_nil, ?_⟩
        | with_reducible refine ⟨_, eqD_nil, ?_⟩
        | with_reducible refine ⟨_, eqD_ints, ?_⟩
        | with_reducible refine ⟨_, neD_ints, ?_⟩
        | with_reducible refine ⟨_, ltDD_lst, ?_⟩
        | with_reducible refine ⟨Nat.le_of_ble_eq_true rfl, ?_⟩
        | with_reducible refine ⟨_, rfl, ?_⟩
        | with_reducible refine ⟨_, _, rfl, ?_⟩
        | with_reducible refine ⟨_, _, rfl, (by with_unfolding_all rfl : itemsOf _ = some _), ?_⟩
        | with_reducible refine ⟨_, (by with_unfolding_all rfl : ordD _ _ = some _), ?_⟩
        | with_reducible refine ⟨(by with_unfolding_all rfl : tyStr _ _ = true), ?_⟩
        | with_reducible refine ⟨_, (by with_unfolding_all rfl : negD _ _ = some _), ?_⟩
        | with_reducible refine ⟨_, (by with_unfolding_all rfl : isiD _ _ _ = some _), ?_⟩
        | with_reducible refine ⟨_, (by with_unfolding_all rfl : Tg.set _ _ _ = some _), ?_⟩
        | with_reducible refine ⟨_, _, rfl, ?_⟩
        | (with_reducible refine ⟨fun hb => ?_, fun hb => ?_⟩ <;> (try simp only [decide_eq_true_eq, decide_eq_false_iff_not, Bool.not_eq_true', Bool.not_eq_false', reduceCtorEq] at hb) <;> (try (exfalso; revert hb; decide)))
        | fail
      rw [List.append_assoc]
      exact h _
  · rintro d ds e S1 ⟨l, acc, x1, x2, x3, x4, x5, T, hi, ha, rfl, rfl⟩
    cases l with
    | nil => cases hi
    | cons c l =>
      cases hi
      refine ⟨_, rfl, ?_⟩
      rw [List.flatMap_cons, ← List.append_assoc] at ha
      with_reducible refine ws_env (by simp only [List.set_cons_succ, List.set_cons_zero]; exact rfl) ?_
      repeat' first
        | with_reducible refine w_var _ (by with_unfolding_all rfl) ?_
        | with_reducible refine seqZ_nxs (by simp only [List.set_cons_succ, List.set_cons_zero]; exact rfl) ?_
        | with_reducible refine stepZ_nxs (by simp only [List.set_cons_succ, List.set_cons_zero]; exact rfl) ?_
        | with_reducible refine s_seq ?_
        | with_reducible refine s_set ?_
        | with_reducible refine s_if ?_
        | with_reducible refine s_ret ?_
        | with_reducible refine s_expr ?_
        | with_reducible refine s_next ?_
        | with_reducible refine s_par ?_
        | with_reducible refine s_asg ?_
        | with_reducible refine s_setIx ?_
        | with_reducible refine s_augIx ?_
        | with_reducible refine s_aug ?_
        | with_reducible refine s_for ?_
        | with_reducible refine s_break ?_
        | with_reducible refine s_cont ?_
        | with_reducible refine s_raise ?_
        | with_reducible refine seqZ_nx ?_
        | with_reducible refine seqZ_rt ?_
        | with_reducible refine seqZ_ct ?_
        | with_reducible refine seqZ_bk ?_
        | with_reducible refine seqZ_ex ?_
        | with_reducible refine fnZ_nx ?_
        | with_reducible refine fnZ_rt ?_
        | with_reducible refine fnZ_ex ?_
        | with_reducible refine stepZ_nx ?_
        | with_reducible refine stepZ_rt ?_
        | with_reducible refine stepZ_ct ?_
        | with_reducible refine stepZ_bk ?_
        | with_reducible refine stepZ_ex ?_
        | with_reducible refine w_C ?_
        | with_reducible refine w_r2 ?_
        | with_reducible refine w_r1 ?_
        | with_reducible refine w_cons ?_
        | with_reducible refine w_nil ?_
        | with_reducible refine w_tup ?_
        | with_reducible refine w_lst ?_
        | with_reducible refine w_lstM ?_
        | with_reducible refine w_listM ?_
        | with_reducible refine w_if ?_
        | with_reducible refine w_tOf ?_
        | with_reducible refine w_tAnd ?_
        | with_reducible refine w_tOr ?_
        | with_reducible refine w_tNot ?_
        | with_reducible refine w_tYes ?_
        | with_reducible refine w_vAnd ?_
        | with_reducible refine w_vOr ?_
        | with_reducible refine w_vNot ?_
        | with_reducible refine w_chain ?_
        | with_reducible refine w_call ?_
        | with_reducible refine w_cb ?_
        | with_reducible refine w_oNone ?_
        | with_reducible refine w_oSome ?_
        | with_reducible refine w_sl ?_
        | with_reducible refine w_mt ?_
        | with_reducible refine w_fz ?_
        | with_reducible refine w_any ?_
        | with_reducible refine w_rng1 ?_
        | with_reducible refine w_rng2 ?_
        | with_reducible refine w_zip ?_
        | with_reducible refine w_enum ?_
        | with_reducible refine w_lc ?_
        | with_reducible refine w_lcM ?_
        | with_reducible refine lc_nil ?_
        | with_reducible refine go_nil ?_
        | with_reducible refine s_try ?_
        | with_reducible refine tryZ_nx ?_
        | with_reducible refine tryZ_rt ?_
        | with_reducible refine tryZ_bk ?_
        | with_reducible refine tryZ_ct ?_
        | with_reducible refine tryZ_ex (by decide) ?_
        | with_reducible refine w_dct ?_
        | with_reducible refine ⟨_, eqD_ii, ?_⟩
        | with_reducible refine ⟨_, eqD_ss, ?_⟩
        | with_reducible refine ⟨_, neD_ii, ?_⟩
        | with_reducible refine ⟨_, neD_ss, ?_⟩
        | with_reducible refine ⟨_, eqD_bb, ?_⟩
        | with_reducible refine ⟨_, isD_bb, ?_⟩
        | with_reducible refine ⟨_, ltDD_ii, ?_⟩
        | with_reducible refine ⟨_, add_ii, ?_⟩
        | with_reducible refine ⟨_, eqD_tupI, ?_⟩
        | with_reducible refine ⟨_, ltDD_tup, ?_⟩
        | with_reducible refine ⟨_, eqD_strs, ?_⟩
        | with_reducible refine ⟨_, neD_strs, ?_⟩
        | with_reducible refine ⟨_, inD2_str, ?_⟩
        | with_reducible refine ⟨_, neD_nil, ?_⟩
        | with_reducible refine ⟨_, eqD_nil, ?_⟩
        | with_reducible refine ⟨_, eqD_ints, ?_⟩
        | with_reducible refine ⟨_, neD_ints, ?_⟩
        | with_reducible refine ⟨_, ltDD_lst, ?_⟩
        | with_reducible refine ⟨Nat.le_of_ble_eq_true rfl, ?_⟩
        | with_reducible refine ⟨_, rfl, ?_⟩
        | with_reducible refine ⟨_, _, rfl, ?_⟩
        | with_reducible refine ⟨_, _, rfl, (by with_unfolding_all rfl : itemsOf _ = some _), ?_⟩
        | with_reducible refine ⟨_, (by with_unfolding_all rfl : ordD _ _ = some _), ?_⟩
        | with_reducible refine ⟨(by with_unfolding_all rfl : tyStr _ _ = true), ?_⟩
        | with_reducible refine ⟨_, (by with_unfolding_all rfl : negD _ _ = some _), ?_⟩
        | with_reducible refine ⟨_, (by with_unfolding_all rfl : isiD _ _ _ = some _), ?_⟩
        | with_reducible refine ⟨_, (by with_unfolding_all rfl : Tg.set _ _ _ = some _), ?_⟩
        | with_reducible refine ⟨_, _, rfl, ?_⟩
        | (with_reducible refine ⟨fun hb => ?_, fun hb => ?_⟩ <;> (try simp only [decide_eq_true_eq, decide_eq_false_iff_not, Bool.not_eq_true', Bool.not_eq_false', reduceCtorEq] at hb) <;> (try (exfalso; revert hb; decide)))
        | fail
      refine .inr (.inl ⟨_, rfl, ?_⟩)
      refine go_inv (fun items e S1 => ∃ (l2 : List (List Nat)) (acc2 : List D) (x2 x3 x4 x5 : Option D) (T : Store), items = l2.map D.str ∧ acc2 ++ (l2.flatMap fun f => b4.flatMap fun b => e4.flatMap fun e => r2M c f b e) = acc ++ (f4.flatMap fun f => b4.flatMap fun b => e4.flatMap fun e => r2M c f b e) ∧
        e = [some (.loc S.length), some (.str c), x2, x3, x4, x5] ∧ S1 = S ++ [.lst acc2] ++ T) ?_ ?_ _ _ _ ⟨f4, acc, _, _, _, _, T, rfl, rfl, rfl, rfl⟩
      · rintro e S1 ⟨l2, acc2, x2, x3, x4, x5, T, hi, ha2, rfl, rfl⟩
        cases l2 with
        | cons => cases hi
        | nil =>
          rw [List.flatMap_nil, List.append_nil] at ha2
          subst ha2
          exact stepZ_nx ⟨l, _, _, _, _, _, _, T, rfl, ha, rfl, rfl⟩
      · rintro d ds e S1 ⟨l2, acc2, x2, x3, x4, x5, T, hi, ha2, rfl, rfl⟩
        cases l2 with
        | nil => cases hi
        | cons f l2 =>
          cases hi
          refine ⟨_, rfl, ?_⟩
          rw [List.flatMap_cons, ← List.append_assoc] at ha2
          with_reducible refine ws_env (by simp only [List.set_cons_succ, List.set_cons_zero]; exact rfl) ?_
          repeat' first
            | with_reducible refine w_var _ (by with_unfolding_all rfl) ?_
            | with_reducible refine seqZ_nxs (by simp only [List.set_cons_succ, List.set_cons_zero]; exact rfl) ?_
            | with_reducible refine stepZ_nxs (by simp only [List.set_cons_succ, List.set_cons_zero]; exact rfl) ?_
            | with_reducible refine s_seq ?_
            | with_reducible refine s_set ?_
            | with_reducible refine s_if ?_
            | with_reducible refine s_ret ?_
            | with_reducible refine s_expr ?_
            | with_reducible refine s_next ?_
            | with_reducible refine s_par ?_
            | with_reducible refine s_asg ?_
            | with_reducible refine s_setIx ?_
            | with_reducible refine s_augIx ?_
            | with_reducible refine s_aug ?_
            | with_reducible refine s_for ?_
            | with_reducible refine s_break ?_
            | with_reducible refine s_cont ?_
            | with_reducible refine s_raise ?_
            | with_reducible refine seqZ_nx ?_
            | with_reducible refine seqZ_rt ?_
            | with_reducible refine seqZ_ct ?_
            | with_reducible refine seqZ_bk ?_
            | with_reducible refine seqZ_ex ?_
            | with_reducible refine fnZ_nx ?_
            | with_reducible refine fnZ_rt ?_
            | with_reducible refine fnZ_ex ?_
            | with_reducible refine stepZ_nx ?_
            | with_reducible refine stepZ_rt ?_
            | with_reducible refine stepZ_ct ?_
            | with_reducible refine stepZ_bk ?_
            | with_reducible refine stepZ_ex ?_
            | with_reducible refine w_C ?_
            | with_reducible refine w_r2 ?_
            | with_reducible refine w_r1 ?_
            | with_reducible refine w_cons ?_
            | with_reducible refine w_nil ?_
            | with_reducible refine w_tup ?_
            | with_reducible refine w_lst ?_
            | with_reducible refine w_lstM ?_
            | with_reducible refine w_listM ?_
            | with_reducible refine w_if ?_
            | with_reducible refine w_tOf ?_
            | with_reducible refine w_tAnd ?_
            | with_reducible refine w_tOr ?_
            | with_reducible refine w_tNot ?_
            | with_reducible refine w_tYes ?_
            | with_reducible refine w_vAnd ?_
            | with_reducible refine w_vOr ?_
            | with_reducible refine w_vNot ?_
            | with_reducible refine w_chain ?_
            | with_reducible refine w_call ?_
            | with_reducible refine w_cb ?_
            | with_reducible refine w_oNone ?_
            | with_reducible refine w_oSome ?_
            | with_reducible refine w_sl ?_
            | with_reducible refine w_mt ?_
            | with_reducible refine w_fz ?_
            | with_reducible refine w_any ?_
            | with_reducible refine w_rng1 ?_
            | with_reducible refine w_rng2 ?_
            | with_reducible refine w_zip ?_
            | with_reducible refine w_enum ?_
            | with_reducible refine w_lc ?_
            | with_reducible refine w_lcM ?_
            | with_reducible refine lc_nil ?_
            | with_reducible refine go_nil ?_
            | with_reducible refine s_try ?_
            | with_reducible refine tryZ_nx ?_
            | with_reducible refine tryZ_rt ?_
            | with_reducible refine tryZ_bk ?_
            | with_reducible refine tryZ_ct ?_
            | with_reducible refine tryZ_ex (by decide) ?_
            | with_reducible refine w_dct ?_
            | with_reducible refine ⟨_, eqD_ii, ?_⟩
            | with_reducible refine ⟨_, eqD_ss, ?_⟩
            | with_reducible refine ⟨_, neD_ii, ?_⟩
            | with_reducible refine ⟨_, neD_ss, ?_⟩
            | with_reducible refine ⟨_, eqD_bb, ?_⟩
            | with_reducible refine ⟨_, isD_bb, ?_⟩
            | with_reducible refine ⟨_, ltDD_ii, ?_⟩
            | with_reducible refine ⟨_, add_ii, ?_⟩
            | with_reducible refine ⟨_, eqD_tupI, ?_⟩
            | with_reducible refine ⟨_, ltDD_tup, ?_⟩
            | with_reducible refine ⟨_, eqD_strs, ?_⟩
            | with_reducible refine ⟨_, neD_strs, ?_⟩
            | with_reducible refine ⟨_, inD2_str, ?_⟩
            | with_reducible refine ⟨_, neD_nil, ?_⟩
            | with_reducible refine ⟨_, eqD_nil, ?_⟩
            | with_reducible refine ⟨_, eqD_ints, ?_⟩
            | with_reducible refine ⟨_, neD_ints, ?_⟩
            | with_reducible refine ⟨_, ltDD_lst, ?_⟩
            | with_reducible refine ⟨Nat.le_of_ble_eq_true rfl, ?_⟩
            | with_reducible refine ⟨_, rfl, ?_⟩
            | with_reducible refine ⟨_, _, rfl, ?_⟩
            | with_reducible refine ⟨_, _, rfl, (by with_unfolding_all rfl : itemsOf _ = some _), ?_⟩
            | with_reducible refine ⟨_, (by with_unfolding_all rfl : ordD _ _ = some _), ?_⟩
            | with_reducible refine ⟨(by with_unfolding_all rfl : tyStr _ _ = true), ?_⟩
            | with_reducible refine ⟨_, (by with_unfolding_all rfl : negD _ _ = some _), ?_⟩
            | with_reducible refine ⟨_, (by with_unfolding_all rfl : isiD _ _ _ = some _), ?_⟩
            | with_reducible refine ⟨_, (by with_unfolding_all rfl : Tg.set _ _ _ = some _), ?_⟩
            | with_reducible refine ⟨_, _, rfl, ?_⟩
            | (with_reducible refine ⟨fun hb => ?_, fun hb => ?_⟩ <;> (try simp only [decide_eq_true_eq, decide_eq_false_iff_not, Bool.not_eq_true', Bool.not_eq_false', reduceCtorEq] at hb) <;> (try (exfalso; revert hb; decide)))
            | fail
          refine .inr (.inl ⟨_, rfl, ?_⟩)
          refine go_inv (fun items e S1 => ∃ (l3 : List (List Nat)) (acc3 : List D) (x3 x4 x5 : Option D) (T : Store), items = l3.map D.str ∧ acc3 ++ (l3.flatMap fun b => e4.flatMap fun e => r2M c f b e) = acc2 ++ (b4.flatMap fun b => e4.flatMap fun e => r2M c f b e) ∧
            e = [some (.loc S.length), some (.str c), some (.str f), x3, x4, x5] ∧ S1 = S ++ [.lst acc3] ++ T) ?_ ?_ _ _ _ ⟨b4, acc2, _, _, _, T, rfl, rfl, rfl, rfl⟩
          · rintro e S1 ⟨l3, acc3, x3, x4, x5, T, hi, ha3, rfl, rfl⟩
            cases l3 with
            | cons => cases hi
            | nil =>
              rw [List.flatMap_nil, List.append_nil] at ha3
              subst ha3
              exact stepZ_nx ⟨l2, _, _, _, _, _, T, rfl, ha2, rfl, rfl⟩
          · rintro d ds e S1 ⟨l3, acc3, x3, x4, x5, T, hi, ha3, rfl, rfl⟩
            cases l3 with
            | nil => cases hi
            | cons b l3 =>
              cases hi
              refine ⟨_, rfl, ?_⟩
              rw [List.flatMap_cons, ← List.append_assoc] at ha3
              with_reducible refine ws_env (by simp only [List.set_cons_succ, List.set_cons_zero]; exact rfl) ?_
              repeat' first
                | with_reducible refine w_var _ (by with_unfolding_all rfl) ?_
                | with_reducible refine seqZ_nxs (by simp only [List.set_cons_succ, List.set_cons_zero]; exact rfl) ?_
                | with_reducible refine stepZ_nxs (by simp only [List.set_cons_succ, List.set_cons_zero]; exact rfl) ?_
                | with_reducible refine s_seq ?_
                | with_reducible refine s_set ?_
                | with_reducible refine s_if ?_
                | with_reducible refine s_ret ?_
                | with_reducible refine s_expr ?_
                | with_reducible refine s_next ?_
                | with_reducible refine s_par ?_
                | with_reducible refine s_asg ?_
                | with_reducible refine s_setIx ?_
                | with_reducible refine s_augIx ?_
                | with_reducible refine s_aug ?_
                | with_reducible refine s_for ?_
                | with_reducible refine s_break ?_
                | with_reducible refine s_cont ?_
                | with_reducible refine s_raise ?_
                | with_reducible refine seqZ_nx ?_
                | with_reducible refine seqZ_rt ?_
                | with_reducible refine seqZ_ct ?_
                | with_reducible refine seqZ_bk ?_
                | with_reducible refine seqZ_ex ?_
                | with_reducible refine fnZ_nx ?_
                | with_reducible refine fnZ_rt ?_
                | with_reducible refine fnZ_ex ?_
                | with_reducible refine stepZ_nx ?_
                | with_reducible refine stepZ_rt ?_
                | with_reducible refine stepZ_ct ?_
                | with_reducible refine stepZ_bk ?_
                | with_reducible refine stepZ_ex ?_
                | with_reducible refine w_C ?_
                | with_reducible refine w_r2 ?_
                | with_reducible refine w_r1 ?_
                | with_reducible refine w_cons ?_
                | with_reducible refine w_nil ?_
                | with_reducible refine w_tup ?_
                | with_reducible refine w_lst ?_
                | with_reducible refine w_lstM ?_
                | with_reducible refine w_listM ?_
                | with_reducible refine w_if ?_
                | with_reducible refine w_tOf ?_
                | with_reducible refine w_tAnd ?_
                | with_reducible refine w_tOr ?_
                | with_reducible refine w_tNot ?_
                | with_reducible refine w_tYes ?_
                | with_reducible refine w_vAnd ?_
                | with_reducible refine w_vOr ?_
                | with_reducible refine w_vNot ?_
                | with_reducible refine w_chain ?_
                | with_reducible refine w_call ?_
                | with_reducible refine w_cb ?_
                | with_reducible refine w_oNone ?_
                | with_reducible refine w_oSome ?_
                | with_reducible refine w_sl ?_
                | with_reducible refine w_mt ?_
                | with_reducible refine w_fz ?_
                | with_reducible refine w_any ?_
                | with_reducible refine w_rng1 ?_
                | with_reducible refine w_rng2 ?_
                | with_reducible refine w_zip ?_
                | with_reducible refine w_enum ?_
                | with_reducible refine w_lc ?_
                | with_reducible refine w_lcM ?_
                | with_reducible refine lc_nil ?_
                | with_reducible refine go_nil ?_
                | with_reducible refine s_try ?_
                | with_reducible refine tryZ_nx ?_
                | with_reducible refine tryZ_rt ?_
                | with_reducible refine tryZ_bk ?_
                | with_reducible refine tryZ_ct ?_
                | with_reducible refine tryZ_ex (by decide) ?_
                | with_reducible refine w_dct ?_
                | with_reducible refine ⟨_, eqD_ii, ?_⟩
                | with_reducible refine ⟨_, eqD_ss, ?_⟩
                | with_reducible refine ⟨_, neD_ii, ?_⟩
                | with_reducible refine ⟨_, neD_ss, ?_⟩
                | with_reducible refine ⟨_, eqD_bb, ?_⟩
                | with_reducible refine ⟨_, isD_bb, ?_⟩
                | with_reducible refine ⟨_, ltDD_ii, ?_⟩
                | with_reducible refine ⟨_, add_ii, ?_⟩
                | with_reducible refine ⟨_, eqD_tupI, ?_⟩
                | with_reducible refine ⟨_, ltDD_tup, ?_⟩
                | with_reducible refine ⟨_, eqD_strs, ?_⟩
                | with_reducible refine ⟨_, neD_strs, ?_⟩
                | with_reducible refine ⟨_, inD2_str, ?_⟩
                | with_reducible refine ⟨_, neD_nil, ?_⟩
                | with_reducible refine ⟨_, eqD_nil, ?_⟩
                | with_reducible refine ⟨_, eqD_ints, ?_⟩
                | with_reducible refine ⟨_, neD_ints, ?_⟩
                | with_reducible refine ⟨_, ltDD_lst, ?_⟩
                | with_reducible refine ⟨Nat.le_of_ble_eq_true rfl, ?_⟩
                | with_reducible refine ⟨_, rfl, ?_⟩
                | with_reducible refine ⟨_, _, rfl, ?_⟩
                | with_reducible refine ⟨_, _, rfl, (by with_unfolding_all rfl : itemsOf _ = some _), ?_⟩
                | with_reducible refine ⟨_, (by with_unfolding_all rfl : ordD _ _ = some _), ?_⟩
                | with_reducible refine ⟨(by with_unfolding_all rfl : tyStr _ _ = true), ?_⟩
                | with_reducible refine ⟨_, (by with_unfolding_all rfl : negD _ _ = some _), ?_⟩
                | with_reducible refine ⟨_, (by with_unfolding_all rfl : isiD _ _ _ = some _), ?_⟩
                | with_reducible refine ⟨_, (by with_unfolding_all rfl : Tg.set _ _ _ = some _), ?_⟩
                | with_reducible refine ⟨_, _, rfl, ?_⟩
                | (with_reducible refine ⟨fun hb => ?_, fun hb => ?_⟩ <;> (try simp only [decide_eq_true_eq, decide_eq_false_iff_not, Bool.not_eq_true', Bool.not_eq_false', reduceCtorEq] at hb) <;> (try (exfalso; revert hb; decide)))
                | fail
              refine .inr (.inl ⟨_, rfl, ?_⟩)
              refine go_inv (fun items e S1 => ∃ (l4 : List (List Nat)) (acc4 : List D) (x4 x5 : Option D) (T : Store), items = l4.map D.str ∧ acc4 ++ (l4.flatMap fun e => r2M c f b e) = acc3 ++ (e4.flatMap fun e => r2M c f b e) ∧
                e = [some (.loc S.length), some (.str c), some (.str f), some (.str b), x4, x5] ∧ S1 = S ++ [.lst acc4] ++ T) ?_ ?_ _ _ _ ⟨e4, acc3, _, _, T, rfl, rfl, rfl, rfl⟩
              · rintro e S1 ⟨l4, acc4, x4, x5, T, hi, ha4, rfl, rfl⟩
                cases l4 with
                | cons => cases hi
                | nil =>
                  rw [List.flatMap_nil, List.append_nil] at ha4
                  subst ha4
                  exact stepZ_nx ⟨l3, _, _, _, _, T, rfl, ha3, rfl, rfl⟩
              · rintro d ds e S1 ⟨l4, acc4, x4, x5, T, hi, ha4, rfl, rfl⟩
                cases l4 with
                | nil => cases hi
                | cons en l4 =>
                  cases hi
                  refine ⟨_, rfl, ?_⟩
                  rw [List.flatMap_cons, ← List.append_assoc] at ha4
                  have lb : acc4.length ≤ 96 := by
                    have h1 := congrArg List.length ha
                    have h2 := congrArg List.length ha2
                    have h3 := congrArg List.length ha3
                    have h4 := congrArg List.length ha4
                    simp only [List.length_append] at h1 h2 h3 h4
                    rw [l96] at h1
                    omega
                  with_reducible refine ws_env (by simp only [List.set_cons_succ, List.set_cons_zero]; exact rfl) ?_
                  refine s_augL rfl ?_
                  repeat' first
                    | with_reducible refine w_var _ (by with_unfolding_all rfl) ?_
                    | with_reducible refine seqZ_nxs (by simp only [List.set_cons_succ, List.set_cons_zero]; exact rfl) ?_
                    | with_reducible refine stepZ_nxs (by simp only [List.set_cons_succ, List.set_cons_zero]; exact rfl) ?_
                    | with_reducible refine s_seq ?_
                    | with_reducible refine s_set ?_
                    | with_reducible refine s_if ?_
                    | with_reducible refine s_ret ?_
                    | with_reducible refine s_expr ?_
                    | with_reducible refine s_next ?_
                    | with_reducible refine s_par ?_
                    | with_reducible refine s_asg ?_
                    | with_reducible refine s_setIx ?_
                    | with_reducible refine s_augIx ?_
                    | with_reducible refine s_aug ?_
                    | with_reducible refine s_for ?_
                    | with_reducible refine s_break ?_
                    | with_reducible refine s_cont ?_
                    | with_reducible refine s_raise ?_
                    | with_reducible refine seqZ_nx ?_
                    | with_reducible refine seqZ_rt ?_
                    | with_reducible refine seqZ_ct ?_
                    | with_reducible refine seqZ_bk ?_
                    | with_reducible refine seqZ_ex ?_
                    | with_reducible refine fnZ_nx ?_
                    | with_reducible refine fnZ_rt ?_
                    | with_reducible refine fnZ_ex ?_
                    | with_reducible refine stepZ_nx ?_
                    | with_reducible refine stepZ_rt ?_
                    | with_reducible refine stepZ_ct ?_
                    | with_reducible refine stepZ_bk ?_
                    | with_reducible refine stepZ_ex ?_
                    | with_reducible refine w_C ?_
                    | with_reducible refine w_r2 ?_
                    | with_reducible refine w_r1 ?_
                    | with_reducible refine w_cons ?_
                    | with_reducible refine w_nil ?_
                    | with_reducible refine w_tup ?_
                    | with_reducible refine w_lst ?_
                    | with_reducible refine w_lstM ?_
                    | with_reducible refine w_listM ?_
                    | with_reducible refine w_if ?_
                    | with_reducible refine w_tOf ?_
                    | with_reducible refine w_tAnd ?_
                    | with_reducible refine w_tOr ?_
                    | with_reducible refine w_tNot ?_
                    | with_reducible refine w_tYes ?_
                    | with_reducible refine w_vAnd ?_
                    | with_reducible refine w_vOr ?_
                    | with_reducible refine w_vNot ?_
                    | with_reducible refine w_chain ?_
                    | with_reducible refine w_call ?_
                    | with_reducible refine w_cb ?_
                    | with_reducible refine w_oNone ?_
                    | with_reducible refine w_oSome ?_
                    | with_reducible refine w_sl ?_
                    | with_reducible refine w_mt ?_
                    | with_reducible refine w_fz ?_
                    | with_reducible refine w_any ?_
                    | with_reducible refine w_rng1 ?_
                    | with_reducible refine w_rng2 ?_
                    | with_reducible refine w_zip ?_
                    | with_reducible refine w_enum ?_
                    | with_reducible refine w_lc ?_
                    | with_reducible refine w_lcM ?_
                    | with_reducible refine lc_nil ?_
                    | with_reducible refine go_nil ?_
                    | with_reducible refine s_try ?_
                    | with_reducible refine tryZ_nx ?_
                    | with_reducible refine tryZ_rt ?_
                    | with_reducible refine tryZ_bk ?_
                    | with_reducible refine tryZ_ct ?_
                    | with_reducible refine tryZ_ex (by decide) ?_
                    | with_reducible refine w_dct ?_
                    | with_reducible refine ⟨_, eqD_ii, ?_⟩
                    | with_reducible refine ⟨_, eqD_ss, ?_⟩
                    | with_reducible refine ⟨_, neD_ii, ?_⟩
                    | with_reducible refine ⟨_, neD_ss, ?_⟩
                    | with_reducible refine ⟨_, eqD_bb, ?_⟩
                    | with_reducible refine ⟨_, isD_bb, ?_⟩
                    | with_reducible refine ⟨_, ltDD_ii, ?_⟩
                    | with_reducible refine ⟨_, add_ii, ?_⟩
                    | with_reducible refine ⟨_, eqD_tupI, ?_⟩
                    | with_reducible refine ⟨_, ltDD_tup, ?_⟩
                    | with_reducible refine ⟨_, eqD_strs, ?_⟩
                    | with_reducible refine ⟨_, neD_strs, ?_⟩
                    | with_reducible refine ⟨_, inD2_str, ?_⟩
                    | with_reducible refine ⟨_, neD_nil, ?_⟩
                    | with_reducible refine ⟨_, eqD_nil, ?_⟩
                    | with_reducible refine ⟨_, eqD_ints, ?_⟩
                    | with_reducible refine ⟨_, neD_ints, ?_⟩
                    | with_reducible refine ⟨_, ltDD_lst, ?_⟩
                    | with_reducible refine ⟨Nat.le_of_ble_eq_true rfl, ?_⟩
                    | with_reducible refine ⟨_, rfl, ?_⟩
                    | with_reducible refine ⟨_, _, rfl, ?_⟩
                    | with_reducible refine ⟨_, _, rfl, (by with_unfolding_all rfl : itemsOf _ = some _), ?_⟩
                    | with_reducible refine ⟨_, (by with_unfolding_all rfl : ordD _ _ = some _), ?_⟩
                    | with_reducible refine ⟨(by with_unfolding_all rfl : tyStr _ _ = true), ?_⟩
                    | with_reducible refine ⟨_, (by with_unfolding_all rfl : negD _ _ = some _), ?_⟩
                    | with_reducible refine ⟨_, (by with_unfolding_all rfl : isiD _ _ _ = some _), ?_⟩
                    | with_reducible refine ⟨_, (by with_unfolding_all rfl : Tg.set _ _ _ = some _), ?_⟩
                    | with_reducible refine ⟨_, _, rfl, ?_⟩
                    | (with_reducible refine ⟨fun hb => ?_, fun hb => ?_⟩ <;> (try simp only [decide_eq_true_eq, decide_eq_false_iff_not, Bool.not_eq_true', Bool.not_eq_false', reduceCtorEq] at hb) <;> (try (exfalso; revert hb; decide)))
                    | fail
                  refine .inr (.inl ⟨_, rfl, by simp, ?_⟩)
                  refine lc_eachI (fun d => D.tup [.str c, .str f, .str b, .str en, d]) (fun d hd => ⟨_, rfl, fun T => ?_⟩) (fun T2 => ?_)
                  · skip
                    with_reducible refine wp_env (by simp only [wipeE, List.set_cons_succ, List.set_cons_zero]; exact rfl) ?_
                    repeat' first
                      | with_reducible refine w_var _ (by with_unfolding_all rfl) ?_
                      | with_reducible refine seqZ_nxs (by simp only [List.set_cons_succ, List.set_cons_zero]; exact rfl) ?_
                      | with_reducible refine stepZ_nxs (by simp only [List.set_cons_succ, List.set_cons_zero]; exact rfl) ?_
                      | with_reducible refine s_seq ?_
                      | with_reducible refine s_set ?_
                      | with_reducible refine s_if ?_
                      | with_reducible refine s_ret ?_
                      | with_reducible refine s_expr ?_
                      | with_reducible refine s_next ?_
                      | with_reducible refine s_par ?_
                      | with_reducible refine s_asg ?_
                      | with_reducible refine s_setIx ?_
                      | with_reducible refine s_augIx ?_
                      | with_reducible refine s_aug ?_
                      | with_reducible refine s_for ?_
                      | with_reducible refine s_break ?_
                      | with_reducible refine s_cont ?_
                      | with_reducible refine s_raise ?_
                      | with_reducible refine seqZ_nx ?_
                      | with_reducible refine seqZ_rt ?_
                      | with_reducible refine seqZ_ct ?_
                      | with_reducible refine seqZ_bk ?_
                      | with_reducible refine seqZ_ex ?_
                      | with_reducible refine fnZ_nx ?_
                      | with_reducible refine fnZ_rt ?_
                      | with_reducible refine fnZ_ex ?_
                      | with_reducible refine stepZ_nx ?_
                      | with_reducible refine stepZ_rt ?_
                      | with_reducible refine stepZ_ct ?_
                      | with_reducible refine stepZ_bk ?_
                      | with_reducible refine stepZ_ex ?_
                      | with_reducible refine w_C ?_
                      | with_reducible refine w_r2 ?_
                      | with_reducible refine w_r1 ?_
                      | with_reducible refine w_cons ?_
                      | with_reducible refine w_nil ?_
                      | with_reducible refine w_tup ?_
                      | with_reducible refine w_lst ?_
                      | with_reducible refine w_lstM ?_
                      | with_reducible refine w_listM ?_
                      | with_reducible refine w_if ?_
                      | with_reducible refine w_tOf ?_
                      | with_reducible refine w_tAnd ?_
                      | with_reducible refine w_tOr ?_
                      | with_reducible refine w_tNot ?_
                      | with_reducible refine w_tYes ?_
                      | with_reducible refine w_vAnd ?_
                      | with_reducible refine w_vOr ?_
                      | with_reducible refine w_vNot ?_
                      | with_reducible refine w_chain ?_
                      | with_reducible refine w_call ?_
                      | with_reducible refine w_cb ?_
                      | with_reducible refine w_oNone ?_
                      | with_reducible refine w_oSome ?_
                      | with_reducible refine w_sl ?_
                      | with_reducible refine w_mt ?_
                      | with_reducible refine w_fz ?_
                      | with_reducible refine w_any ?_
                      | with_reducible refine w_rng1 ?_
                      | with_reducible refine w_rng2 ?_
                      | with_reducible refine w_zip ?_
                      | with_reducible refine w_enum ?_
                      | with_reducible refine w_lc ?_
                      | with_reducible refine w_lcM ?_
                      | with_reducible refine lc_nil ?_
                      | with_reducible refine go_nil ?_
                      | with_reducible refine s_try ?_
                      | with_reducible refine tryZ_nx ?_
                      | with_reducible refine tryZ_rt ?_
                      | with_reducible refine tryZ_bk ?_
                      | with_reducible refine tryZ_ct ?_
                      | with_reducible refine tryZ_ex (by decide) ?_
                      | with_reducible refine w_dct ?_
                      | with_reducible refine ⟨_, eqD_ii, ?_⟩
                      | with_reducible refine ⟨_, eqD_ss, ?_⟩
                      | with_reducible refine ⟨_, neD_ii, ?_⟩
                      | with_reducible refine ⟨_, neD_ss, ?_⟩
                      | with_reducible refine ⟨_, eqD_bb, ?_⟩
                      | with_reducible refine ⟨_, isD_bb, ?_⟩
                      | with_reducible refine ⟨_, ltDD_ii, ?_⟩
                      | with_reducible refine ⟨_, add_ii, ?_⟩
                      | with_reducible refine ⟨_, eqD_tupI, ?_⟩
                      | with_reducible refine ⟨_, ltDD_tup, ?_⟩
                      | with_reducible refine ⟨_, eqD_strs, ?_⟩
                      | with_reducible refine ⟨_, neD_strs, ?_⟩
                      | with_reducible refine ⟨_, inD2_str, ?_⟩
                      | with_reducible refine ⟨_, neD_nil, ?_⟩
                      | with_reducible refine ⟨_, eqD_nil, ?_⟩
                      | with_reducible refine ⟨_, eqD_ints, ?_⟩
                      | with_reducible refine ⟨_, neD_ints, ?_⟩
                      | with_reducible refine ⟨_, ltDD_lst, ?_⟩
                      | with_reducible refine ⟨Nat.le_of_ble_eq_true rfl, ?_⟩
                      | with_reducible refine ⟨_, rfl, ?_⟩
                      | with_reducible refine ⟨_, _, rfl, ?_⟩
                      | with_reducible refine ⟨_, _, rfl, (by with_unfolding_all rfl : itemsOf _ = some _), ?_⟩
                      | with_reducible refine ⟨_, (by with_unfolding_all rfl : ordD _ _ = some _), ?_⟩
                      | with_reducible refine ⟨(by with_unfolding_all rfl : tyStr _ _ = true), ?_⟩
                      | with_reducible refine ⟨_, (by with_unfolding_all rfl : negD _ _ = some _), ?_⟩
                      | with_reducible refine ⟨_, (by with_unfolding_all rfl : isiD _ _ _ = some _), ?_⟩
                      | with_reducible refine ⟨_, (by with_unfolding_all rfl : Tg.set _ _ _ = some _), ?_⟩
                      | with_reducible refine ⟨_, _, rfl, ?_⟩
                      | (with_reducible refine ⟨fun hb => ?_, fun hb => ?_⟩ <;> (try simp only [decide_eq_true_eq, decide_eq_false_iff_not, Bool.not_eq_true', Bool.not_eq_false', reduceCtorEq] at hb) <;> (try (exfalso; revert hb; decide)))
                      | fail
                    exact ⟨rfl, _, rfl⟩
                  · have g : ∀ T, (S ++ [Cell.lst acc4] ++ T)[S.length]? = some (.lst acc4) := fun T => by simp
                    have st : ∀ T (x : Cell), (S ++ [Cell.lst acc4] ++ T).set S.length x = S ++ [x] ++ T := fun T x => by simp
                    rw [List.append_assoc (S ++ [Cell.lst acc4])]
                    refine ⟨acc4, _, rfl, g _, by simp; omega, ?_⟩
                    rw [st]
                    exact stepZ_nx ⟨l4, _, _, _, _, rfl, ha4, rfl, rfl⟩
/-- longer and longer -/
def stepR (found : List (List D)) (ws : List D) : List (List D) := found.flatMap fun r => ws.map fun w => r ++ [w]
abbrev wsR : List (List D) := [c4.map .str, f4.map .str, b4.map .str, e4.map .str, [.int 0, .int 1]]
theorem stepR_len : ∀ k, k ≤ 5 → ((wsR.take k).foldl stepR [[]]).length ≤ 96 ∧ (((wsR.take k).foldl stepR [[]]).all fun r => decide (r.length ≤ 5)) = true := by decide +kernel
theorem ws_len : (wsR.all fun r => decide (r.length ≤ 4)) = true := by decide +kernel
theorem law_rules_w (h : ∀ T, Q (.lst allR) (S ++ T)) : wp (m__law_rules S []) Q X := by
  unfold m__law_rules b__law_rules
  with_reducible refine w_fn2 (by simp only [List.map_cons, List.map_nil, List.replicate, List.cons_append, List.nil_append, Nat.reduceSub]; exact rfl) ?_
  repeat' first
    | (with_reducible refine words_w ?_)
    | (with_reducible refine ⟨_, add_ll (by simp), ?_⟩)
    | with_reducible refine w_var _ (by with_unfolding_all rfl) ?_
    | with_reducible refine seqZ_nxs (by simp only [List.set_cons_succ, List.set_cons_zero]; exact rfl) ?_
    | with_reducible refine stepZ_nxs (by simp only [List.set_cons_succ, List.set_cons_zero]; exact rfl) ?_
    | with_reducible refine s_seq ?_
    | with_reducible refine s_set ?_
    | with_reducible refine s_if ?_
    | with_reducible refine s_ret ?_
    | with_reducible refine s_expr ?_
    | with_reducible refine s_next ?_
    | with_reducible refine s_par ?_
    | with_reducible refine s_asg ?_
    | with_reducible refine s_setIx ?_
    | with_reducible refine s_augIx ?_
    | with_reducible refine s_aug ?_
    | with_reducible refine s_for ?_
    | with_reducible refine s_break ?_
    | with_reducible refine s_cont ?_
    | with_reducible refine s_raise ?_
    | with_reducible refine seqZ_nx ?_
    | with_reducible refine seqZ_rt ?_
    | with_reducible refine seqZ_ct ?_
    | with_reducible refine seqZ_bk ?_
    | with_reducible refine seqZ_ex ?_
    | with_reducible refine fnZ_nx ?_
    | with_reducible refine fnZ_rt ?_
    | with_reducible refine fnZ_ex ?_
    | with_reducible refine stepZ_nx ?_
    | with_reducible refine stepZ_rt ?_
    | with_reducible refine stepZ_ct ?_
    | with_reducible refine stepZ_bk ?_
    | with_reducible refine stepZ_ex ?_
    | with_reducible refine w_C ?_
    | with_reducible refine w_r2 ?_
    | with_reducible refine w_r1 ?_
    | with_reducible refine w_cons ?_
    | with_reducible refine w_nil ?_
    | with_reducible refine w_tup ?_
    | with_reducible refine w_lst ?_
    | with_reducible refine w_lstM ?_
    | with_reducible refine w_listM ?_
    | with_reducible refine w_if ?_
    | with_reducible refine w_tOf ?_
    | with_reducible refine w_tAnd ?_
    | with_reducible refine w_tOr ?_
    | with_reducible refine w_tNot ?_
    | with_reducible refine w_tYes ?_
    | with_reducible refine w_vAnd ?_
    | with_reducible refine w_vOr ?_
    | with_reducible refine w_vNot ?_
    | with_reducible refine w_chain ?_
    | with_reducible refine w_call ?_
    | with_reducible refine w_cb ?_
    | with_reducible refine w_oNone ?_
    | with_reducible refine w_oSome ?_
    | with_reducible refine w_sl ?_
    | with_reducible refine w_mt ?_
    | with_reducible refine w_fz ?_
    | with_reducible refine w_any ?_
    | with_reducible refine w_rng1 ?_
    | with_reducible refine w_rng2 ?_
    | with_reducible refine w_zip ?_
    | with_reducible refine w_enum ?_
    | with_reducible refine w_lc ?_
    | with_reducible refine w_lcM ?_
    | with_reducible refine lc_nil ?_
    | with_reducible refine go_nil ?_
    | with_reducible refine s_try ?_
    | with_reducible refine tryZ_nx ?_
    | with_reducible refine tryZ_rt ?_
    | with_reducible refine tryZ_bk ?_
    | with_reducible refine tryZ_ct ?_
    | with_reducible refine tryZ_ex (by decide) ?_
    | with_reducible refine w_dct ?_
    | with_reducible refine ⟨_, eqD_ii, ?_⟩
    | with_reducible refine ⟨_, eqD_ss, ?_⟩
    | with_reducible refine ⟨_, neD_ii, ?_⟩
    | with_reducible refine ⟨_, neD_ss, ?_⟩
    | with_reducible refine ⟨_, eqD_bb, ?_⟩
    | with_reducible refine ⟨_, isD_bb, ?_⟩
    | with_reducible refine ⟨_, ltDD_ii, ?_⟩
    | with_reducible refine ⟨_, add_ii, ?_⟩
    | with_reducible refine ⟨_, eqD_tupI, ?_⟩
    | with_reducible refine ⟨_, ltDD_tup, ?_⟩
    | with_reducible refine ⟨_, eqD_strs, ?_⟩
    | with_reducible refine ⟨_, neD_strs, ?_⟩
    | with_reducible refine ⟨_, inD2_str, ?_⟩
    | with_reducible refine ⟨_, neD_nil, ?_⟩
    | with_reducible refine ⟨_, eqD_nil, ?_⟩
    | with_reducible refine ⟨_, eqD_ints, ?_⟩
    | with_reducible refine ⟨_, neD_ints, ?_⟩
    | with_reducible refine ⟨_, ltDD_lst, ?_⟩
    | with_reducible refine ⟨Nat.le_of_ble_eq_true rfl, ?_⟩
    | with_reducible refine ⟨_, rfl, ?_⟩
    | with_reducible refine ⟨_, _, rfl, ?_⟩
    | with_reducible refine ⟨_, _, rfl, (by with_unfolding_all rfl : itemsOf _ = some _), ?_⟩
    | with_reducible refine ⟨_, (by with_unfolding_all rfl : ordD _ _ = some _), ?_⟩
    | with_reducible refine ⟨(by with_unfolding_all rfl : tyStr _ _ = true), ?_⟩
    | with_reducible refine ⟨_, (by with_unfolding_all rfl : negD _ _ = some _), ?_⟩
    | with_reducible refine ⟨_, (by with_unfolding_all rfl : isiD _ _ _ = some _), ?_⟩
    | with_reducible refine ⟨_, (by with_unfolding_all rfl : Tg.set _ _ _ = some _), ?_⟩
    | with_reducible refine ⟨_, _, rfl, ?_⟩
    | (with_reducible refine ⟨fun hb => ?_, fun hb => ?_⟩ <;> (try simp only [decide_eq_true_eq, decide_eq_false_iff_not, Bool.not_eq_true', Bool.not_eq_false', reduceCtorEq] at hb) <;> (try (exfalso; revert hb; decide)))
    | fail
  refine .inl ⟨_, rfl, ?_⟩
  refine go_inv (fun items e S1 => ∃ (k : Nat) (x1 x2 x3 x4 : Option D) (T : Store), k ≤ 5 ∧ items = (wsR.drop k).map D.lst ∧ e = [some (.lst (((wsR.take k).foldl stepR [[]]).map .tup)), x1, x2, x3, x4] ∧ S1 = S ++ T) ?_ ?_ _ _ _ ⟨0, _, _, _, _, [], by decide, rfl, rfl, by simp⟩
  · rintro e S1 ⟨k, x1, x2, x3, x4, T, hk, hi, rfl, rfl⟩
    have k5 : k = 5 := by
      have := congrArg List.length hi
      simp at this
      omega
    subst k5
    have fin : ((wsR.take 5).foldl stepR [[]]).map D.tup = allR := rfl
    rw [fin]
    repeat' first
      | with_reducible refine w_var _ (by with_unfolding_all rfl) ?_
      | with_reducible refine seqZ_nxs (by simp only [List.set_cons_succ, List.set_cons_zero]; exact rfl) ?_
      | with_reducible refine stepZ_nxs (by simp only [List.set_cons_succ, List.set_cons_zero]; exact rfl) ?_
      | with_reducible refine s_seq ?_
      | with_reducible refine s_set ?_
      | with_reducible refine s_if ?_
      | with_reducible refine s_ret ?_
      | with_reducible refine s_expr ?_
      | with_reducible refine s_next ?_
      | with_reducible refine s_par ?_
      | with_reducible refine s_asg ?_
      | with_reducible refine s_setIx ?_
      | with_reducible refine s_augIx ?_
      | with_reducible refine s_aug ?_
      | with_reducible refine s_for ?_
      | with_reducible refine s_break ?_
      | with_reducible refine s_cont ?_
      | with_reducible refine s_raise ?_
      | with_reducible refine seqZ_nx ?_
      | with_reducible refine seqZ_rt ?_
      | with_reducible refine seqZ_ct ?_
      | with_reducible refine seqZ_bk ?_
      | with_reducible refine seqZ_ex ?_
      | with_reducible refine fnZ_nx ?_
      | with_reducible refine fnZ_rt ?_
      | with_reducible refine fnZ_ex ?_
      | with_reducible refine stepZ_nx ?_
      | with_reducible refine stepZ_rt ?_
      | with_reducible refine stepZ_ct ?_
      | with_reducible refine stepZ_bk ?_
      | with_reducible refine stepZ_ex ?_
      | with_reducible refine w_C ?_
      | with_reducible refine w_r2 ?_
      | with_reducible refine w_r1 ?_
      | with_reducible refine w_cons ?_
      | with_reducible refine w_nil ?_
      | with_reducible refine w_tup ?_
      | with_reducible refine w_lst ?_
      | with_reducible refine w_lstM ?_
      | with_reducible refine w_listM ?_
      | with_reducible refine w_if ?_
      | with_reducible refine w_tOf ?_
      | with_reducible refine w_tAnd ?_
      | with_reducible refine w_tOr ?_
      | with_reducible refine w_tNot ?_
      | with_reducible refine w_tYes ?_
      | with_reducible refine w_vAnd ?_
      | with_reducible refine w_vOr ?_
      | with_reducible refine w_vNot ?_
      | with_reducible refine w_chain ?_
      | with_reducible refine w_call ?_
      | with_reducible refine w_cb ?_
      | with_reducible refine w_oNone ?_
      | with_reducible refine w_oSome ?_
      | with_reducible refine w_sl ?_
      | with_reducible refine w_mt ?_
      | with_reducible refine w_fz ?_
      | with_reducible refine w_any ?_
      | with_reducible refine w_rng1 ?_
      | with_reducible refine w_rng2 ?_
      | with_reducible refine w_zip ?_
      | with_reducible refine w_enum ?_
      | with_reducible refine w_lc ?_
      | with_reducible refine w_lcM ?_
      | with_reducible refine lc_nil ?_
      | with_reducible refine go_nil ?_
      | with_reducible refine s_try ?_
      | with_reducible refine tryZ_nx ?_
      | with_reducible refine tryZ_rt ?_
      | with_reducible refine tryZ_bk ?_
      | with_reducible refine tryZ_ct ?_
      | with_reducible refine tryZ_ex (by decide) ?_
      | with_reducible refine w_dct ?_
      | with_reducible refine ⟨_, eqD_ii, ?_⟩
      | with_reducible refine ⟨_, eqD_ss, ?_⟩
      | with_reducible refine ⟨_, neD_ii, ?_⟩
      | with_reducible refine ⟨_, neD_ss, ?_⟩
      | with_reducible refine ⟨_, eqD_bb, ?_⟩
      | with_reducible refine ⟨_, isD_bb, ?_⟩
      | with_reducible refine ⟨_, ltDD_ii, ?_⟩
      | with_reducible refine ⟨_, add_ii, ?_⟩
      | with_reducible refine ⟨_, eqD_tupI, ?_⟩
      | with_reducible refine ⟨_, ltDD_tup, ?_⟩
      | with_reducible refine ⟨_, eqD_strs, ?_⟩
      | with_reducible refine ⟨_, neD_strs, ?_⟩
      | with_reducible refine ⟨_, inD2_str, ?_⟩
      | with_reducible refine ⟨_, neD_nil, ?_⟩
      | with_reducible refine ⟨_, eqD_nil, ?_⟩
      | with_reducible refine ⟨_, eqD_ints, ?_⟩
      | with_reducible refine ⟨_, neD_ints, ?_⟩
      | with_reducible refine ⟨_, ltDD_lst, ?_⟩
      | with_reducible refine ⟨Nat.le_of_ble_eq_true rfl, ?_⟩
      | with_reducible refine ⟨_, rfl, ?_⟩
      | with_reducible refine ⟨_, _, rfl, ?_⟩
      | with_reducible refine ⟨_, _, rfl, (by with_unfolding_all rfl : itemsOf _ = some _), ?_⟩
      | with_reducible refine ⟨_, (by with_unfolding_all rfl : ordD _ _ = some _), ?_⟩
      | with_reducible refine ⟨(by with_unfolding_all rfl : tyStr _ _ = true), ?_⟩
      | with_reducible refine ⟨_, (by with_unfolding_all rfl : negD _ _ = some _), ?_⟩
      | with_reducible refine ⟨_, (by with_unfolding_all rfl : isiD _ _ _ = some _), ?_⟩
      | with_reducible refine ⟨_, (by with_unfolding_all rfl : Tg.set _ _ _ = some _), ?_⟩
      | with_reducible refine ⟨_, _, rfl, ?_⟩
      | (with_reducible refine ⟨fun hb => ?_, fun hb => ?_⟩ <;> (try simp only [decide_eq_true_eq, decide_eq_false_iff_not, Bool.not_eq_true', Bool.not_eq_false', reduceCtorEq] at hb) <;> (try (exfalso; revert hb; decide)))
      | fail
    exact h T
  · rintro d ds e S1 ⟨k, x1, x2, x3, x4, T, hk, hi, rfl, rfl⟩
    have hk5 : k < 5 := by
      rcases Nat.lt_or_ge k 5 with q | q
      · exact q
      · have : k = 5 := by omega
        subst this; cases hi
    have hk5' : k < wsR.length := hk5
    rw [List.drop_eq_getElem_cons hk5'] at hi
    cases hi
    refine ⟨_, rfl, ?_⟩
    obtain ⟨q1, q2⟩ := stepR_len k hk
    have q3 : (wsR[k]'hk5').length ≤ 4 := of_decide_eq_true (List.all_eq_true.mp ws_len _ (List.getElem_mem _))
    have tk : (wsR.take (k + 1)).foldl stepR [[]] = stepR ((wsR.take k).foldl stepR [[]]) (wsR[k]'hk5') := by
      rw [List.take_succ_eq_append_getElem hk5', List.foldl_append]
      rfl
    generalize hF : (wsR.take k).foldl stepR [[]] = found at q1 q2 tk
    generalize wsR[k]'hk5' = ws at q3 tk
    with_reducible refine ws_env (by simp only [List.set_cons_succ, List.set_cons_zero]; exact rfl) ?_
    repeat' first
      | with_reducible refine w_var _ (by with_unfolding_all rfl) ?_
      | with_reducible refine seqZ_nxs (by simp only [List.set_cons_succ, List.set_cons_zero]; exact rfl) ?_
      | with_reducible refine stepZ_nxs (by simp only [List.set_cons_succ, List.set_cons_zero]; exact rfl) ?_
      | with_reducible refine s_seq ?_
      | with_reducible refine s_set ?_
      | with_reducible refine s_if ?_
      | with_reducible refine s_ret ?_
      | with_reducible refine s_expr ?_
      | with_reducible refine s_next ?_
      | with_reducible refine s_par ?_
      | with_reducible refine s_asg ?_
      | with_reducible refine s_setIx ?_
      | with_reducible refine s_augIx ?_
      | with_reducible refine s_aug ?_
      | with_reducible refine s_for ?_
      | with_reducible refine s_break ?_
      | with_reducible refine s_cont ?_
      | with_reducible refine s_raise ?_
      | with_reducible refine seqZ_nx ?_
      | with_reducible refine seqZ_rt ?_
      | with_reducible refine seqZ_ct ?_
      | with_reducible refine seqZ_bk ?_
      | with_reducible refine seqZ_ex ?_
      | with_reducible refine fnZ_nx ?_
      | with_reducible refine fnZ_rt ?_
      | with_reducible refine fnZ_ex ?_
      | with_reducible refine stepZ_nx ?_
      | with_reducible refine stepZ_rt ?_
      | with_reducible refine stepZ_ct ?_
      | with_reducible refine stepZ_bk ?_
      | with_reducible refine stepZ_ex ?_
      | with_reducible refine w_C ?_
      | with_reducible refine w_r2 ?_
      | with_reducible refine w_r1 ?_
      | with_reducible refine w_cons ?_
      | with_reducible refine w_nil ?_
      | with_reducible refine w_tup ?_
      | with_reducible refine w_lst ?_
      | with_reducible refine w_lstM ?_
      | with_reducible refine w_listM ?_
      | with_reducible refine w_if ?_
      | with_reducible refine w_tOf ?_
      | with_reducible refine w_tAnd ?_
      | with_reducible refine w_tOr ?_
      | with_reducible refine w_tNot ?_
      | with_reducible refine w_tYes ?_
      | with_reducible refine w_vAnd ?_
      | with_reducible refine w_vOr ?_
      | with_reducible refine w_vNot ?_
      | with_reducible refine w_chain ?_
      | with_reducible refine w_call ?_
      | with_reducible refine w_cb ?_
      | with_reducible refine w_oNone ?_
      | with_reducible refine w_oSome ?_
      | with_reducible refine w_sl ?_
      | with_reducible refine w_mt ?_
      | with_reducible refine w_fz ?_
      | with_reducible refine w_any ?_
      | with_reducible refine w_rng1 ?_
      | with_reducible refine w_rng2 ?_
      | with_reducible refine w_zip ?_
      | with_reducible refine w_enum ?_
      | with_reducible refine w_lc ?_
      | with_reducible refine w_lcM ?_
      | with_reducible refine lc_nil ?_
      | with_reducible refine go_nil ?_
      | with_reducible refine s_try ?_
      | with_reducible refine tryZ_nx ?_
      | with_reducible refine tryZ_rt ?_
      | with_reducible refine tryZ_bk ?_
      | with_reducible refine tryZ_ct ?_
      | with_reducible refine tryZ_ex (by decide) ?_
      | with_reducible refine w_dct ?_
      | with_reducible refine ⟨_, eqD_ii, ?_⟩
      | with_reducible refine ⟨_, eqD_ss, ?_⟩
      | with_reducible refine ⟨_, neD_ii, ?_⟩
      | with_reducible refine ⟨_, neD_ss, ?_⟩
      | with_reducible refine ⟨_, eqD_bb, ?_⟩
      | with_reducible refine ⟨_, isD_bb, ?_⟩
      | with_reducible refine ⟨_, ltDD_ii, ?_⟩
      | with_reducible refine ⟨_, add_ii, ?_⟩
      | with_reducible refine ⟨_, eqD_tupI, ?_⟩
      | with_reducible refine ⟨_, ltDD_tup, ?_⟩
      | with_reducible refine ⟨_, eqD_strs, ?_⟩
      | with_reducible refine ⟨_, neD_strs, ?_⟩
      | with_reducible refine ⟨_, inD2_str, ?_⟩
      | with_reducible refine ⟨_, neD_nil, ?_⟩
      | with_reducible refine ⟨_, eqD_nil, ?_⟩
      | with_reducible refine ⟨_, eqD_ints, ?_⟩
      | with_reducible refine ⟨_, neD_ints, ?_⟩
      | with_reducible refine ⟨_, ltDD_lst, ?_⟩
      | with_reducible refine ⟨Nat.le_of_ble_eq_true rfl, ?_⟩
      | with_reducible refine ⟨_, rfl, ?_⟩
      | with_reducible refine ⟨_, _, rfl, ?_⟩
      | with_reducible refine ⟨_, _, rfl, (by with_unfolding_all rfl : itemsOf _ = some _), ?_⟩
      | with_reducible refine ⟨_, (by with_unfolding_all rfl : ordD _ _ = some _), ?_⟩
      | with_reducible refine ⟨(by with_unfolding_all rfl : tyStr _ _ = true), ?_⟩
      | with_reducible refine ⟨_, (by with_unfolding_all rfl : negD _ _ = some _), ?_⟩
      | with_reducible refine ⟨_, (by with_unfolding_all rfl : isiD _ _ _ = some _), ?_⟩
      | with_reducible refine ⟨_, (by with_unfolding_all rfl : Tg.set _ _ _ = some _), ?_⟩
      | with_reducible refine ⟨_, _, rfl, ?_⟩
      | (with_reducible refine ⟨fun hb => ?_, fun hb => ?_⟩ <;> (try simp only [decide_eq_true_eq, decide_eq_false_iff_not, Bool.not_eq_true', Bool.not_eq_false', reduceCtorEq] at hb) <;> (try (exfalso; revert hb; decide)))
      | fail
    refine .inl ⟨_, rfl, ?_⟩
    refine go_inv (fun items e S1 => ∃ (l long : List (List D)) (x3 x4 : Option D) (T : Store), items = l.map D.tup ∧ (∀ r ∈ l, r.length ≤ 5) ∧ long.length + 4 * l.length ≤ 400 ∧ long ++ (l.flatMap fun r => ws.map fun w => r ++ [w]) = stepR found ws ∧ e = [some (.lst (found.map .tup)), some (.lst ws), some (.lst (long.map .tup)), x3, x4] ∧ S1 = S ++ T) ?_ ?_ _ _ _ ⟨found, [], _, _, T, rfl, fun r hr => of_decide_eq_true (List.all_eq_true.mp q2 r hr), by simp; omega, rfl, rfl, rfl⟩
    · rintro e S1 ⟨l, long, x3, x4, T, hi, hl, hb, hs, rfl, rfl⟩
      cases l with
      | cons => cases hi
      | nil =>
        rw [List.flatMap_nil, List.append_nil] at hs
        subst hs
        repeat' first
          | with_reducible refine w_var _ (by with_unfolding_all rfl) ?_
          | with_reducible refine seqZ_nxs (by simp only [List.set_cons_succ, List.set_cons_zero]; exact rfl) ?_
          | with_reducible refine stepZ_nxs (by simp only [List.set_cons_succ, List.set_cons_zero]; exact rfl) ?_
          | with_reducible refine s_seq ?_
          | with_reducible refine s_set ?_
          | with_reducible refine s_if ?_
          | with_reducible refine s_ret ?_
          | with_reducible refine s_expr ?_
          | with_reducible refine s_next ?_
          | with_reducible refine s_par ?_
          | with_reducible refine s_asg ?_
          | with_reducible refine s_setIx ?_
          | with_reducible refine s_augIx ?_
          | with_reducible refine s_aug ?_
          | with_reducible refine s_for ?_
          | with_reducible refine s_break ?_
          | with_reducible refine s_cont ?_
          | with_reducible refine s_raise ?_
          | with_reducible refine seqZ_nx ?_
          | with_reducible refine seqZ_rt ?_
          | with_reducible refine seqZ_ct ?_
          | with_reducible refine seqZ_bk ?_
          | with_reducible refine seqZ_ex ?_
          | with_reducible refine fnZ_nx ?_
          | with_reducible refine fnZ_rt ?_
          | with_reducible refine fnZ_ex ?_
          | with_reducible refine stepZ_nx ?_
          | with_reducible refine stepZ_rt ?_
          | with_reducible refine stepZ_ct ?_
          | with_reducible refine stepZ_bk ?_
          | with_reducible refine stepZ_ex ?_
          | with_reducible refine w_C ?_
          | with_reducible refine w_r2 ?_
          | with_reducible refine w_r1 ?_
          | with_reducible refine w_cons ?_
          | with_reducible refine w_nil ?_
          | with_reducible refine w_tup ?_
          | with_reducible refine w_lst ?_
          | with_reducible refine w_lstM ?_
          | with_reducible refine w_listM ?_
          | with_reducible refine w_if ?_
          | with_reducible refine w_tOf ?_
          | with_reducible refine w_tAnd ?_
          | with_reducible refine w_tOr ?_
          | with_reducible refine w_tNot ?_
          | with_reducible refine w_tYes ?_
          | with_reducible refine w_vAnd ?_
          | with_reducible refine w_vOr ?_
          | with_reducible refine w_vNot ?_
          | with_reducible refine w_chain ?_
          | with_reducible refine w_call ?_
          | with_reducible refine w_cb ?_
          | with_reducible refine w_oNone ?_
          | with_reducible refine w_oSome ?_
          | with_reducible refine w_sl ?_
          | with_reducible refine w_mt ?_
          | with_reducible refine w_fz ?_
          | with_reducible refine w_any ?_
          | with_reducible refine w_rng1 ?_
          | with_reducible refine w_rng2 ?_
          | with_reducible refine w_zip ?_
          | with_reducible refine w_enum ?_
          | with_reducible refine w_lc ?_
          | with_reducible refine w_lcM ?_
          | with_reducible refine lc_nil ?_
          | with_reducible refine go_nil ?_
          | with_reducible refine s_try ?_
          | with_reducible refine tryZ_nx ?_
          | with_reducible refine tryZ_rt ?_
          | with_reducible refine tryZ_bk ?_
          | with_reducible refine tryZ_ct ?_
          | with_reducible refine tryZ_ex (by decide) ?_
          | with_reducible refine w_dct ?_
          | with_reducible refine ⟨_, eqD_ii, ?_⟩
          | with_reducible refine ⟨_, eqD_ss, ?_⟩
          | with_reducible refine ⟨_, neD_ii, ?_⟩
          | with_reducible refine ⟨_, neD_ss, ?_⟩
          | with_reducible refine ⟨_, eqD_bb, ?_⟩
          | with_reducible refine ⟨_, isD_bb, ?_⟩
          | with_reducible refine ⟨_, ltDD_ii, ?_⟩
          | with_reducible refine ⟨_, add_ii, ?_⟩
          | with_reducible refine ⟨_, eqD_tupI, ?_⟩
          | with_reducible refine ⟨_, ltDD_tup, ?_⟩
          | with_reducible refine ⟨_, eqD_strs, ?_⟩
          | with_reducible refine ⟨_, neD_strs, ?_⟩
          | with_reducible refine ⟨_, inD2_str, ?_⟩
          | with_reducible refine ⟨_, neD_nil, ?_⟩
          | with_reducible refine ⟨_, eqD_nil, ?_⟩
          | with_reducible refine ⟨_, eqD_ints, ?_⟩
          | with_reducible refine ⟨_, neD_ints, ?_⟩
          | with_reducible refine ⟨_, ltDD_lst, ?_⟩
          | with_reducible refine ⟨Nat.le_of_ble_eq_true rfl, ?_⟩
          | with_reducible refine ⟨_, rfl, ?_⟩
          | with_reducible refine ⟨_, _, rfl, ?_⟩
          | with_reducible refine ⟨_, _, rfl, (by with_unfolding_all rfl : itemsOf _ = some _), ?_⟩
          | with_reducible refine ⟨_, (by with_unfolding_all rfl : ordD _ _ = some _), ?_⟩
          | with_reducible refine ⟨(by with_unfolding_all rfl : tyStr _ _ = true), ?_⟩
          | with_reducible refine ⟨_, (by with_unfolding_all rfl : negD _ _ = some _), ?_⟩
          | with_reducible refine ⟨_, (by with_unfolding_all rfl : isiD _ _ _ = some _), ?_⟩
          | with_reducible refine ⟨_, (by with_unfolding_all rfl : Tg.set _ _ _ = some _), ?_⟩
          | with_reducible refine ⟨_, _, rfl, ?_⟩
          | (with_reducible refine ⟨fun hb => ?_, fun hb => ?_⟩ <;> (try simp only [decide_eq_true_eq, decide_eq_false_iff_not, Bool.not_eq_true', Bool.not_eq_false', reduceCtorEq] at hb) <;> (try (exfalso; revert hb; decide)))
          | fail
        rw [← tk]
        exact ⟨k + 1, _, _, _, _, T, by omega, rfl, rfl, rfl⟩
    · rintro d ds e S1 ⟨l, long, x3, x4, T, hi, hl, hb, hs, rfl, rfl⟩
      cases l with
      | nil => cases hi
      | cons r l =>
        cases hi
        refine ⟨_, rfl, ?_⟩
        have r5 := hl r (by simp)
        rw [List.flatMap_cons, ← List.append_assoc] at hs
        simp only [List.length_cons] at hb
        with_reducible refine ws_env (by simp only [List.set_cons_succ, List.set_cons_zero]; exact rfl) ?_
        repeat' first
          | with_reducible refine w_var _ (by with_unfolding_all rfl) ?_
          | with_reducible refine seqZ_nxs (by simp only [List.set_cons_succ, List.set_cons_zero]; exact rfl) ?_
          | with_reducible refine stepZ_nxs (by simp only [List.set_cons_succ, List.set_cons_zero]; exact rfl) ?_
          | with_reducible refine s_seq ?_
          | with_reducible refine s_set ?_
          | with_reducible refine s_if ?_
          | with_reducible refine s_ret ?_
          | with_reducible refine s_expr ?_
          | with_reducible refine s_next ?_
          | with_reducible refine s_par ?_
          | with_reducible refine s_asg ?_
          | with_reducible refine s_setIx ?_
          | with_reducible refine s_augIx ?_
          | with_reducible refine s_aug ?_
          | with_reducible refine s_for ?_
          | with_reducible refine s_break ?_
          | with_reducible refine s_cont ?_
          | with_reducible refine s_raise ?_
          | with_reducible refine seqZ_nx ?_
          | with_reducible refine seqZ_rt ?_
          | with_reducible refine seqZ_ct ?_
          | with_reducible refine seqZ_bk ?_
          | with_reducible refine seqZ_ex ?_
          | with_reducible refine fnZ_nx ?_
          | with_reducible refine fnZ_rt ?_
          | with_reducible refine fnZ_ex ?_
          | with_reducible refine stepZ_nx ?_
          | with_reducible refine stepZ_rt ?_
          | with_reducible refine stepZ_ct ?_
          | with_reducible refine stepZ_bk ?_
          | with_reducible refine stepZ_ex ?_
          | with_reducible refine w_C ?_
          | with_reducible refine w_r2 ?_
          | with_reducible refine w_r1 ?_
          | with_reducible refine w_cons ?_
          | with_reducible refine w_nil ?_
          | with_reducible refine w_tup ?_
          | with_reducible refine w_lst ?_
          | with_reducible refine w_lstM ?_
          | with_reducible refine w_listM ?_
          | with_reducible refine w_if ?_
          | with_reducible refine w_tOf ?_
          | with_reducible refine w_tAnd ?_
          | with_reducible refine w_tOr ?_
          | with_reducible refine w_tNot ?_
          | with_reducible refine w_tYes ?_
          | with_reducible refine w_vAnd ?_
          | with_reducible refine w_vOr ?_
          | with_reducible refine w_vNot ?_
          | with_reducible refine w_chain ?_
          | with_reducible refine w_call ?_
          | with_reducible refine w_cb ?_
          | with_reducible refine w_oNone ?_
          | with_reducible refine w_oSome ?_
          | with_reducible refine w_sl ?_
          | with_reducible refine w_mt ?_
          | with_reducible refine w_fz ?_
          | with_reducible refine w_any ?_
          | with_reducible refine w_rng1 ?_
          | with_reducible refine w_rng2 ?_
          | with_reducible refine w_zip ?_
          | with_reducible refine w_enum ?_
          | with_reducible refine w_lc ?_
          | with_reducible refine w_lcM ?_
          | with_reducible refine lc_nil ?_
          | with_reducible refine go_nil ?_
          | with_reducible refine s_try ?_
          | with_reducible refine tryZ_nx ?_
          | with_reducible refine tryZ_rt ?_
          | with_reducible refine tryZ_bk ?_
          | with_reducible refine tryZ_ct ?_
          | with_reducible refine tryZ_ex (by decide) ?_
          | with_reducible refine w_dct ?_
          | with_reducible refine ⟨_, eqD_ii, ?_⟩
          | with_reducible refine ⟨_, eqD_ss, ?_⟩
          | with_reducible refine ⟨_, neD_ii, ?_⟩
          | with_reducible refine ⟨_, neD_ss, ?_⟩
          | with_reducible refine ⟨_, eqD_bb, ?_⟩
          | with_reducible refine ⟨_, isD_bb, ?_⟩
          | with_reducible refine ⟨_, ltDD_ii, ?_⟩
          | with_reducible refine ⟨_, add_ii, ?_⟩
          | with_reducible refine ⟨_, eqD_tupI, ?_⟩
          | with_reducible refine ⟨_, ltDD_tup, ?_⟩
          | with_reducible refine ⟨_, eqD_strs, ?_⟩
          | with_reducible refine ⟨_, neD_strs, ?_⟩
          | with_reducible refine ⟨_, inD2_str, ?_⟩
          | with_reducible refine ⟨_, neD_nil, ?_⟩
          | with_reducible refine ⟨_, eqD_nil, ?_⟩
          | with_reducible refine ⟨_, eqD_ints, ?_⟩
          | with_reducible refine ⟨_, neD_ints, ?_⟩
          | with_reducible refine ⟨_, ltDD_lst, ?_⟩
          | with_reducible refine ⟨Nat.le_of_ble_eq_true rfl, ?_⟩
          | with_reducible refine ⟨_, rfl, ?_⟩
          | with_reducible refine ⟨_, _, rfl, ?_⟩
          | with_reducible refine ⟨_, _, rfl, (by with_unfolding_all rfl : itemsOf _ = some _), ?_⟩
          | with_reducible refine ⟨_, (by with_unfolding_all rfl : ordD _ _ = some _), ?_⟩
          | with_reducible refine ⟨(by with_unfolding_all rfl : tyStr _ _ = true), ?_⟩
          | with_reducible refine ⟨_, (by with_unfolding_all rfl : negD _ _ = some _), ?_⟩
          | with_reducible refine ⟨_, (by with_unfolding_all rfl : isiD _ _ _ = some _), ?_⟩
          | with_reducible refine ⟨_, (by with_unfolding_all rfl : Tg.set _ _ _ = some _), ?_⟩
          | with_reducible refine ⟨_, _, rfl, ?_⟩
          | (with_reducible refine ⟨fun hb => ?_, fun hb => ?_⟩ <;> (try simp only [decide_eq_true_eq, decide_eq_false_iff_not, Bool.not_eq_true', Bool.not_eq_false', reduceCtorEq] at hb) <;> (try (exfalso; revert hb; decide)))
          | fail
        refine .inl ⟨_, rfl, by omega, ?_⟩
        refine lc_eachI (fun d => D.tup (r ++ [d])) (fun d hd => ⟨_, rfl, fun T => ?_⟩) (fun T2 => ?_)
        · skip
          with_reducible refine wp_env (by simp only [wipeE, List.set_cons_succ, List.set_cons_zero]; exact rfl) ?_
          repeat' first
            | (with_reducible refine ⟨_, add_tt (by simp; omega), ?_⟩)
            | with_reducible refine w_var _ (by with_unfolding_all rfl) ?_
            | with_reducible refine seqZ_nxs (by simp only [List.set_cons_succ, List.set_cons_zero]; exact rfl) ?_
            | with_reducible refine stepZ_nxs (by simp only [List.set_cons_succ, List.set_cons_zero]; exact rfl) ?_
            | with_reducible refine s_seq ?_
            | with_reducible refine s_set ?_
            | with_reducible refine s_if ?_
            | with_reducible refine s_ret ?_
            | with_reducible refine s_expr ?_
            | with_reducible refine s_next ?_
            | with_reducible refine s_par ?_
            | with_reducible refine s_asg ?_
            | with_reducible refine s_setIx ?_
            | with_reducible refine s_augIx ?_
            | with_reducible refine s_aug ?_
            | with_reducible refine s_for ?_
            | with_reducible refine s_break ?_
            | with_reducible refine s_cont ?_
            | with_reducible refine s_raise ?_
            | with_reducible refine seqZ_nx ?_
            | with_reducible refine seqZ_rt ?_
            | with_reducible refine seqZ_ct ?_
            | with_reducible refine seqZ_bk ?_
            | with_reducible refine seqZ_ex ?_
            | with_reducible refine fnZ_nx ?_
            | with_reducible refine fnZ_rt ?_
            | with_reducible refine fnZ_ex ?_
            | with_reducible refine stepZ_nx ?_
            | with_reducible refine stepZ_rt ?_
            | with_reducible refine stepZ_ct ?_
            | with_reducible refine stepZ_bk ?_
            | with_reducible refine stepZ_ex ?_
            | with_reducible refine w_C ?_
            | with_reducible refine w_r2 ?_
            | with_reducible refine w_r1 ?_
            | with_reducible refine w_cons ?_
            | with_reducible refine w_nil ?_
            | with_reducible refine w_tup ?_
            | with_reducible refine w_lst ?_
            | with_reducible refine w_lstM ?_
            | with_reducible refine w_listM ?_
            | with_reducible refine w_if ?_
            | with_reducible refine w_tOf ?_
            | with_reducible refine w_tAnd ?_
            | with_reducible refine w_tOr ?_
            | with_reducible refine w_tNot ?_
            | with_reducible refine w_tYes ?_
            | with_reducible refine w_vAnd ?_
            | with_reducible refine w_vOr ?_
            | with_reducible refine w_vNot ?_
            | with_reducible refine w_chain ?_
            | with_reducible refine w_call ?_
            | with_reducible refine w_cb ?_
            | with_reducible refine w_oNone ?_
            | with_reducible refine w_oSome ?_
            | with_reducible refine w_sl ?_
            | with_reducible refine w_mt ?_
            | with_reducible refine w_fz ?_
            | with_reducible refine w_any ?_
            | with_reducible refine w_rng1 ?_
            | with_reducible refine w_rng2 ?_
            | with_reducible refine w_zip ?_
            | with_reducible refine w_enum ?_
            | with_reducible refine w_lc ?_
            | with_reducible refine w_lcM ?_
            | with_reducible refine lc_nil ?_
            | with_reducible refine go_nil ?_
            | with_reducible refine s_try ?_
            | with_reducible refine tryZ_nx ?_
            | with_reducible refine tryZ_rt ?_
            | with_reducible refine tryZ_bk ?_
            | with_reducible refine tryZ_ct ?_
            | with_reducible refine tryZ_ex (by decide) ?_
            | with_reducible refine w_dct ?_
            | with_reducible refine ⟨_, eqD_ii, ?_⟩
            | with_reducible refine ⟨_, eqD_ss, ?_⟩
            | with_reducible refine ⟨_, neD_ii, ?_⟩
            | with_reducible refine ⟨_, neD_ss, ?_⟩
            | with_reducible refine ⟨_, eqD_bb, ?_⟩
            | with_reducible refine ⟨_, isD_bb, ?_⟩
            | with_reducible refine ⟨_, ltDD_ii, ?_⟩
            | with_reducible refine ⟨_, add_ii, ?_⟩
            | with_reducible refine ⟨_, eqD_tupI, ?_⟩
            | with_reducible refine ⟨_, ltDD_tup, ?_⟩
            | with_reducible refine ⟨_, eqD_strs, ?_⟩
            | with_reducible refine ⟨_, neD_strs, ?_⟩
            | with_reducible refine ⟨_, inD2_str, ?_⟩
            | with_reducible refine ⟨_, neD_nil, ?_⟩
            | with_reducible refine ⟨_, eqD_nil, ?_⟩
            | with_reducible refine ⟨_, eqD_ints, ?_⟩
            | with_reducible refine ⟨_, neD_ints, ?_⟩
            | with_reducible refine ⟨_, ltDD_lst, ?_⟩
            | with_reducible refine ⟨Nat.le_of_ble_eq_true rfl, ?_⟩
            | with_reducible refine ⟨_, rfl, ?_⟩
            | with_reducible refine ⟨_, _, rfl, ?_⟩
            | with_reducible refine ⟨_, _, rfl, (by with_unfolding_all rfl : itemsOf _ = some _), ?_⟩
            | with_reducible refine ⟨_, (by with_unfolding_all rfl : ordD _ _ = some _), ?_⟩
            | with_reducible refine ⟨(by with_unfolding_all rfl : tyStr _ _ = true), ?_⟩
            | with_reducible refine ⟨_, (by with_unfolding_all rfl : negD _ _ = some _), ?_⟩
            | with_reducible refine ⟨_, (by with_unfolding_all rfl : isiD _ _ _ = some _), ?_⟩
            | with_reducible refine ⟨_, (by with_unfolding_all rfl : Tg.set _ _ _ = some _), ?_⟩
            | with_reducible refine ⟨_, _, rfl, ?_⟩
            | (with_reducible refine ⟨fun hb => ?_, fun hb => ?_⟩ <;> (try simp only [decide_eq_true_eq, decide_eq_false_iff_not, Bool.not_eq_true', Bool.not_eq_false', reduceCtorEq] at hb) <;> (try (exfalso; revert hb; decide)))
            | fail
          exact ⟨rfl, _, rfl⟩
        · repeat' first
            | (with_reducible refine ⟨_, add_ll (by simp; omega), ?_⟩)
            | with_reducible refine w_var _ (by with_unfolding_all rfl) ?_
            | with_reducible refine seqZ_nxs (by simp only [List.set_cons_succ, List.set_cons_zero]; exact rfl) ?_
            | with_reducible refine stepZ_nxs (by simp only [List.set_cons_succ, List.set_cons_zero]; exact rfl) ?_
            | with_reducible refine s_seq ?_
            | with_reducible refine s_set ?_
            | with_reducible refine s_if ?_
            | with_reducible refine s_ret ?_
            | with_reducible refine s_expr ?_
            | with_reducible refine s_next ?_
            | with_reducible refine s_par ?_
            | with_reducible refine s_asg ?_
            | with_reducible refine s_setIx ?_
            | with_reducible refine s_augIx ?_
            | with_reducible refine s_aug ?_
            | with_reducible refine s_for ?_
            | with_reducible refine s_break ?_
            | with_reducible refine s_cont ?_
            | with_reducible refine s_raise ?_
            | with_reducible refine seqZ_nx ?_
            | with_reducible refine seqZ_rt ?_
            | with_reducible refine seqZ_ct ?_
            | with_reducible refine seqZ_bk ?_
            | with_reducible refine seqZ_ex ?_
            | with_reducible refine fnZ_nx ?_
            | with_reducible refine fnZ_rt ?_
            | with_reducible refine fnZ_ex ?_
            | with_reducible refine stepZ_nx ?_
            | with_reducible refine stepZ_rt ?_
            | with_reducible refine stepZ_ct ?_
            | with_reducible refine stepZ_bk ?_
            | with_reducible refine stepZ_ex ?_
            | with_reducible refine w_C ?_
            | with_reducible refine w_r2 ?_
            | with_reducible refine w_r1 ?_
            | with_reducible refine w_cons ?_
            | with_reducible refine w_nil ?_
            | with_reducible refine w_tup ?_
            | with_reducible refine w_lst ?_
            | with_reducible refine w_lstM ?_
            | with_reducible refine w_listM ?_
            | with_reducible refine w_if ?_
            | with_reducible refine w_tOf ?_
            | with_reducible refine w_tAnd ?_
            | with_reducible refine w_tOr ?_
            | with_reducible refine w_tNot ?_
            | with_reducible refine w_tYes ?_
            | with_reducible refine w_vAnd ?_
            | with_reducible refine w_vOr ?_
            | with_reducible refine w_vNot ?_
            | with_reducible refine w_chain ?_
            | with_reducible refine w_call ?_
            | with_reducible refine w_cb ?_
            | with_reducible refine w_oNone ?_
            | with_reducible refine w_oSome ?_
            | with_reducible refine w_sl ?_
            | with_reducible refine w_mt ?_
            | with_reducible refine w_fz ?_
            | with_reducible refine w_any ?_
            | with_reducible refine w_rng1 ?_
            | with_reducible refine w_rng2 ?_
            | with_reducible refine w_zip ?_
            | with_reducible refine w_enum ?_
            | with_reducible refine w_lc ?_
            | with_reducible refine w_lcM ?_
            | with_reducible refine lc_nil ?_
            | with_reducible refine go_nil ?_
            | with_reducible refine s_try ?_
            | with_reducible refine tryZ_nx ?_
            | with_reducible refine tryZ_rt ?_
            | with_reducible refine tryZ_bk ?_
            | with_reducible refine tryZ_ct ?_
            | with_reducible refine tryZ_ex (by decide) ?_
            | with_reducible refine w_dct ?_
            | with_reducible refine ⟨_, eqD_ii, ?_⟩
            | with_reducible refine ⟨_, eqD_ss, ?_⟩
            | with_reducible refine ⟨_, neD_ii, ?_⟩
            | with_reducible refine ⟨_, neD_ss, ?_⟩
            | with_reducible refine ⟨_, eqD_bb, ?_⟩
            | with_reducible refine ⟨_, isD_bb, ?_⟩
            | with_reducible refine ⟨_, ltDD_ii, ?_⟩
            | with_reducible refine ⟨_, add_ii, ?_⟩
            | with_reducible refine ⟨_, eqD_tupI, ?_⟩
            | with_reducible refine ⟨_, ltDD_tup, ?_⟩
            | with_reducible refine ⟨_, eqD_strs, ?_⟩
            | with_reducible refine ⟨_, neD_strs, ?_⟩
            | with_reducible refine ⟨_, inD2_str, ?_⟩
            | with_reducible refine ⟨_, neD_nil, ?_⟩
            | with_reducible refine ⟨_, eqD_nil, ?_⟩
            | with_reducible refine ⟨_, eqD_ints, ?_⟩
            | with_reducible refine ⟨_, neD_ints, ?_⟩
            | with_reducible refine ⟨_, ltDD_lst, ?_⟩
            | with_reducible refine ⟨Nat.le_of_ble_eq_true rfl, ?_⟩
            | with_reducible refine ⟨_, rfl, ?_⟩
            | with_reducible refine ⟨_, _, rfl, ?_⟩
            | with_reducible refine ⟨_, _, rfl, (by with_unfolding_all rfl : itemsOf _ = some _), ?_⟩
            | with_reducible refine ⟨_, (by with_unfolding_all rfl : ordD _ _ = some _), ?_⟩
            | with_reducible refine ⟨(by with_unfolding_all rfl : tyStr _ _ = true), ?_⟩
            | with_reducible refine ⟨_, (by with_unfolding_all rfl : negD _ _ = some _), ?_⟩
            | with_reducible refine ⟨_, (by with_unfolding_all rfl : isiD _ _ _ = some _), ?_⟩
            | with_reducible refine ⟨_, (by with_unfolding_all rfl : Tg.set _ _ _ = some _), ?_⟩
            | with_reducible refine ⟨_, _, rfl, ?_⟩
            | (with_reducible refine ⟨fun hb => ?_, fun hb => ?_⟩ <;> (try simp only [decide_eq_true_eq, decide_eq_false_iff_not, Bool.not_eq_true', Bool.not_eq_false', reduceCtorEq] at hb) <;> (try (exfalso; revert hb; decide)))
            | fail
          have e0 : long.map D.tup ++ ws.map (fun d => D.tup (r ++ [d])) = (long ++ ws.map (fun w => r ++ [w])).map D.tup := by
            rw [List.map_append, List.map_map]
            rfl
          rw [e0]
          exact ⟨l, long ++ ws.map (fun w => r ++ [w]), _, _, _, rfl, fun r hr => hl r (by simp [hr]), by simp; omega, hs, rfl, List.append_assoc _ _ _⟩
/-! the law -/
theorem back_all : ∀ cs ∈ c4, ∀ fg ∈ f4, ∀ br ∈ b4, ∀ en ∈ e4, ∀ d ∈ [[48], [49]], splitM (TL.joinL [32] [cs, fg, br, en, d]) [32] = [cs, fg, br, en, d] := by decide +kernel
theorem back (r : RV cs fg br en tn) : parseM (fmtM [.str cs, .str fg, .str br, .str en, .int tn]) = some [.str cs, .str fg, .str br, .str en, .int tn] := by
  have h : itemsM (fmtM [.str cs, .str fg, .str br, .str en, .int tn]) = [.str cs, .str fg, .str br, .str en, .int tn] := by
    have ne : ∀ w ∈ c4 ++ f4 ++ b4 ++ e4, itemD w = .str w := fun w hw => by
      have : ∀ w ∈ c4 ++ f4 ++ b4 ++ e4, ¬ w = [48] ∧ ¬ w = [49] := by decide
      obtain ⟨h1, h2⟩ := this w hw
      unfold itemD
      rw [if_neg h1, if_neg h2]
    have i1 := ne cs (by simp only [List.mem_append]; exact .inl (.inl (.inl r.cs)))
    have i2 := ne fg (by simp only [List.mem_append]; exact .inl (.inl (.inr r.fg)))
    have i3 := ne br (by simp only [List.mem_append]; exact .inl (.inr r.br))
    have i4 := ne en (by simp only [List.mem_append]; exact .inr r.en)
    unfold itemsM fmtM
    rcases r.tn with rfl | rfl
    · have q := back_all cs r.cs fg r.fg br r.br en r.en [48] (by simp)
      show (splitM (TL.joinL [32] [cs, fg, br, en, [48]]) [32]).map itemD = _
      rw [q]
      simp only [List.map_cons, List.map_nil, i1, i2, i3, i4]
      rfl
    · have q := back_all cs r.cs fg r.fg br r.br en r.en [49] (by simp)
      show (splitM (TL.joinL [32] [cs, fg, br, en, [49]]) [32]).map itemD = _
      rw [q]
      simp only [List.map_cons, List.map_nil, i1, i2, i3, i4]
      rfl
  unfold parseM
  rw [h]
  have b : isRB [.str cs, .str fg, .str br, .str en, .int tn] = true := by
    show (wordB (.str cs) [sApart, sMixed, sTogether, sLast] && (wordB (.str fg) [sSigns, sNumbers, sStrict] && (wordB (.str br) [sAhead, sBehind] && (wordB (.str en) [sFirst, sBehind] && intB (.int tn))))) = true
    have h5 : intB (.int tn) = true := decide_eq_true (by have := r.tn; omega)
    rw [h5, show wordB (.str cs) [sApart, sMixed, sTogether, sLast] = true from decide_eq_true r.cs, show wordB (.str fg) [sSigns, sNumbers, sStrict] = true from decide_eq_true r.fg, show wordB (.str br) [sAhead, sBehind] = true from decide_eq_true r.br, show wordB (.str en) [sFirst, sBehind] = true from decide_eq_true r.en]
    rfl
  rw [if_pos b]
theorem known : parseM [108, 97, 115, 116, 32, 115, 116, 114, 105, 99, 116, 32, 98, 101, 104, 105, 110, 100, 32, 98, 101, 104, 105, 110, 100, 32, 49] = some [.str sLast, .str sStrict, .str sBehind, .str sBehind, .int 1] := by
  have h : itemsM [108, 97, 115, 116, 32, 115, 116, 114, 105, 99, 116, 32, 98, 101, 104, 105, 110, 100, 32, 98, 101, 104, 105, 110, 100, 32, 49] = [.str sLast, .str sStrict, .str sBehind, .str sBehind, .int 1] := by
    have q : splitM [108, 97, 115, 116, 32, 115, 116, 114, 105, 99, 116, 32, 98, 101, 104, 105, 110, 100, 32, 98, 101, 104, 105, 110, 100, 32, 49] [32] = [sLast, sStrict, sBehind, sBehind, [49]] := by decide +kernel
    unfold itemsM
    rw [q]
    rfl
  unfold parseM
  rw [h]
  rfl
theorem joinL_len : ∀ (ls : List (List Nat)), (TL.joinL [32] ls).length ≤ (ls.map List.length).sum + ls.length
  | [] => by simp [TL.joinL]
  | [x] => by simp [TL.joinL]
  | x :: y :: r => by
    have ih := joinL_len (y :: r)
    simp only [TL.joinL, List.map_cons, List.sum_cons, List.length_append, List.length_cons, List.length_nil] at ih ⊢
    omega
theorem rule_pl (r : RV cs fg br en tn) : D.pl 1 (ruleD cs fg br en tn) = true := rfl
theorem items_pl {ds : List D} (h : ∀ d ∈ ds, isItem d = true) : D.pl 1 (.tup ds) = true := by
  show ds.all (D.pl 0) = true
  rw [List.all_eq_true]
  intro d hd
  have := h d hd
  cases d <;> first | rfl | cases this
abbrev marksM : List (List Nat) := [[48], [49], [50], [32], sApart, sLast, sFirst, sBehind, [120], [], [115]]
theorem law_wp {ns : List Int} (hl : ns.length ≤ 63) : wp (m_law [] [.scr ns]) (fun d S => d = .bl true) (fun _ _ => False) := by
  unfold m_law b_law
  with_reducible refine w_fn2 (by simp only [List.map_cons, List.map_nil, List.replicate, List.cons_append, List.nil_append, Nat.reduceSub]; exact rfl) ?_
  repeat' first
    | (with_reducible refine start_w hl fun S0 hS0 => ?_)
    | (with_reducible refine rule_w hS0 fun cs fg br en tn S1 rv hS1 => ?_)
    | (with_reducible refine format_w rv fun T => ?_)
    | with_reducible refine w_var _ (by with_unfolding_all rfl) ?_
    | with_reducible refine seqZ_nxs (by simp only [List.set_cons_succ, List.set_cons_zero]; exact rfl) ?_
    | with_reducible refine stepZ_nxs (by simp only [List.set_cons_succ, List.set_cons_zero]; exact rfl) ?_
    | with_reducible refine s_seq ?_
    | with_reducible refine s_set ?_
    | with_reducible refine s_if ?_
    | with_reducible refine s_ret ?_
    | with_reducible refine s_expr ?_
    | with_reducible refine s_next ?_
    | with_reducible refine s_par ?_
    | with_reducible refine s_asg ?_
    | with_reducible refine s_setIx ?_
    | with_reducible refine s_augIx ?_
    | with_reducible refine s_aug ?_
    | with_reducible refine s_for ?_
    | with_reducible refine s_break ?_
    | with_reducible refine s_cont ?_
    | with_reducible refine s_raise ?_
    | with_reducible refine seqZ_nx ?_
    | with_reducible refine seqZ_rt ?_
    | with_reducible refine seqZ_ct ?_
    | with_reducible refine seqZ_bk ?_
    | with_reducible refine seqZ_ex ?_
    | with_reducible refine fnZ_nx ?_
    | with_reducible refine fnZ_rt ?_
    | with_reducible refine fnZ_ex ?_
    | with_reducible refine stepZ_nx ?_
    | with_reducible refine stepZ_rt ?_
    | with_reducible refine stepZ_ct ?_
    | with_reducible refine stepZ_bk ?_
    | with_reducible refine stepZ_ex ?_
    | with_reducible refine w_C ?_
    | with_reducible refine w_r2 ?_
    | with_reducible refine w_r1 ?_
    | with_reducible refine w_cons ?_
    | with_reducible refine w_nil ?_
    | with_reducible refine w_tup ?_
    | with_reducible refine w_lst ?_
    | with_reducible refine w_lstM ?_
    | with_reducible refine w_listM ?_
    | with_reducible refine w_if ?_
    | with_reducible refine w_tOf ?_
    | with_reducible refine w_tAnd ?_
    | with_reducible refine w_tOr ?_
    | with_reducible refine w_tNot ?_
    | with_reducible refine w_tYes ?_
    | with_reducible refine w_vAnd ?_
    | with_reducible refine w_vOr ?_
    | with_reducible refine w_vNot ?_
    | with_reducible refine w_chain ?_
    | with_reducible refine w_call ?_
    | with_reducible refine w_cb ?_
    | with_reducible refine w_oNone ?_
    | with_reducible refine w_oSome ?_
    | with_reducible refine w_sl ?_
    | with_reducible refine w_mt ?_
    | with_reducible refine w_fz ?_
    | with_reducible refine w_any ?_
    | with_reducible refine w_rng1 ?_
    | with_reducible refine w_rng2 ?_
    | with_reducible refine w_zip ?_
    | with_reducible refine w_enum ?_
    | with_reducible refine w_lc ?_
    | with_reducible refine w_lcM ?_
    | with_reducible refine lc_nil ?_
    | with_reducible refine go_nil ?_
    | with_reducible refine s_try ?_
    | with_reducible refine tryZ_nx ?_
    | with_reducible refine tryZ_rt ?_
    | with_reducible refine tryZ_bk ?_
    | with_reducible refine tryZ_ct ?_
    | with_reducible refine tryZ_ex (by decide) ?_
    | with_reducible refine w_dct ?_
    | with_reducible refine ⟨_, eqD_ii, ?_⟩
    | with_reducible refine ⟨_, eqD_ss, ?_⟩
    | with_reducible refine ⟨_, neD_ii, ?_⟩
    | with_reducible refine ⟨_, neD_ss, ?_⟩
    | with_reducible refine ⟨_, eqD_bb, ?_⟩
    | with_reducible refine ⟨_, isD_bb, ?_⟩
    | with_reducible refine ⟨_, ltDD_ii, ?_⟩
    | with_reducible refine ⟨_, add_ii, ?_⟩
    | with_reducible refine ⟨_, eqD_tupI, ?_⟩
    | with_reducible refine ⟨_, ltDD_tup, ?_⟩
    | with_reducible refine ⟨_, eqD_strs, ?_⟩
    | with_reducible refine ⟨_, neD_strs, ?_⟩
    | with_reducible refine ⟨_, inD2_str, ?_⟩
    | with_reducible refine ⟨_, neD_nil, ?_⟩
    | with_reducible refine ⟨_, eqD_nil, ?_⟩
    | with_reducible refine ⟨_, eqD_ints, ?_⟩
    | with_reducible refine ⟨_, neD_ints, ?_⟩
    | with_reducible refine ⟨_, ltDD_lst, ?_⟩
    | with_reducible refine ⟨Nat.le_of_ble_eq_true rfl, ?_⟩
    | with_reducible refine ⟨_, rfl, ?_⟩
    | with_reducible refine ⟨_, _, rfl, ?_⟩
    | with_reducible refine ⟨_, _, rfl, (by with_unfolding_all rfl : itemsOf _ = some _), ?_⟩
    | with_reducible refine ⟨_, (by with_unfolding_all rfl : ordD _ _ = some _), ?_⟩
    | with_reducible refine ⟨(by with_unfolding_all rfl : tyStr _ _ = true), ?_⟩
    | with_reducible refine ⟨_, (by with_unfolding_all rfl : negD _ _ = some _), ?_⟩
    | with_reducible refine ⟨_, (by with_unfolding_all rfl : isiD _ _ _ = some _), ?_⟩
    | with_reducible refine ⟨_, (by with_unfolding_all rfl : Tg.set _ _ _ = some _), ?_⟩
    | with_reducible refine ⟨_, _, rfl, ?_⟩
    | (with_reducible refine ⟨fun hb => ?_, fun hb => ?_⟩ <;> (try simp only [decide_eq_true_eq, decide_eq_false_iff_not, Bool.not_eq_true', Bool.not_eq_false', reduceCtorEq] at hb) <;> (try (exfalso; revert hb; decide)))
    | fail
  have rs := rule_sum rv
  have ri := rule_items rv
  have bk := back rv
  have fl : (fmtM [.str cs, .str fg, .str br, .str en, .int tn]).length ≤ 200 := by
    have := joinL_len ([D.str cs, .str fg, .str br, .str en, .int tn].map strV)
    unfold fmtM
    rw [List.length_map] at this
    omega
  have ok1 : okD (.str (fmtM [.str cs, .str fg, .str br, .str en, .int tn])) = true := decide_eq_true (by omega)
  have pd1 : parsedD (.str (fmtM [.str cs, .str fg, .str br, .str en, .int tn])) = ruleD cs fg br en tn := by
    show (match parseM (fmtM [.str cs, .str fg, .str br, .str en, .int tn]) with
      | some ds => D.tup ds
      | none => .str sText) = _
    rw [bk]
  have nr : ∀ S, neD S (ruleD cs fg br en tn) (ruleD cs fg br en tn) = some (.bl false) := fun S => by
    rw [neD_pl 1 (by decide) (rule_pl rv) (rule_pl rv)]
    simp
  refine .inr (.inl ⟨_, rfl, by simp, ?_⟩)
  refine lc_eachI (fun d => D.str (strV d)) (fun d hd => ⟨_, rfl, fun T => ?_⟩) (fun T => ?_)
  · skip
    with_reducible refine wp_env (by simp only [wipeE, List.set_cons_succ, List.set_cons_zero]; exact rfl) ?_
    repeat' first
      | (with_reducible refine ⟨_, str_item (ri d hd), ?_⟩)
      | with_reducible refine w_var _ (by with_unfolding_all rfl) ?_
      | with_reducible refine seqZ_nxs (by simp only [List.set_cons_succ, List.set_cons_zero]; exact rfl) ?_
      | with_reducible refine stepZ_nxs (by simp only [List.set_cons_succ, List.set_cons_zero]; exact rfl) ?_
      | with_reducible refine s_seq ?_
      | with_reducible refine s_set ?_
      | with_reducible refine s_if ?_
      | with_reducible refine s_ret ?_
      | with_reducible refine s_expr ?_
      | with_reducible refine s_next ?_
      | with_reducible refine s_par ?_
      | with_reducible refine s_asg ?_
      | with_reducible refine s_setIx ?_
      | with_reducible refine s_augIx ?_
      | with_reducible refine s_aug ?_
      | with_reducible refine s_for ?_
      | with_reducible refine s_break ?_
      | with_reducible refine s_cont ?_
      | with_reducible refine s_raise ?_
      | with_reducible refine seqZ_nx ?_
      | with_reducible refine seqZ_rt ?_
      | with_reducible refine seqZ_ct ?_
      | with_reducible refine seqZ_bk ?_
      | with_reducible refine seqZ_ex ?_
      | with_reducible refine fnZ_nx ?_
      | with_reducible refine fnZ_rt ?_
      | with_reducible refine fnZ_ex ?_
      | with_reducible refine stepZ_nx ?_
      | with_reducible refine stepZ_rt ?_
      | with_reducible refine stepZ_ct ?_
      | with_reducible refine stepZ_bk ?_
      | with_reducible refine stepZ_ex ?_
      | with_reducible refine w_C ?_
      | with_reducible refine w_r2 ?_
      | with_reducible refine w_r1 ?_
      | with_reducible refine w_cons ?_
      | with_reducible refine w_nil ?_
      | with_reducible refine w_tup ?_
      | with_reducible refine w_lst ?_
      | with_reducible refine w_lstM ?_
      | with_reducible refine w_listM ?_
      | with_reducible refine w_if ?_
      | with_reducible refine w_tOf ?_
      | with_reducible refine w_tAnd ?_
      | with_reducible refine w_tOr ?_
      | with_reducible refine w_tNot ?_
      | with_reducible refine w_tYes ?_
      | with_reducible refine w_vAnd ?_
      | with_reducible refine w_vOr ?_
      | with_reducible refine w_vNot ?_
      | with_reducible refine w_chain ?_
      | with_reducible refine w_call ?_
      | with_reducible refine w_cb ?_
      | with_reducible refine w_oNone ?_
      | with_reducible refine w_oSome ?_
      | with_reducible refine w_sl ?_
      | with_reducible refine w_mt ?_
      | with_reducible refine w_fz ?_
      | with_reducible refine w_any ?_
      | with_reducible refine w_rng1 ?_
      | with_reducible refine w_rng2 ?_
      | with_reducible refine w_zip ?_
      | with_reducible refine w_enum ?_
      | with_reducible refine w_lc ?_
      | with_reducible refine w_lcM ?_
      | with_reducible refine lc_nil ?_
      | with_reducible refine go_nil ?_
      | with_reducible refine s_try ?_
      | with_reducible refine tryZ_nx ?_
      | with_reducible refine tryZ_rt ?_
      | with_reducible refine tryZ_bk ?_
      | with_reducible refine tryZ_ct ?_
      | with_reducible refine tryZ_ex (by decide) ?_
      | with_reducible refine w_dct ?_
      | with_reducible refine ⟨_, eqD_ii, ?_⟩
      | with_reducible refine ⟨_, eqD_ss, ?_⟩
      | with_reducible refine ⟨_, neD_ii, ?_⟩
      | with_reducible refine ⟨_, neD_ss, ?_⟩
      | with_reducible refine ⟨_, eqD_bb, ?_⟩
      | with_reducible refine ⟨_, isD_bb, ?_⟩
      | with_reducible refine ⟨_, ltDD_ii, ?_⟩
      | with_reducible refine ⟨_, add_ii, ?_⟩
      | with_reducible refine ⟨_, eqD_tupI, ?_⟩
      | with_reducible refine ⟨_, ltDD_tup, ?_⟩
      | with_reducible refine ⟨_, eqD_strs, ?_⟩
      | with_reducible refine ⟨_, neD_strs, ?_⟩
      | with_reducible refine ⟨_, inD2_str, ?_⟩
      | with_reducible refine ⟨_, neD_nil, ?_⟩
      | with_reducible refine ⟨_, eqD_nil, ?_⟩
      | with_reducible refine ⟨_, eqD_ints, ?_⟩
      | with_reducible refine ⟨_, neD_ints, ?_⟩
      | with_reducible refine ⟨_, ltDD_lst, ?_⟩
      | with_reducible refine ⟨Nat.le_of_ble_eq_true rfl, ?_⟩
      | with_reducible refine ⟨_, rfl, ?_⟩
      | with_reducible refine ⟨_, _, rfl, ?_⟩
      | with_reducible refine ⟨_, _, rfl, (by with_unfolding_all rfl : itemsOf _ = some _), ?_⟩
      | with_reducible refine ⟨_, (by with_unfolding_all rfl : ordD _ _ = some _), ?_⟩
      | with_reducible refine ⟨(by with_unfolding_all rfl : tyStr _ _ = true), ?_⟩
      | with_reducible refine ⟨_, (by with_unfolding_all rfl : negD _ _ = some _), ?_⟩
      | with_reducible refine ⟨_, (by with_unfolding_all rfl : isiD _ _ _ = some _), ?_⟩
      | with_reducible refine ⟨_, (by with_unfolding_all rfl : Tg.set _ _ _ = some _), ?_⟩
      | with_reducible refine ⟨_, _, rfl, ?_⟩
      | (with_reducible refine ⟨fun hb => ?_, fun hb => ?_⟩ <;> (try simp only [decide_eq_true_eq, decide_eq_false_iff_not, Bool.not_eq_true', Bool.not_eq_false', reduceCtorEq] at hb) <;> (try (exfalso; revert hb; decide)))
      | fail
    exact ⟨rfl, _, rfl⟩
  generalize hF : fmtM [.str cs, .str fg, .str br, .str en, .int tn] = fmt at fl ok1 pd1
  repeat' first
    | (with_reducible refine ⟨_, _, join_items ri (by omega), ?_⟩)
    | ((with_reducible refine parsed_w ok1 fun _ hr T => ?_) ; subst hr ; rw [pd1])
    | (with_reducible refine ⟨_, nr _, ?_⟩)
    | with_reducible refine w_var _ (by with_unfolding_all rfl) ?_
    | with_reducible refine seqZ_nxs (by simp only [List.set_cons_succ, List.set_cons_zero]; exact rfl) ?_
    | with_reducible refine stepZ_nxs (by simp only [List.set_cons_succ, List.set_cons_zero]; exact rfl) ?_
    | with_reducible refine s_seq ?_
    | with_reducible refine s_set ?_
    | with_reducible refine s_if ?_
    | with_reducible refine s_ret ?_
    | with_reducible refine s_expr ?_
    | with_reducible refine s_next ?_
    | with_reducible refine s_par ?_
    | with_reducible refine s_asg ?_
    | with_reducible refine s_setIx ?_
    | with_reducible refine s_augIx ?_
    | with_reducible refine s_aug ?_
    | with_reducible refine s_for ?_
    | with_reducible refine s_break ?_
    | with_reducible refine s_cont ?_
    | with_reducible refine s_raise ?_
    | with_reducible refine seqZ_nx ?_
    | with_reducible refine seqZ_rt ?_
    | with_reducible refine seqZ_ct ?_
    | with_reducible refine seqZ_bk ?_
    | with_reducible refine seqZ_ex ?_
    | with_reducible refine fnZ_nx ?_
    | with_reducible refine fnZ_rt ?_
    | with_reducible refine fnZ_ex ?_
    | with_reducible refine stepZ_nx ?_
    | with_reducible refine stepZ_rt ?_
    | with_reducible refine stepZ_ct ?_
    | with_reducible refine stepZ_bk ?_
    | with_reducible refine stepZ_ex ?_
    | with_reducible refine w_C ?_
    | with_reducible refine w_r2 ?_
    | with_reducible refine w_r1 ?_
    | with_reducible refine w_cons ?_
    | with_reducible refine w_nil ?_
    | with_reducible refine w_tup ?_
    | with_reducible refine w_lst ?_
    | with_reducible refine w_lstM ?_
    | with_reducible refine w_listM ?_
    | with_reducible refine w_if ?_
    | with_reducible refine w_tOf ?_
    | with_reducible refine w_tAnd ?_
    | with_reducible refine w_tOr ?_
    | with_reducible refine w_tNot ?_
    | with_reducible refine w_tYes ?_
    | with_reducible refine w_vAnd ?_
    | with_reducible refine w_vOr ?_
    | with_reducible refine w_vNot ?_
    | with_reducible refine w_chain ?_
    | with_reducible refine w_call ?_
    | with_reducible refine w_cb ?_
    | with_reducible refine w_oNone ?_
    | with_reducible refine w_oSome ?_
    | with_reducible refine w_sl ?_
    | with_reducible refine w_mt ?_
    | with_reducible refine w_fz ?_
    | with_reducible refine w_any ?_
    | with_reducible refine w_rng1 ?_
    | with_reducible refine w_rng2 ?_
    | with_reducible refine w_zip ?_
    | with_reducible refine w_enum ?_
    | with_reducible refine w_lc ?_
    | with_reducible refine w_lcM ?_
    | with_reducible refine lc_nil ?_
    | with_reducible refine go_nil ?_
    | with_reducible refine s_try ?_
    | with_reducible refine tryZ_nx ?_
    | with_reducible refine tryZ_rt ?_
    | with_reducible refine tryZ_bk ?_
    | with_reducible refine tryZ_ct ?_
    | with_reducible refine tryZ_ex (by decide) ?_
    | with_reducible refine w_dct ?_
    | with_reducible refine ⟨_, eqD_ii, ?_⟩
    | with_reducible refine ⟨_, eqD_ss, ?_⟩
    | with_reducible refine ⟨_, neD_ii, ?_⟩
    | with_reducible refine ⟨_, neD_ss, ?_⟩
    | with_reducible refine ⟨_, eqD_bb, ?_⟩
    | with_reducible refine ⟨_, isD_bb, ?_⟩
    | with_reducible refine ⟨_, ltDD_ii, ?_⟩
    | with_reducible refine ⟨_, add_ii, ?_⟩
    | with_reducible refine ⟨_, eqD_tupI, ?_⟩
    | with_reducible refine ⟨_, ltDD_tup, ?_⟩
    | with_reducible refine ⟨_, eqD_strs, ?_⟩
    | with_reducible refine ⟨_, neD_strs, ?_⟩
    | with_reducible refine ⟨_, inD2_str, ?_⟩
    | with_reducible refine ⟨_, neD_nil, ?_⟩
    | with_reducible refine ⟨_, eqD_nil, ?_⟩
    | with_reducible refine ⟨_, eqD_ints, ?_⟩
    | with_reducible refine ⟨_, neD_ints, ?_⟩
    | with_reducible refine ⟨_, ltDD_lst, ?_⟩
    | with_reducible refine ⟨Nat.le_of_ble_eq_true rfl, ?_⟩
    | with_reducible refine ⟨_, rfl, ?_⟩
    | with_reducible refine ⟨_, _, rfl, ?_⟩
    | with_reducible refine ⟨_, _, rfl, (by with_unfolding_all rfl : itemsOf _ = some _), ?_⟩
    | with_reducible refine ⟨_, (by with_unfolding_all rfl : ordD _ _ = some _), ?_⟩
    | with_reducible refine ⟨(by with_unfolding_all rfl : tyStr _ _ = true), ?_⟩
    | with_reducible refine ⟨_, (by with_unfolding_all rfl : negD _ _ = some _), ?_⟩
    | with_reducible refine ⟨_, (by with_unfolding_all rfl : isiD _ _ _ = some _), ?_⟩
    | with_reducible refine ⟨_, (by with_unfolding_all rfl : Tg.set _ _ _ = some _), ?_⟩
    | with_reducible refine ⟨_, _, rfl, ?_⟩
    | (with_reducible refine ⟨fun hb => ?_, fun hb => ?_⟩ <;> (try simp only [decide_eq_true_eq, decide_eq_false_iff_not, Bool.not_eq_true', Bool.not_eq_false', reduceCtorEq] at hb) <;> (try (exfalso; revert hb; decide)))
    | fail
  · exact absurd hF.symm (by assumption)
  · refine ⟨by decide, ?_⟩
    refine go_inv (fun items e S1 => ∃ (lo : Int) (k : Nat) (x4 x6 x7 x8 x9 x10 : Option D), items = L3.intsFrom lo k ∧ e = [some (.scr ns), some (.loc 1), some (ruleD cs fg br en tn), some (.str fmt), x4, some (.lst (marksM.map .str)), x6, x7, x8, x9, x10] ∧ ∃ R, DS R S1) ?_ ?_ _ _ _ ⟨0, 16, _, _, _, _, _, _, rfl, rfl, by repeat' first | exact ⟨_, hS1⟩ | refine dsx_app ?_⟩
    · rintro e S2 ⟨lo, k, x4, x6, x7, x8, x9, x10, hi, rfl, R2, hS2⟩
      have okk : okD (.str [108, 97, 115, 116, 32, 115, 116, 114, 105, 99, 116, 32, 98, 101, 104, 105, 110, 100, 32, 98, 101, 104, 105, 110, 100, 32, 49]) = true := by decide
      have pdk : parsedD (.str [108, 97, 115, 116, 32, 115, 116, 114, 105, 99, 116, 32, 98, 101, 104, 105, 110, 100, 32, 98, 101, 104, 105, 110, 100, 32, 49]) = .tup [.str sLast, .str sStrict, .str sBehind, .str sBehind, .int 1] := by
        show (match parseM [108, 97, 115, 116, 32, 115, 116, 114, 105, 99, 116, 32, 98, 101, 104, 105, 110, 100, 32, 98, 101, 104, 105, 110, 100, 32, 49] with
          | some ds => D.tup ds
          | none => .str sText) = _
        rw [known]
      have eqR : ∀ S, eqD S (.lst allR) (.lst allR) = some (.bl true) := fun S => by
        have p : D.pl 2 (.lst allR) = true := rfl
        rw [eqD_pl 2 (by decide) p p]
        simp
      have lR : ∀ S, lenD S [.lst allR] = some (.int 96) := fun S => rfl
      have eqK : ∀ S, eqD S (.tup [.str sLast, .str sStrict, .str sBehind, .str sBehind, .int 1]) (.tup [.str sLast, .str sStrict, .str sBehind, .str sBehind, .int 1]) = some (.bl true) := fun S => by
        have p : D.pl 1 (.tup [.str sLast, .str sStrict, .str sBehind, .str sBehind, .int 1]) = true := rfl
        rw [eqD_pl 1 (by decide) p p]
        simp
      have arw : ∀ {S : Store} {Q : D → Store → Prop} {X : Nat → Store → Prop}, (∀ T, Q (.lst allR) (S ++ T)) → wp (m_all_rules S []) Q X := fun h => all_rules_w h
      have lrw : ∀ {S : Store} {Q : D → Store → Prop} {X : Nat → Store → Prop}, (∀ T, Q (.lst allR) (S ++ T)) → wp (m__law_rules S []) Q X := fun h => law_rules_w h
      generalize allR = all at eqR lR arw lrw
      repeat' first
        | (with_reducible refine rejected_w fun T => ?_)
        | (with_reducible refine arw fun T => ?_)
        | (with_reducible refine lrw fun T => ?_)
        | (with_reducible refine ⟨_, eqR _, ?_⟩)
        | (with_reducible refine ⟨_, lR _, ?_⟩)
        | ((with_reducible refine parsed_w okk fun _ hr T => ?_) ; subst hr ; rw [pdk])
        | (with_reducible refine ⟨_, eqK _, ?_⟩)
        | with_reducible refine w_var _ (by with_unfolding_all rfl) ?_
        | with_reducible refine seqZ_nxs (by simp only [List.set_cons_succ, List.set_cons_zero]; exact rfl) ?_
        | with_reducible refine stepZ_nxs (by simp only [List.set_cons_succ, List.set_cons_zero]; exact rfl) ?_
        | with_reducible refine s_seq ?_
        | with_reducible refine s_set ?_
        | with_reducible refine s_if ?_
        | with_reducible refine s_ret ?_
        | with_reducible refine s_expr ?_
        | with_reducible refine s_next ?_
        | with_reducible refine s_par ?_
        | with_reducible refine s_asg ?_
        | with_reducible refine s_setIx ?_
        | with_reducible refine s_augIx ?_
        | with_reducible refine s_aug ?_
        | with_reducible refine s_for ?_
        | with_reducible refine s_break ?_
        | with_reducible refine s_cont ?_
        | with_reducible refine s_raise ?_
        | with_reducible refine seqZ_nx ?_
        | with_reducible refine seqZ_rt ?_
        | with_reducible refine seqZ_ct ?_
        | with_reducible refine seqZ_bk ?_
        | with_reducible refine seqZ_ex ?_
        | with_reducible refine fnZ_nx ?_
        | with_reducible refine fnZ_rt ?_
        | with_reducible refine fnZ_ex ?_
        | with_reducible refine stepZ_nx ?_
        | with_reducible refine stepZ_rt ?_
        | with_reducible refine stepZ_ct ?_
        | with_reducible refine stepZ_bk ?_
        | with_reducible refine stepZ_ex ?_
        | with_reducible refine w_C ?_
        | with_reducible refine w_r2 ?_
        | with_reducible refine w_r1 ?_
        | with_reducible refine w_cons ?_
        | with_reducible refine w_nil ?_
        | with_reducible refine w_tup ?_
        | with_reducible refine w_lst ?_
        | with_reducible refine w_lstM ?_
        | with_reducible refine w_listM ?_
        | with_reducible refine w_if ?_
        | with_reducible refine w_tOf ?_
        | with_reducible refine w_tAnd ?_
        | with_reducible refine w_tOr ?_
        | with_reducible refine w_tNot ?_
        | with_reducible refine w_tYes ?_
        | with_reducible refine w_vAnd ?_
        | with_reducible refine w_vOr ?_
        | with_reducible refine w_vNot ?_
        | with_reducible refine w_chain ?_
        | with_reducible refine w_call ?_
        | with_reducible refine w_cb ?_
        | with_reducible refine w_oNone ?_
        | with_reducible refine w_oSome ?_
        | with_reducible refine w_sl ?_
        | with_reducible refine w_mt ?_
        | with_reducible refine w_fz ?_
        | with_reducible refine w_any ?_
        | with_reducible refine w_rng1 ?_
        | with_reducible refine w_rng2 ?_
        | with_reducible refine w_zip ?_
        | with_reducible refine w_enum ?_
        | with_reducible refine w_lc ?_
        | with_reducible refine w_lcM ?_
        | with_reducible refine lc_nil ?_
        | with_reducible refine go_nil ?_
        | with_reducible refine s_try ?_
        | with_reducible refine tryZ_nx ?_
        | with_reducible refine tryZ_rt ?_
        | with_reducible refine tryZ_bk ?_
        | with_reducible refine tryZ_ct ?_
        | with_reducible refine tryZ_ex (by decide) ?_
        | with_reducible refine w_dct ?_
        | with_reducible refine ⟨_, eqD_ii, ?_⟩
        | with_reducible refine ⟨_, eqD_ss, ?_⟩
        | with_reducible refine ⟨_, neD_ii, ?_⟩
        | with_reducible refine ⟨_, neD_ss, ?_⟩
        | with_reducible refine ⟨_, eqD_bb, ?_⟩
        | with_reducible refine ⟨_, isD_bb, ?_⟩
        | with_reducible refine ⟨_, ltDD_ii, ?_⟩
        | with_reducible refine ⟨_, add_ii, ?_⟩
        | with_reducible refine ⟨_, eqD_tupI, ?_⟩
        | with_reducible refine ⟨_, ltDD_tup, ?_⟩
        | with_reducible refine ⟨_, eqD_strs, ?_⟩
        | with_reducible refine ⟨_, neD_strs, ?_⟩
        | with_reducible refine ⟨_, inD2_str, ?_⟩
        | with_reducible refine ⟨_, neD_nil, ?_⟩
        | with_reducible refine ⟨_, eqD_nil, ?_⟩
        | with_reducible refine ⟨_, eqD_ints, ?_⟩
        | with_reducible refine ⟨_, neD_ints, ?_⟩
        | with_reducible refine ⟨_, ltDD_lst, ?_⟩
        | with_reducible refine ⟨Nat.le_of_ble_eq_true rfl, ?_⟩
        | with_reducible refine ⟨_, rfl, ?_⟩
        | with_reducible refine ⟨_, _, rfl, ?_⟩
        | with_reducible refine ⟨_, _, rfl, (by with_unfolding_all rfl : itemsOf _ = some _), ?_⟩
        | with_reducible refine ⟨_, (by with_unfolding_all rfl : ordD _ _ = some _), ?_⟩
        | with_reducible refine ⟨(by with_unfolding_all rfl : tyStr _ _ = true), ?_⟩
        | with_reducible refine ⟨_, (by with_unfolding_all rfl : negD _ _ = some _), ?_⟩
        | with_reducible refine ⟨_, (by with_unfolding_all rfl : isiD _ _ _ = some _), ?_⟩
        | with_reducible refine ⟨_, (by with_unfolding_all rfl : Tg.set _ _ _ = some _), ?_⟩
        | with_reducible refine ⟨_, _, rfl, ?_⟩
        | (with_reducible refine ⟨fun hb => ?_, fun hb => ?_⟩ <;> (try simp only [decide_eq_true_eq, decide_eq_false_iff_not, Bool.not_eq_true', Bool.not_eq_false', reduceCtorEq] at hb) <;> (try (exfalso; revert hb; decide)))
        | fail
      all_goals first | rfl | (exfalso; exact hb rfl) | (exfalso; revert hb; decide) | skip
    · rintro d ds e S2 ⟨lo, k, x4, x6, x7, x8, x9, x10, hi, rfl, R2, hS2⟩
      cases k with
      | zero => cases hi
      | succ k =>
        rw [ints_cons] at hi
        cases hi
        refine ⟨_, rfl, ?_⟩
        have f5 : fmt.length ≤ 100000 := by omega
        with_reducible refine ws_env (by simp only [List.set_cons_succ, List.set_cons_zero]; exact rfl) ?_
        repeat' first
          | (with_reducible refine ⟨_, len_s f5, ?_⟩)
          | (with_reducible refine draw_kw hS2 (by omega) fun at1 S3 a1 hS3 => ?_)
          | (with_reducible refine pick_w hS3 (by simp [marksM]) fun dm S4 hm hS4 => ?_)
          | with_reducible refine w_var _ (by with_unfolding_all rfl) ?_
          | with_reducible refine seqZ_nxs (by simp only [List.set_cons_succ, List.set_cons_zero]; exact rfl) ?_
          | with_reducible refine stepZ_nxs (by simp only [List.set_cons_succ, List.set_cons_zero]; exact rfl) ?_
          | with_reducible refine s_seq ?_
          | with_reducible refine s_set ?_
          | with_reducible refine s_if ?_
          | with_reducible refine s_ret ?_
          | with_reducible refine s_expr ?_
          | with_reducible refine s_next ?_
          | with_reducible refine s_par ?_
          | with_reducible refine s_asg ?_
          | with_reducible refine s_setIx ?_
          | with_reducible refine s_augIx ?_
          | with_reducible refine s_aug ?_
          | with_reducible refine s_for ?_
          | with_reducible refine s_break ?_
          | with_reducible refine s_cont ?_
          | with_reducible refine s_raise ?_
          | with_reducible refine seqZ_nx ?_
          | with_reducible refine seqZ_rt ?_
          | with_reducible refine seqZ_ct ?_
          | with_reducible refine seqZ_bk ?_
          | with_reducible refine seqZ_ex ?_
          | with_reducible refine fnZ_nx ?_
          | with_reducible refine fnZ_rt ?_
          | with_reducible refine fnZ_ex ?_
          | with_reducible refine stepZ_nx ?_
          | with_reducible refine stepZ_rt ?_
          | with_reducible refine stepZ_ct ?_
          | with_reducible refine stepZ_bk ?_
          | with_reducible refine stepZ_ex ?_
          | with_reducible refine w_C ?_
          | with_reducible refine w_r2 ?_
          | with_reducible refine w_r1 ?_
          | with_reducible refine w_cons ?_
          | with_reducible refine w_nil ?_
          | with_reducible refine w_tup ?_
          | with_reducible refine w_lst ?_
          | with_reducible refine w_lstM ?_
          | with_reducible refine w_listM ?_
          | with_reducible refine w_if ?_
          | with_reducible refine w_tOf ?_
          | with_reducible refine w_tAnd ?_
          | with_reducible refine w_tOr ?_
          | with_reducible refine w_tNot ?_
          | with_reducible refine w_tYes ?_
          | with_reducible refine w_vAnd ?_
          | with_reducible refine w_vOr ?_
          | with_reducible refine w_vNot ?_
          | with_reducible refine w_chain ?_
          | with_reducible refine w_call ?_
          | with_reducible refine w_cb ?_
          | with_reducible refine w_oNone ?_
          | with_reducible refine w_oSome ?_
          | with_reducible refine w_sl ?_
          | with_reducible refine w_mt ?_
          | with_reducible refine w_fz ?_
          | with_reducible refine w_any ?_
          | with_reducible refine w_rng1 ?_
          | with_reducible refine w_rng2 ?_
          | with_reducible refine w_zip ?_
          | with_reducible refine w_enum ?_
          | with_reducible refine w_lc ?_
          | with_reducible refine w_lcM ?_
          | with_reducible refine lc_nil ?_
          | with_reducible refine go_nil ?_
          | with_reducible refine s_try ?_
          | with_reducible refine tryZ_nx ?_
          | with_reducible refine tryZ_rt ?_
          | with_reducible refine tryZ_bk ?_
          | with_reducible refine tryZ_ct ?_
          | with_reducible refine tryZ_ex (by decide) ?_
          | with_reducible refine w_dct ?_
          | with_reducible refine ⟨_, eqD_ii, ?_⟩
          | with_reducible refine ⟨_, eqD_ss, ?_⟩
          | with_reducible refine ⟨_, neD_ii, ?_⟩
          | with_reducible refine ⟨_, neD_ss, ?_⟩
          | with_reducible refine ⟨_, eqD_bb, ?_⟩
          | with_reducible refine ⟨_, isD_bb, ?_⟩
          | with_reducible refine ⟨_, ltDD_ii, ?_⟩
          | with_reducible refine ⟨_, add_ii, ?_⟩
          | with_reducible refine ⟨_, eqD_tupI, ?_⟩
          | with_reducible refine ⟨_, ltDD_tup, ?_⟩
          | with_reducible refine ⟨_, eqD_strs, ?_⟩
          | with_reducible refine ⟨_, neD_strs, ?_⟩
          | with_reducible refine ⟨_, inD2_str, ?_⟩
          | with_reducible refine ⟨_, neD_nil, ?_⟩
          | with_reducible refine ⟨_, eqD_nil, ?_⟩
          | with_reducible refine ⟨_, eqD_ints, ?_⟩
          | with_reducible refine ⟨_, neD_ints, ?_⟩
          | with_reducible refine ⟨_, ltDD_lst, ?_⟩
          | with_reducible refine ⟨Nat.le_of_ble_eq_true rfl, ?_⟩
          | with_reducible refine ⟨_, rfl, ?_⟩
          | with_reducible refine ⟨_, _, rfl, ?_⟩
          | with_reducible refine ⟨_, _, rfl, (by with_unfolding_all rfl : itemsOf _ = some _), ?_⟩
          | with_reducible refine ⟨_, (by with_unfolding_all rfl : ordD _ _ = some _), ?_⟩
          | with_reducible refine ⟨(by with_unfolding_all rfl : tyStr _ _ = true), ?_⟩
          | with_reducible refine ⟨_, (by with_unfolding_all rfl : negD _ _ = some _), ?_⟩
          | with_reducible refine ⟨_, (by with_unfolding_all rfl : isiD _ _ _ = some _), ?_⟩
          | with_reducible refine ⟨_, (by with_unfolding_all rfl : Tg.set _ _ _ = some _), ?_⟩
          | with_reducible refine ⟨_, _, rfl, ?_⟩
          | (with_reducible refine ⟨fun hb => ?_, fun hb => ?_⟩ <;> (try simp only [decide_eq_true_eq, decide_eq_false_iff_not, Bool.not_eq_true', Bool.not_eq_false', reduceCtorEq] at hb) <;> (try (exfalso; revert hb; decide)))
          | fail
        obtain ⟨mk, hmk, rfl⟩ := List.mem_map.mp hm
        have mk6 : mk.length ≤ 6 := by
          have : ∀ m ∈ marksM, m.length ≤ 6 := by decide
          exact this mk hmk
        have tk : ∀ k, (fmt.take k).length ≤ 200 ∧ (fmt.drop k).length ≤ 200 := fun k => by simp; omega
        have tk1 := (tk at1).1
        have tk2 := (tk at1).2
        have tk3 := (tk (at1 + 1)).2
        repeat' first
          | (with_reducible refine ⟨_, sl_lo f5 _, ?_⟩)
          | (with_reducible refine ⟨_, sl_hi f5 _, ?_⟩)
          | (with_reducible refine ⟨_, sl_hi1 f5 _, ?_⟩)
          | (with_reducible refine ⟨_, add_ss (by simp; omega), ?_⟩)
          | (with_reducible refine pick_w hS4 (by simp) fun dn S5 hn hS5 => ?_)
          | with_reducible refine w_var _ (by with_unfolding_all rfl) ?_
          | with_reducible refine seqZ_nxs (by simp only [List.set_cons_succ, List.set_cons_zero]; exact rfl) ?_
          | with_reducible refine stepZ_nxs (by simp only [List.set_cons_succ, List.set_cons_zero]; exact rfl) ?_
          | with_reducible refine s_seq ?_
          | with_reducible refine s_set ?_
          | with_reducible refine s_if ?_
          | with_reducible refine s_ret ?_
          | with_reducible refine s_expr ?_
          | with_reducible refine s_next ?_
          | with_reducible refine s_par ?_
          | with_reducible refine s_asg ?_
          | with_reducible refine s_setIx ?_
          | with_reducible refine s_augIx ?_
          | with_reducible refine s_aug ?_
          | with_reducible refine s_for ?_
          | with_reducible refine s_break ?_
          | with_reducible refine s_cont ?_
          | with_reducible refine s_raise ?_
          | with_reducible refine seqZ_nx ?_
          | with_reducible refine seqZ_rt ?_
          | with_reducible refine seqZ_ct ?_
          | with_reducible refine seqZ_bk ?_
          | with_reducible refine seqZ_ex ?_
          | with_reducible refine fnZ_nx ?_
          | with_reducible refine fnZ_rt ?_
          | with_reducible refine fnZ_ex ?_
          | with_reducible refine stepZ_nx ?_
          | with_reducible refine stepZ_rt ?_
          | with_reducible refine stepZ_ct ?_
          | with_reducible refine stepZ_bk ?_
          | with_reducible refine stepZ_ex ?_
          | with_reducible refine w_C ?_
          | with_reducible refine w_r2 ?_
          | with_reducible refine w_r1 ?_
          | with_reducible refine w_cons ?_
          | with_reducible refine w_nil ?_
          | with_reducible refine w_tup ?_
          | with_reducible refine w_lst ?_
          | with_reducible refine w_lstM ?_
          | with_reducible refine w_listM ?_
          | with_reducible refine w_if ?_
          | with_reducible refine w_tOf ?_
          | with_reducible refine w_tAnd ?_
          | with_reducible refine w_tOr ?_
          | with_reducible refine w_tNot ?_
          | with_reducible refine w_tYes ?_
          | with_reducible refine w_vAnd ?_
          | with_reducible refine w_vOr ?_
          | with_reducible refine w_vNot ?_
          | with_reducible refine w_chain ?_
          | with_reducible refine w_call ?_
          | with_reducible refine w_cb ?_
          | with_reducible refine w_oNone ?_
          | with_reducible refine w_oSome ?_
          | with_reducible refine w_sl ?_
          | with_reducible refine w_mt ?_
          | with_reducible refine w_fz ?_
          | with_reducible refine w_any ?_
          | with_reducible refine w_rng1 ?_
          | with_reducible refine w_rng2 ?_
          | with_reducible refine w_zip ?_
          | with_reducible refine w_enum ?_
          | with_reducible refine w_lc ?_
          | with_reducible refine w_lcM ?_
          | with_reducible refine lc_nil ?_
          | with_reducible refine go_nil ?_
          | with_reducible refine s_try ?_
          | with_reducible refine tryZ_nx ?_
          | with_reducible refine tryZ_rt ?_
          | with_reducible refine tryZ_bk ?_
          | with_reducible refine tryZ_ct ?_
          | with_reducible refine tryZ_ex (by decide) ?_
          | with_reducible refine w_dct ?_
          | with_reducible refine ⟨_, eqD_ii, ?_⟩
          | with_reducible refine ⟨_, eqD_ss, ?_⟩
          | with_reducible refine ⟨_, neD_ii, ?_⟩
          | with_reducible refine ⟨_, neD_ss, ?_⟩
          | with_reducible refine ⟨_, eqD_bb, ?_⟩
          | with_reducible refine ⟨_, isD_bb, ?_⟩
          | with_reducible refine ⟨_, ltDD_ii, ?_⟩
          | with_reducible refine ⟨_, add_ii, ?_⟩
          | with_reducible refine ⟨_, eqD_tupI, ?_⟩
          | with_reducible refine ⟨_, ltDD_tup, ?_⟩
          | with_reducible refine ⟨_, eqD_strs, ?_⟩
          | with_reducible refine ⟨_, neD_strs, ?_⟩
          | with_reducible refine ⟨_, inD2_str, ?_⟩
          | with_reducible refine ⟨_, neD_nil, ?_⟩
          | with_reducible refine ⟨_, eqD_nil, ?_⟩
          | with_reducible refine ⟨_, eqD_ints, ?_⟩
          | with_reducible refine ⟨_, neD_ints, ?_⟩
          | with_reducible refine ⟨_, ltDD_lst, ?_⟩
          | with_reducible refine ⟨Nat.le_of_ble_eq_true rfl, ?_⟩
          | with_reducible refine ⟨_, rfl, ?_⟩
          | with_reducible refine ⟨_, _, rfl, ?_⟩
          | with_reducible refine ⟨_, _, rfl, (by with_unfolding_all rfl : itemsOf _ = some _), ?_⟩
          | with_reducible refine ⟨_, (by with_unfolding_all rfl : ordD _ _ = some _), ?_⟩
          | with_reducible refine ⟨(by with_unfolding_all rfl : tyStr _ _ = true), ?_⟩
          | with_reducible refine ⟨_, (by with_unfolding_all rfl : negD _ _ = some _), ?_⟩
          | with_reducible refine ⟨_, (by with_unfolding_all rfl : isiD _ _ _ = some _), ?_⟩
          | with_reducible refine ⟨_, (by with_unfolding_all rfl : Tg.set _ _ _ = some _), ?_⟩
          | with_reducible refine ⟨_, _, rfl, ?_⟩
          | (with_reducible refine ⟨fun hb => ?_, fun hb => ?_⟩ <;> (try simp only [decide_eq_true_eq, decide_eq_false_iff_not, Bool.not_eq_true', Bool.not_eq_false', reduceCtorEq] at hb) <;> (try (exfalso; revert hb; decide)))
          | fail
        obtain ⟨o, ho, rfl⟩ : ∃ o : List Nat, o.length ≤ 500 ∧ dn = .str o := by
          simp only [List.mem_cons, List.not_mem_nil, or_false] at hn
          rcases hn with rfl | rfl | rfl
          · exact ⟨_, by simp; omega, rfl⟩
          · exact ⟨_, by simp; omega, rfl⟩
          · exact ⟨_, by simp; omega, rfl⟩
        clear hn
        have oko : okD (.str o) = true := decide_eq_true (by omega)
        cases ep : parseM o with
        | none =>
          have pdo : parsedD (.str o) = .str sText := by
            show (match parseM o with
              | some ds => D.tup ds
              | none => .str sText) = _
            rw [ep]
          repeat' first
            | ((with_reducible refine parsed_w oko fun _ hr T => ?_) ; subst hr ; rw [pdo])
            | with_reducible refine w_var _ (by with_unfolding_all rfl) ?_
            | with_reducible refine seqZ_nxs (by simp only [List.set_cons_succ, List.set_cons_zero]; exact rfl) ?_
            | with_reducible refine stepZ_nxs (by simp only [List.set_cons_succ, List.set_cons_zero]; exact rfl) ?_
            | with_reducible refine s_seq ?_
            | with_reducible refine s_set ?_
            | with_reducible refine s_if ?_
            | with_reducible refine s_ret ?_
            | with_reducible refine s_expr ?_
            | with_reducible refine s_next ?_
            | with_reducible refine s_par ?_
            | with_reducible refine s_asg ?_
            | with_reducible refine s_setIx ?_
            | with_reducible refine s_augIx ?_
            | with_reducible refine s_aug ?_
            | with_reducible refine s_for ?_
            | with_reducible refine s_break ?_
            | with_reducible refine s_cont ?_
            | with_reducible refine s_raise ?_
            | with_reducible refine seqZ_nx ?_
            | with_reducible refine seqZ_rt ?_
            | with_reducible refine seqZ_ct ?_
            | with_reducible refine seqZ_bk ?_
            | with_reducible refine seqZ_ex ?_
            | with_reducible refine fnZ_nx ?_
            | with_reducible refine fnZ_rt ?_
            | with_reducible refine fnZ_ex ?_
            | with_reducible refine stepZ_nx ?_
            | with_reducible refine stepZ_rt ?_
            | with_reducible refine stepZ_ct ?_
            | with_reducible refine stepZ_bk ?_
            | with_reducible refine stepZ_ex ?_
            | with_reducible refine w_C ?_
            | with_reducible refine w_r2 ?_
            | with_reducible refine w_r1 ?_
            | with_reducible refine w_cons ?_
            | with_reducible refine w_nil ?_
            | with_reducible refine w_tup ?_
            | with_reducible refine w_lst ?_
            | with_reducible refine w_lstM ?_
            | with_reducible refine w_listM ?_
            | with_reducible refine w_if ?_
            | with_reducible refine w_tOf ?_
            | with_reducible refine w_tAnd ?_
            | with_reducible refine w_tOr ?_
            | with_reducible refine w_tNot ?_
            | with_reducible refine w_tYes ?_
            | with_reducible refine w_vAnd ?_
            | with_reducible refine w_vOr ?_
            | with_reducible refine w_vNot ?_
            | with_reducible refine w_chain ?_
            | with_reducible refine w_call ?_
            | with_reducible refine w_cb ?_
            | with_reducible refine w_oNone ?_
            | with_reducible refine w_oSome ?_
            | with_reducible refine w_sl ?_
            | with_reducible refine w_mt ?_
            | with_reducible refine w_fz ?_
            | with_reducible refine w_any ?_
            | with_reducible refine w_rng1 ?_
            | with_reducible refine w_rng2 ?_
            | with_reducible refine w_zip ?_
            | with_reducible refine w_enum ?_
            | with_reducible refine w_lc ?_
            | with_reducible refine w_lcM ?_
            | with_reducible refine lc_nil ?_
            | with_reducible refine go_nil ?_
            | with_reducible refine s_try ?_
            | with_reducible refine tryZ_nx ?_
            | with_reducible refine tryZ_rt ?_
            | with_reducible refine tryZ_bk ?_
            | with_reducible refine tryZ_ct ?_
            | with_reducible refine tryZ_ex (by decide) ?_
            | with_reducible refine w_dct ?_
            | with_reducible refine ⟨_, eqD_ii, ?_⟩
            | with_reducible refine ⟨_, eqD_ss, ?_⟩
            | with_reducible refine ⟨_, neD_ii, ?_⟩
            | with_reducible refine ⟨_, neD_ss, ?_⟩
            | with_reducible refine ⟨_, eqD_bb, ?_⟩
            | with_reducible refine ⟨_, isD_bb, ?_⟩
            | with_reducible refine ⟨_, ltDD_ii, ?_⟩
            | with_reducible refine ⟨_, add_ii, ?_⟩
            | with_reducible refine ⟨_, eqD_tupI, ?_⟩
            | with_reducible refine ⟨_, ltDD_tup, ?_⟩
            | with_reducible refine ⟨_, eqD_strs, ?_⟩
            | with_reducible refine ⟨_, neD_strs, ?_⟩
            | with_reducible refine ⟨_, inD2_str, ?_⟩
            | with_reducible refine ⟨_, neD_nil, ?_⟩
            | with_reducible refine ⟨_, eqD_nil, ?_⟩
            | with_reducible refine ⟨_, eqD_ints, ?_⟩
            | with_reducible refine ⟨_, neD_ints, ?_⟩
            | with_reducible refine ⟨_, ltDD_lst, ?_⟩
            | with_reducible refine ⟨Nat.le_of_ble_eq_true rfl, ?_⟩
            | with_reducible refine ⟨_, rfl, ?_⟩
            | with_reducible refine ⟨_, _, rfl, ?_⟩
            | with_reducible refine ⟨_, _, rfl, (by with_unfolding_all rfl : itemsOf _ = some _), ?_⟩
            | with_reducible refine ⟨_, (by with_unfolding_all rfl : ordD _ _ = some _), ?_⟩
            | with_reducible refine ⟨(by with_unfolding_all rfl : tyStr _ _ = true), ?_⟩
            | with_reducible refine ⟨_, (by with_unfolding_all rfl : negD _ _ = some _), ?_⟩
            | with_reducible refine ⟨_, (by with_unfolding_all rfl : isiD _ _ _ = some _), ?_⟩
            | with_reducible refine ⟨_, (by with_unfolding_all rfl : Tg.set _ _ _ = some _), ?_⟩
            | with_reducible refine ⟨_, _, rfl, ?_⟩
            | (with_reducible refine ⟨fun hb => ?_, fun hb => ?_⟩ <;> (try simp only [decide_eq_true_eq, decide_eq_false_iff_not, Bool.not_eq_true', Bool.not_eq_false', reduceCtorEq] at hb) <;> (try (exfalso; revert hb; decide)))
            | fail
          all_goals first | (exfalso; exact hb rfl) | skip
          all_goals exact ⟨lo + 1, k, _, _, _, _, _, _, rfl, rfl, _, DS.app hS5⟩
        | some dt =>
          have pdo : parsedD (.str o) = .tup dt := by
            show (match parseM o with
              | some ds => D.tup ds
              | none => .str sText) = _
            rw [ep]
          have hb2 : isRB (itemsM o) = true ∧ itemsM o = dt := by
            unfold parseM at ep
            by_cases q : isRB (itemsM o) = true
            · rw [if_pos q] at ep
              exact ⟨q, Option.some.inj ep⟩
            · rw [if_neg q] at ep; cases ep
          have di : ∀ d ∈ dt, isItem d = true := fun d hd => items_ok o d (by rw [hb2.2]; exact hd)
          have df : fmtM dt = o := by rw [← hb2.2]; exact fmt_split o
          have dr : isRB dt = true := by rw [← hb2.2]; exact hb2.1
          have nt : ∀ S, neD S (.tup dt) (.str sText) = some (.bl true) := fun S => by
            rw [neD_pl 1 (by decide) (items_pl di) (pl_str 1 _)]
            simp
          obtain ⟨cs2, fg2, br2, en2, tn2, rv2, e2⟩ := isRB_true dr
          have dl : ((dt.map strV).map List.length).sum + dt.length ≤ 100000 := by
            rw [e2]
            have := rule_sum rv2
            omega
          have dl5 : dt.length ≤ 100000 := by rw [e2]; simp
          repeat' first
            | ((with_reducible refine parsed_w oko fun _ hr T => ?_) ; subst hr ; rw [pdo])
            | (with_reducible refine ⟨_, nt _, ?_⟩)
            | with_reducible refine w_var _ (by with_unfolding_all rfl) ?_
            | with_reducible refine seqZ_nxs (by simp only [List.set_cons_succ, List.set_cons_zero]; exact rfl) ?_
            | with_reducible refine stepZ_nxs (by simp only [List.set_cons_succ, List.set_cons_zero]; exact rfl) ?_
            | with_reducible refine s_seq ?_
            | with_reducible refine s_set ?_
            | with_reducible refine s_if ?_
            | with_reducible refine s_ret ?_
            | with_reducible refine s_expr ?_
            | with_reducible refine s_next ?_
            | with_reducible refine s_par ?_
            | with_reducible refine s_asg ?_
            | with_reducible refine s_setIx ?_
            | with_reducible refine s_augIx ?_
            | with_reducible refine s_aug ?_
            | with_reducible refine s_for ?_
            | with_reducible refine s_break ?_
            | with_reducible refine s_cont ?_
            | with_reducible refine s_raise ?_
            | with_reducible refine seqZ_nx ?_
            | with_reducible refine seqZ_rt ?_
            | with_reducible refine seqZ_ct ?_
            | with_reducible refine seqZ_bk ?_
            | with_reducible refine seqZ_ex ?_
            | with_reducible refine fnZ_nx ?_
            | with_reducible refine fnZ_rt ?_
            | with_reducible refine fnZ_ex ?_
            | with_reducible refine stepZ_nx ?_
            | with_reducible refine stepZ_rt ?_
            | with_reducible refine stepZ_ct ?_
            | with_reducible refine stepZ_bk ?_
            | with_reducible refine stepZ_ex ?_
            | with_reducible refine w_C ?_
            | with_reducible refine w_r2 ?_
            | with_reducible refine w_r1 ?_
            | with_reducible refine w_cons ?_
            | with_reducible refine w_nil ?_
            | with_reducible refine w_tup ?_
            | with_reducible refine w_lst ?_
            | with_reducible refine w_lstM ?_
            | with_reducible refine w_listM ?_
            | with_reducible refine w_if ?_
            | with_reducible refine w_tOf ?_
            | with_reducible refine w_tAnd ?_
            | with_reducible refine w_tOr ?_
            | with_reducible refine w_tNot ?_
            | with_reducible refine w_tYes ?_
            | with_reducible refine w_vAnd ?_
            | with_reducible refine w_vOr ?_
            | with_reducible refine w_vNot ?_
            | with_reducible refine w_chain ?_
            | with_reducible refine w_call ?_
            | with_reducible refine w_cb ?_
            | with_reducible refine w_oNone ?_
            | with_reducible refine w_oSome ?_
            | with_reducible refine w_sl ?_
            | with_reducible refine w_mt ?_
            | with_reducible refine w_fz ?_
            | with_reducible refine w_any ?_
            | with_reducible refine w_rng1 ?_
            | with_reducible refine w_rng2 ?_
            | with_reducible refine w_zip ?_
            | with_reducible refine w_enum ?_
            | with_reducible refine w_lc ?_
            | with_reducible refine w_lcM ?_
            | with_reducible refine lc_nil ?_
            | with_reducible refine go_nil ?_
            | with_reducible refine s_try ?_
            | with_reducible refine tryZ_nx ?_
            | with_reducible refine tryZ_rt ?_
            | with_reducible refine tryZ_bk ?_
            | with_reducible refine tryZ_ct ?_
            | with_reducible refine tryZ_ex (by decide) ?_
            | with_reducible refine w_dct ?_
            | with_reducible refine ⟨_, eqD_ii, ?_⟩
            | with_reducible refine ⟨_, eqD_ss, ?_⟩
            | with_reducible refine ⟨_, neD_ii, ?_⟩
            | with_reducible refine ⟨_, neD_ss, ?_⟩
            | with_reducible refine ⟨_, eqD_bb, ?_⟩
            | with_reducible refine ⟨_, isD_bb, ?_⟩
            | with_reducible refine ⟨_, ltDD_ii, ?_⟩
            | with_reducible refine ⟨_, add_ii, ?_⟩
            | with_reducible refine ⟨_, eqD_tupI, ?_⟩
            | with_reducible refine ⟨_, ltDD_tup, ?_⟩
            | with_reducible refine ⟨_, eqD_strs, ?_⟩
            | with_reducible refine ⟨_, neD_strs, ?_⟩
            | with_reducible refine ⟨_, inD2_str, ?_⟩
            | with_reducible refine ⟨_, neD_nil, ?_⟩
            | with_reducible refine ⟨_, eqD_nil, ?_⟩
            | with_reducible refine ⟨_, eqD_ints, ?_⟩
            | with_reducible refine ⟨_, neD_ints, ?_⟩
            | with_reducible refine ⟨_, ltDD_lst, ?_⟩
            | with_reducible refine ⟨Nat.le_of_ble_eq_true rfl, ?_⟩
            | with_reducible refine ⟨_, rfl, ?_⟩
            | with_reducible refine ⟨_, _, rfl, ?_⟩
            | with_reducible refine ⟨_, _, rfl, (by with_unfolding_all rfl : itemsOf _ = some _), ?_⟩
            | with_reducible refine ⟨_, (by with_unfolding_all rfl : ordD _ _ = some _), ?_⟩
            | with_reducible refine ⟨(by with_unfolding_all rfl : tyStr _ _ = true), ?_⟩
            | with_reducible refine ⟨_, (by with_unfolding_all rfl : negD _ _ = some _), ?_⟩
            | with_reducible refine ⟨_, (by with_unfolding_all rfl : isiD _ _ _ = some _), ?_⟩
            | with_reducible refine ⟨_, (by with_unfolding_all rfl : Tg.set _ _ _ = some _), ?_⟩
            | with_reducible refine ⟨_, _, rfl, ?_⟩
            | (with_reducible refine ⟨fun hb => ?_, fun hb => ?_⟩ <;> (try simp only [decide_eq_true_eq, decide_eq_false_iff_not, Bool.not_eq_true', Bool.not_eq_false', reduceCtorEq] at hb) <;> (try (exfalso; revert hb; decide)))
            | fail
          all_goals first | (exfalso; exact hb rfl) | skip
          refine .inr (.inl ⟨_, rfl, dl5, ?_⟩)
          refine lc_eachI (fun d => D.str (strV d)) (fun d hd => ⟨_, rfl, fun T => ?_⟩) (fun T => ?_)
          · skip
            with_reducible refine wp_env (by simp only [wipeE, List.set_cons_succ, List.set_cons_zero]; exact rfl) ?_
            repeat' first
              | (with_reducible refine ⟨_, str_item (di d hd), ?_⟩)
              | with_reducible refine w_var _ (by with_unfolding_all rfl) ?_
              | with_reducible refine seqZ_nxs (by simp only [List.set_cons_succ, List.set_cons_zero]; exact rfl) ?_
              | with_reducible refine stepZ_nxs (by simp only [List.set_cons_succ, List.set_cons_zero]; exact rfl) ?_
              | with_reducible refine s_seq ?_
              | with_reducible refine s_set ?_
              | with_reducible refine s_if ?_
              | with_reducible refine s_ret ?_
              | with_reducible refine s_expr ?_
              | with_reducible refine s_next ?_
              | with_reducible refine s_par ?_
              | with_reducible refine s_asg ?_
              | with_reducible refine s_setIx ?_
              | with_reducible refine s_augIx ?_
              | with_reducible refine s_aug ?_
              | with_reducible refine s_for ?_
              | with_reducible refine s_break ?_
              | with_reducible refine s_cont ?_
              | with_reducible refine s_raise ?_
              | with_reducible refine seqZ_nx ?_
              | with_reducible refine seqZ_rt ?_
              | with_reducible refine seqZ_ct ?_
              | with_reducible refine seqZ_bk ?_
              | with_reducible refine seqZ_ex ?_
              | with_reducible refine fnZ_nx ?_
              | with_reducible refine fnZ_rt ?_
              | with_reducible refine fnZ_ex ?_
              | with_reducible refine stepZ_nx ?_
              | with_reducible refine stepZ_rt ?_
              | with_reducible refine stepZ_ct ?_
              | with_reducible refine stepZ_bk ?_
              | with_reducible refine stepZ_ex ?_
              | with_reducible refine w_C ?_
              | with_reducible refine w_r2 ?_
              | with_reducible refine w_r1 ?_
              | with_reducible refine w_cons ?_
              | with_reducible refine w_nil ?_
              | with_reducible refine w_tup ?_
              | with_reducible refine w_lst ?_
              | with_reducible refine w_lstM ?_
              | with_reducible refine w_listM ?_
              | with_reducible refine w_if ?_
              | with_reducible refine w_tOf ?_
              | with_reducible refine w_tAnd ?_
              | with_reducible refine w_tOr ?_
              | with_reducible refine w_tNot ?_
              | with_reducible refine w_tYes ?_
              | with_reducible refine w_vAnd ?_
              | with_reducible refine w_vOr ?_
              | with_reducible refine w_vNot ?_
              | with_reducible refine w_chain ?_
              | with_reducible refine w_call ?_
              | with_reducible refine w_cb ?_
              | with_reducible refine w_oNone ?_
              | with_reducible refine w_oSome ?_
              | with_reducible refine w_sl ?_
              | with_reducible refine w_mt ?_
              | with_reducible refine w_fz ?_
              | with_reducible refine w_any ?_
              | with_reducible refine w_rng1 ?_
              | with_reducible refine w_rng2 ?_
              | with_reducible refine w_zip ?_
              | with_reducible refine w_enum ?_
              | with_reducible refine w_lc ?_
              | with_reducible refine w_lcM ?_
              | with_reducible refine lc_nil ?_
              | with_reducible refine go_nil ?_
              | with_reducible refine s_try ?_
              | with_reducible refine tryZ_nx ?_
              | with_reducible refine tryZ_rt ?_
              | with_reducible refine tryZ_bk ?_
              | with_reducible refine tryZ_ct ?_
              | with_reducible refine tryZ_ex (by decide) ?_
              | with_reducible refine w_dct ?_
              | with_reducible refine ⟨_, eqD_ii, ?_⟩
              | with_reducible refine ⟨_, eqD_ss, ?_⟩
              | with_reducible refine ⟨_, neD_ii, ?_⟩
              | with_reducible refine ⟨_, neD_ss, ?_⟩
              | with_reducible refine ⟨_, eqD_bb, ?_⟩
              | with_reducible refine ⟨_, isD_bb, ?_⟩
              | with_reducible refine ⟨_, ltDD_ii, ?_⟩
              | with_reducible refine ⟨_, add_ii, ?_⟩
              | with_reducible refine ⟨_, eqD_tupI, ?_⟩
              | with_reducible refine ⟨_, ltDD_tup, ?_⟩
              | with_reducible refine ⟨_, eqD_strs, ?_⟩
              | with_reducible refine ⟨_, neD_strs, ?_⟩
              | with_reducible refine ⟨_, inD2_str, ?_⟩
              | with_reducible refine ⟨_, neD_nil, ?_⟩
              | with_reducible refine ⟨_, eqD_nil, ?_⟩
              | with_reducible refine ⟨_, eqD_ints, ?_⟩
              | with_reducible refine ⟨_, neD_ints, ?_⟩
              | with_reducible refine ⟨_, ltDD_lst, ?_⟩
              | with_reducible refine ⟨Nat.le_of_ble_eq_true rfl, ?_⟩
              | with_reducible refine ⟨_, rfl, ?_⟩
              | with_reducible refine ⟨_, _, rfl, ?_⟩
              | with_reducible refine ⟨_, _, rfl, (by with_unfolding_all rfl : itemsOf _ = some _), ?_⟩
              | with_reducible refine ⟨_, (by with_unfolding_all rfl : ordD _ _ = some _), ?_⟩
              | with_reducible refine ⟨(by with_unfolding_all rfl : tyStr _ _ = true), ?_⟩
              | with_reducible refine ⟨_, (by with_unfolding_all rfl : negD _ _ = some _), ?_⟩
              | with_reducible refine ⟨_, (by with_unfolding_all rfl : isiD _ _ _ = some _), ?_⟩
              | with_reducible refine ⟨_, (by with_unfolding_all rfl : Tg.set _ _ _ = some _), ?_⟩
              | with_reducible refine ⟨_, _, rfl, ?_⟩
              | (with_reducible refine ⟨fun hb => ?_, fun hb => ?_⟩ <;> (try simp only [decide_eq_true_eq, decide_eq_false_iff_not, Bool.not_eq_true', Bool.not_eq_false', reduceCtorEq] at hb) <;> (try (exfalso; revert hb; decide)))
              | fail
            exact ⟨rfl, _, rfl⟩
          · repeat' first
              | (with_reducible refine ⟨_, _, join_items di dl, ?_⟩)
              | (with_reducible refine ⟨_, nt _, ?_⟩)
              | ((with_reducible refine is_rule_any di fun _ hq => ?_) ; subst hq ; rw [dr])
              | with_reducible refine w_var _ (by with_unfolding_all rfl) ?_
              | with_reducible refine seqZ_nxs (by simp only [List.set_cons_succ, List.set_cons_zero]; exact rfl) ?_
              | with_reducible refine stepZ_nxs (by simp only [List.set_cons_succ, List.set_cons_zero]; exact rfl) ?_
              | with_reducible refine s_seq ?_
              | with_reducible refine s_set ?_
              | with_reducible refine s_if ?_
              | with_reducible refine s_ret ?_
              | with_reducible refine s_expr ?_
              | with_reducible refine s_next ?_
              | with_reducible refine s_par ?_
              | with_reducible refine s_asg ?_
              | with_reducible refine s_setIx ?_
              | with_reducible refine s_augIx ?_
              | with_reducible refine s_aug ?_
              | with_reducible refine s_for ?_
              | with_reducible refine s_break ?_
              | with_reducible refine s_cont ?_
              | with_reducible refine s_raise ?_
              | with_reducible refine seqZ_nx ?_
              | with_reducible refine seqZ_rt ?_
              | with_reducible refine seqZ_ct ?_
              | with_reducible refine seqZ_bk ?_
              | with_reducible refine seqZ_ex ?_
              | with_reducible refine fnZ_nx ?_
              | with_reducible refine fnZ_rt ?_
              | with_reducible refine fnZ_ex ?_
              | with_reducible refine stepZ_nx ?_
              | with_reducible refine stepZ_rt ?_
              | with_reducible refine stepZ_ct ?_
              | with_reducible refine stepZ_bk ?_
              | with_reducible refine stepZ_ex ?_
              | with_reducible refine w_C ?_
              | with_reducible refine w_r2 ?_
              | with_reducible refine w_r1 ?_
              | with_reducible refine w_cons ?_
              | with_reducible refine w_nil ?_
              | with_reducible refine w_tup ?_
              | with_reducible refine w_lst ?_
              | with_reducible refine w_lstM ?_
              | with_reducible refine w_listM ?_
              | with_reducible refine w_if ?_
              | with_reducible refine w_tOf ?_
              | with_reducible refine w_tAnd ?_
              | with_reducible refine w_tOr ?_
              | with_reducible refine w_tNot ?_
              | with_reducible refine w_tYes ?_
              | with_reducible refine w_vAnd ?_
              | with_reducible refine w_vOr ?_
              | with_reducible refine w_vNot ?_
              | with_reducible refine w_chain ?_
              | with_reducible refine w_call ?_
              | with_reducible refine w_cb ?_
              | with_reducible refine w_oNone ?_
              | with_reducible refine w_oSome ?_
              | with_reducible refine w_sl ?_
              | with_reducible refine w_mt ?_
              | with_reducible refine w_fz ?_
              | with_reducible refine w_any ?_
              | with_reducible refine w_rng1 ?_
              | with_reducible refine w_rng2 ?_
              | with_reducible refine w_zip ?_
              | with_reducible refine w_enum ?_
              | with_reducible refine w_lc ?_
              | with_reducible refine w_lcM ?_
              | with_reducible refine lc_nil ?_
              | with_reducible refine go_nil ?_
              | with_reducible refine s_try ?_
              | with_reducible refine tryZ_nx ?_
              | with_reducible refine tryZ_rt ?_
              | with_reducible refine tryZ_bk ?_
              | with_reducible refine tryZ_ct ?_
              | with_reducible refine tryZ_ex (by decide) ?_
              | with_reducible refine w_dct ?_
              | with_reducible refine ⟨_, eqD_ii, ?_⟩
              | with_reducible refine ⟨_, eqD_ss, ?_⟩
              | with_reducible refine ⟨_, neD_ii, ?_⟩
              | with_reducible refine ⟨_, neD_ss, ?_⟩
              | with_reducible refine ⟨_, eqD_bb, ?_⟩
              | with_reducible refine ⟨_, isD_bb, ?_⟩
              | with_reducible refine ⟨_, ltDD_ii, ?_⟩
              | with_reducible refine ⟨_, add_ii, ?_⟩
              | with_reducible refine ⟨_, eqD_tupI, ?_⟩
              | with_reducible refine ⟨_, ltDD_tup, ?_⟩
              | with_reducible refine ⟨_, eqD_strs, ?_⟩
              | with_reducible refine ⟨_, neD_strs, ?_⟩
              | with_reducible refine ⟨_, inD2_str, ?_⟩
              | with_reducible refine ⟨_, neD_nil, ?_⟩
              | with_reducible refine ⟨_, eqD_nil, ?_⟩
              | with_reducible refine ⟨_, eqD_ints, ?_⟩
              | with_reducible refine ⟨_, neD_ints, ?_⟩
              | with_reducible refine ⟨_, ltDD_lst, ?_⟩
              | with_reducible refine ⟨Nat.le_of_ble_eq_true rfl, ?_⟩
              | with_reducible refine ⟨_, rfl, ?_⟩
              | with_reducible refine ⟨_, _, rfl, ?_⟩
              | with_reducible refine ⟨_, _, rfl, (by with_unfolding_all rfl : itemsOf _ = some _), ?_⟩
              | with_reducible refine ⟨_, (by with_unfolding_all rfl : ordD _ _ = some _), ?_⟩
              | with_reducible refine ⟨(by with_unfolding_all rfl : tyStr _ _ = true), ?_⟩
              | with_reducible refine ⟨_, (by with_unfolding_all rfl : negD _ _ = some _), ?_⟩
              | with_reducible refine ⟨_, (by with_unfolding_all rfl : isiD _ _ _ = some _), ?_⟩
              | with_reducible refine ⟨_, (by with_unfolding_all rfl : Tg.set _ _ _ = some _), ?_⟩
              | with_reducible refine ⟨_, _, rfl, ?_⟩
              | (with_reducible refine ⟨fun hb => ?_, fun hb => ?_⟩ <;> (try simp only [decide_eq_true_eq, decide_eq_false_iff_not, Bool.not_eq_true', Bool.not_eq_false', reduceCtorEq] at hb) <;> (try (exfalso; revert hb; decide)))
              | fail
            all_goals first | exact absurd df (by assumption) | (exfalso; exact hb rfl) | (exfalso; revert hb; decide) | skip
            all_goals exact ⟨lo + 1, k, _, _, _, _, _, _, rfl, rfl, _, DS.app (DS.app hS5)⟩
theorem law_true (ns : List Int) (hl : ns.length ≤ 63) : ∃ S, m_law [] [.scr ns] = .ok (.bl true) S := by
  have h := law_wp hl
  rw [wp_e] at h
  revert h
  cases m_law [] [.scr ns] with
  | ok d S => intro h; exact ⟨S, by rw [show d = .bl true from h]⟩
  | exc => exact False.elim
  | stuck => exact False.elim
end
end G
set_option Elab.async false
set_option linter.all false
set_option maxRecDepth 100000
set_option maxHeartbeats 0
namespace G
open PySem PySem.Spec L2 L3
def dd (x : Str) (i : Nat) : He.DefD := ⟨(x, none), x, x, defArgs (top i), defBody (top i), defScope (top i), [], []⟩
def fn : List He.DefD := [dd "is_int" 6, dd "is_word" 12, dd "is_rule" 13, dd "check_rule" 14, dd "all_rules" 15, dd "format_rule" 17, dd "item_in" 18, dd "parse_rule" 19, dd "_law_start" 21, dd "_law_draw" 22, dd "_law_pick" 23, dd "_law_error" 24, dd "_law_words" 25, dd "_law_rule" 26, dd "_law_rules" 27, dd "_law_parsed" 28, dd "_law_rejected" 29, dd "law" 30]
def fa : List He.Fa := [.glo "is_int", .glo "is_word", .glo "is_rule", .glo "check_rule", .glo "all_rules", .glo "format_rule", .glo "item_in", .glo "parse_rule", .glo "_law_start", .glo "_law_draw", .glo "_law_pick", .glo "_law_error", .glo "_law_words", .glo "_law_rule", .glo "_law_rules", .glo "_law_parsed", .glo "_law_rejected", .glo "law", .free "bool", .free "int", .free "isinstance", .free "len", .free "list", .free "range", .free "str", .free "tuple", .glo "BARS", .glo "CASES", .glo "ENDS", .glo "NUMBERS", .exc "BadNumber", .glo "BadNumber", .exc "BadRule", .glo "BadRule", .exc "BadText", .glo "BadText", .exc "NotFound", .glo "NotFound", .exc "OrderError", .glo "OrderError", .free "ValueError"]
abbrev exN : List Str := ["OrderError", "BadRule", "BadText", "BadNumber", "NotFound"]
def ex (K : PySem.W.Frag) : Bool := He.tupB K "BARS" ([[97, 104, 101, 97, 100], [98, 101, 104, 105, 110, 100]].map fun l => He.Dv.str (tx l)) && He.tupB K "CASES" ([[97, 112, 97, 114, 116], [109, 105, 120, 101, 100], [116, 111, 103, 101, 116, 104, 101, 114], [108, 97, 115, 116]].map fun l => He.Dv.str (tx l)) && He.tupB K "ENDS" ([[102, 105, 114, 115, 116], [98, 101, 104, 105, 110, 100]].map fun l => He.Dv.str (tx l)) && He.tupB K "NUMBERS" ([[115, 105, 103, 110, 115], [110, 117, 109, 98, 101, 114, 115], [115, 116, 114, 105, 99, 116]].map fun l => He.Dv.str (tx l)) && excsB K (exN.map (He.ga K)) && kitLB K (exN.map (He.ga K)) (.ref (He.ga K "BadNumber")) [false, false, false, true, false] && kitLB K (exN.map (He.ga K)) (.ref (He.ga K "BadRule")) [false, true, false, false, false] && kitLB K (exN.map (He.ga K)) (.ref (He.ga K "BadText")) [false, false, true, false, false] && kitLB K (exN.map (He.ga K)) (.ref (He.ga K "NotFound")) [false, false, false, false, true] && kitLB K (exN.map (He.ga K)) (.ref (He.ga K "OrderError")) [true, true, true, true, true] && kitLB K (exN.map (He.ga K)) (.type "ValueError") [true, true, true, true, true] && exmLB K (exN.map (He.ga K)) (.ref (He.ga K "OrderError"))
def Yc (K : PySem.W.Frag) : Pc := ⟨fun _ => 0, fun i => He.ga K (exN.getD i "")⟩
theorem facts {P : Program} {w : World} {K : PySem.W.Frag} {h : Heap} {mg : Str → Option Value} {f : Addr} (X : K.In h) (G : h.Ns mainGlobals mg) (hfa : mg ("law" : Str) = some (.ref f)) (c : He.SaysD fa fn K) (hx : ex K = true) :
    ∃ fd : FuncData, (∀ (s : Shared) (v : Value), BindsTo s fd ⟨[v], []⟩ [("_law_script", v)]) ∧ ∀ base : Heap, K.In base → base.Ns mainGlobals mg → FnOk P w K mg base (L2.CX P w) 7 f fd ["_law_script"] (spOf K (Yc K) m_law 1) := by
  unfold ex at hx
  simp only [Bool.and_eq_true] at hx
  have hY : ∀ c a, (exN.map (He.ga K))[c]? = some a → (Yc K).xc c = a := fun c a h => (ga_at h : He.ga K (exN.getD c "") = a)
  have Gb1 : Gb K mg (Yc K) := ⟨He.free_ok X G (c.fact 18 (f := .free "bool") rfl),
    He.free_ok X G (c.fact 19 (f := .free "int") rfl),
    He.free_ok X G (c.fact 20 (f := .free "isinstance") rfl),
    He.free_ok X G (c.fact 21 (f := .free "len") rfl),
    He.free_ok X G (c.fact 22 (f := .free "list") rfl),
    He.free_ok X G (c.fact 23 (f := .free "range") rfl),
    He.free_ok X G (c.fact 24 (f := .free "str") rfl),
    He.free_ok X G (c.fact 25 (f := .free "tuple") rfl),
    ⟨_, He.glo_ok X G (c.fact 26 (f := .glo "BARS") rfl), fun H => He.tupB_ok hx.1.1.1.1.1.1.1.1.1.1.1 H⟩,
    ⟨_, He.glo_ok X G (c.fact 27 (f := .glo "CASES") rfl), fun H => He.tupB_ok hx.1.1.1.1.1.1.1.1.1.1.2 H⟩,
    ⟨_, He.glo_ok X G (c.fact 28 (f := .glo "ENDS") rfl), fun H => He.tupB_ok hx.1.1.1.1.1.1.1.1.1.2 H⟩,
    ⟨_, He.glo_ok X G (c.fact 29 (f := .glo "NUMBERS") rfl), fun H => He.tupB_ok hx.1.1.1.1.1.1.1.1.2 H⟩,
    (let z := He.exc_ok (c.fact 30 (f := .exc "BadNumber") rfl); ⟨z.1, He.glo_ok X G (c.fact 31 (f := .glo "BadNumber") rfl), z.2.1, z.2.2.1, z.2.2.2⟩),
    (let z := He.exc_ok (c.fact 32 (f := .exc "BadRule") rfl); ⟨z.1, He.glo_ok X G (c.fact 33 (f := .glo "BadRule") rfl), z.2.1, z.2.2.1, z.2.2.2⟩),
    (let z := He.exc_ok (c.fact 34 (f := .exc "BadText") rfl); ⟨z.1, He.glo_ok X G (c.fact 35 (f := .glo "BadText") rfl), z.2.1, z.2.2.1, z.2.2.2⟩),
    (let z := He.exc_ok (c.fact 36 (f := .exc "NotFound") rfl); ⟨z.1, He.glo_ok X G (c.fact 37 (f := .glo "NotFound") rfl), z.2.1, z.2.2.1, z.2.2.2⟩),
    (let z := He.exc_ok (c.fact 38 (f := .exc "OrderError") rfl); ⟨z.1, He.glo_ok X G (c.fact 39 (f := .glo "OrderError") rfl), z.2.1, z.2.2.1, z.2.2.2⟩),
    ⟨_, He.glo_ok X G (c.fact 31 (f := .glo "BadNumber") rfl), (kitL_ok hY hx.1.1.1.1.1.1.1.2 hx.1.1.1.1.1.1.2)⟩,
    ⟨_, He.glo_ok X G (c.fact 33 (f := .glo "BadRule") rfl), (kitL_ok hY hx.1.1.1.1.1.1.1.2 hx.1.1.1.1.1.2)⟩,
    ⟨_, He.glo_ok X G (c.fact 35 (f := .glo "BadText") rfl), (kitL_ok hY hx.1.1.1.1.1.1.1.2 hx.1.1.1.1.2)⟩,
    ⟨_, He.glo_ok X G (c.fact 37 (f := .glo "NotFound") rfl), (kitL_ok hY hx.1.1.1.1.1.1.1.2 hx.1.1.1.2)⟩,
    ⟨_, He.glo_ok X G (c.fact 39 (f := .glo "OrderError") rfl), (kitL_ok hY hx.1.1.1.1.1.1.1.2 hx.1.1.2)⟩,
    ⟨He.free_ok X G (c.fact 40 (f := .free "ValueError") rfl), (kitL_ok hY hx.1.1.1.1.1.1.1.2 hx.1.2)⟩,
    exmL_ok hY (He.glo_ok X G (c.fact 39 (f := .glo "OrderError") rfl)) hx.2⟩
  obtain ⟨fd_is_int, F_is_int⟩ := c.def_ 0 (d := dd "is_int" 6) rfl
  obtain ⟨fd_is_word, F_is_word⟩ := c.def_ 1 (d := dd "is_word" 12) rfl
  obtain ⟨fd_is_rule, F_is_rule⟩ := c.def_ 2 (d := dd "is_rule" 13) rfl
  obtain ⟨fd_check_rule, F_check_rule⟩ := c.def_ 3 (d := dd "check_rule" 14) rfl
  obtain ⟨fd_all_rules, F_all_rules⟩ := c.def_ 4 (d := dd "all_rules" 15) rfl
  obtain ⟨fd_format_rule, F_format_rule⟩ := c.def_ 5 (d := dd "format_rule" 17) rfl
  obtain ⟨fd_item_in, F_item_in⟩ := c.def_ 6 (d := dd "item_in" 18) rfl
  obtain ⟨fd_parse_rule, F_parse_rule⟩ := c.def_ 7 (d := dd "parse_rule" 19) rfl
  obtain ⟨fd__law_start, F__law_start⟩ := c.def_ 8 (d := dd "_law_start" 21) rfl
  obtain ⟨fd__law_draw, F__law_draw⟩ := c.def_ 9 (d := dd "_law_draw" 22) rfl
  obtain ⟨fd__law_pick, F__law_pick⟩ := c.def_ 10 (d := dd "_law_pick" 23) rfl
  obtain ⟨fd__law_error, F__law_error⟩ := c.def_ 11 (d := dd "_law_error" 24) rfl
  obtain ⟨fd__law_words, F__law_words⟩ := c.def_ 12 (d := dd "_law_words" 25) rfl
  obtain ⟨fd__law_rule, F__law_rule⟩ := c.def_ 13 (d := dd "_law_rule" 26) rfl
  obtain ⟨fd__law_rules, F__law_rules⟩ := c.def_ 14 (d := dd "_law_rules" 27) rfl
  obtain ⟨fd__law_parsed, F__law_parsed⟩ := c.def_ 15 (d := dd "_law_parsed" 28) rfl
  obtain ⟨fd__law_rejected, F__law_rejected⟩ := c.def_ 16 (d := dd "_law_rejected" 29) rfl
  obtain ⟨fd_law, F_law⟩ := c.def_ 17 (d := dd "law" 30) rfl
  have e := hfa.symm.trans (He.glo_ok X G (c.fact 17 (f := .glo "law") rfl))
  cases e
  have b := FunD.bindsA (ps := ["_law_script"]) F_law fun _ _ _ _ _ _ us hl => match us, hl with | [_], _ => rfl
  refine ⟨fd_law, fun s v => b s [v] rfl, fun base _ _ => ?_⟩
  have d_is_int := ok_is_int (P := P) (w := w) (base := base) Gb1  F_is_int (He.glo_ok X G (c.fact 0 (f := .glo "is_int") rfl))
  have d_is_word := ok_is_word (P := P) (w := w) (base := base) Gb1  F_is_word (He.glo_ok X G (c.fact 1 (f := .glo "is_word") rfl))
  have d_is_rule := ok_is_rule (P := P) (w := w) (base := base) Gb1 d_is_word d_is_int F_is_rule (He.glo_ok X G (c.fact 2 (f := .glo "is_rule") rfl))
  have d_check_rule := ok_check_rule (P := P) (w := w) (base := base) Gb1 d_is_rule F_check_rule (He.glo_ok X G (c.fact 3 (f := .glo "check_rule") rfl))
  have d_all_rules := ok_all_rules (P := P) (w := w) (base := base) Gb1  F_all_rules (He.glo_ok X G (c.fact 4 (f := .glo "all_rules") rfl))
  have d_format_rule := ok_format_rule (P := P) (w := w) (base := base) Gb1 d_check_rule F_format_rule (He.glo_ok X G (c.fact 5 (f := .glo "format_rule") rfl))
  have d_item_in := ok_item_in (P := P) (w := w) (base := base) Gb1  F_item_in (He.glo_ok X G (c.fact 6 (f := .glo "item_in") rfl))
  have d_parse_rule := ok_parse_rule (P := P) (w := w) (base := base) Gb1 d_is_rule d_item_in F_parse_rule (He.glo_ok X G (c.fact 7 (f := .glo "parse_rule") rfl))
  have d__law_start := ok__law_start (P := P) (w := w) (base := base) Gb1  F__law_start (He.glo_ok X G (c.fact 8 (f := .glo "_law_start") rfl))
  have d__law_draw := ok__law_draw (P := P) (w := w) (base := base) Gb1  F__law_draw (He.glo_ok X G (c.fact 9 (f := .glo "_law_draw") rfl))
  have d__law_pick := ok__law_pick (P := P) (w := w) (base := base) Gb1 d__law_draw F__law_pick (He.glo_ok X G (c.fact 10 (f := .glo "_law_pick") rfl))
  have d__law_error := ok__law_error (P := P) (w := w) (base := base) Gb1  F__law_error (He.glo_ok X G (c.fact 11 (f := .glo "_law_error") rfl))
  have d__law_words := ok__law_words (P := P) (w := w) (base := base) Gb1  F__law_words (He.glo_ok X G (c.fact 12 (f := .glo "_law_words") rfl))
  have d__law_rule := ok__law_rule (P := P) (w := w) (base := base) Gb1 d__law_draw d__law_pick d__law_words F__law_rule (He.glo_ok X G (c.fact 13 (f := .glo "_law_rule") rfl))
  have d__law_rules := ok__law_rules (P := P) (w := w) (base := base) Gb1 d__law_words F__law_rules (He.glo_ok X G (c.fact 14 (f := .glo "_law_rules") rfl))
  have d__law_parsed := ok__law_parsed (P := P) (w := w) (base := base) Gb1 d_parse_rule d__law_error F__law_parsed (He.glo_ok X G (c.fact 15 (f := .glo "_law_parsed") rfl))
  have d__law_rejected := ok__law_rejected (P := P) (w := w) (base := base) Gb1 d__law_parsed F__law_rejected (He.glo_ok X G (c.fact 16 (f := .glo "_law_rejected") rfl))
  exact ok_law Gb1 d__law_start d__law_rule d_format_rule d__law_pick d__law_parsed d__law_rejected d__law_draw d_all_rules d__law_rules d_is_rule F_law
def loose0 : List Str := ["CASES", "NUMBERS", "BARS", "ENDS", "OrderError", "BadRule", "BadText", "BadNumber", "NotFound", "is_int", "is_word", "is_rule", "check_rule", "all_rules", "format_rule", "item_in", "parse_rule", "_law_start", "_law_draw", "_law_pick", "_law_error", "_law_words", "_law_rule", "_law_rules", "_law_parsed", "_law_rejected"]
def loose : List Str := loose0
abbrev R : PySem.W.OpenRow := PySem.W.OpenLaw.row PySem.Challenge.rw_orderrules_k12_whole_forms
abbrev hk : PySem.W.Hook := He.hookEx 4 fa fn ex
def ob (s : PySem.W.SharedT) : He.AlEx := He.obsEx 4 fa fn ex (HandSHeadRun.getT s)
theorem ob_eq (s : PySem.W.SharedT) : ob s = hk.obs s.abs := He.obsEx_eq (HandSHeadRun.getT_eq s)
theorem run (w : World) : HandSHeadRun.RunEq R (PySem.W.view R.prog [30]) hk ob 20000 loose w := by
  intro os
  kernel_rfl
end G
open PySem PySem.W PySem.Calls PyProof.Rows
theorem PySem.Challenge.cw_orderrules_k12_whole_forms_holds : PySem.Challenge.rw_orderrules_k12_whole_forms.Holds := by
  w_on; o_law
  refine HandSHeadRun.head_any (r := OpenLaw.row PySem.Challenge.rw_orderrules_k12_whole_forms) (q := view (OpenLaw.row PySem.Challenge.rw_orderrules_k12_whole_forms).prog [30]) (H := G.hk) (ob := G.ob) (M := 20000) (loose := G.loose) (d := HandSHeadRun.topDef (OpenLaw.row PySem.Challenge.rw_orderrules_k12_whole_forms).prog 30) (kwd := []) G.ob_eq
    (by kernel_rfl) (fun s => by kernel_rfl) G.run (by kernel_rfl) (by kernel_rfl) (by kernel_rfl) (by rfl) (by first | assumption | decide +kernel) (by decide +kernel) ⟨rfl, rfl, rfl, rfl, rfl, by decide +kernel⟩ ?hw ?hc
  case hw => w_witness2
  case hc =>
    refine L2.walk_ofE (l := PySem.Challenge.rw_orderrules_k12_whole_forms) (n := 63) (k := 7) (x := "_law_script") (CX := L2.CX0) rfl (by decide) (by kernel_rfl) ⟨rfl, by decide, by decide⟩ ?F (fun _ _ _ _ z => z)
    intro w mg fa h Yh Gn hmg0
    obtain ⟨K, KX, c, hx⟩ := Yh
    have hmg : mg ("law" : PySem.Str) = some (.ref fa) := by
      have e : (HandSHeadRun.topDef (OpenLaw.row PySem.Challenge.rw_orderrules_k12_whole_forms).prog 30).name = ("law" : PySem.Str) := by kernel_rfl
      rw [← e]
      exact hmg0
    obtain ⟨fd, hb, hF⟩ := G.facts (P := (PySem.Challenge.rw_orderrules_k12_whole_forms).prog) (w := w) KX Gn hmg c hx
    exact ⟨K, fd, fun vs H Q _ => L3.spOf K (G.Yc K) G.m_law 1 vs H Q L2.E0, KX, hb, fun H a ns hl _ hS => L3.law_sp hS (G.law_true ns hl), fun base h1 h2 => L3.fn0 (hF base h1 h2)⟩
